/- The pure statement of the law FnWinds, for every input: what the printed functions compute makes the law answer true. No conditions beyond what the row reads. -/
import Derived.Test.YtmgbefpidnaeoaaMFnWindsx4
namespace Go.Proofs.Ytmgbefpidnaeoaa.Pure
open Go.RowKit Go.Proofs.Ytmgbefpidnaeoaa.MFnWinds Go.Proofs.YtmgbefpidnaeoaaW.PrintWords Go.Proofs.YtmgbefpidnaeoaaW.PrintLast
set_option linter.unusedVariables false
set_option linter.unusedSimpArgs false

/-! base -/
theorem w64 {x : Int} (h1 : -9223372036854775808 ≤ x) (h2 : x ≤ 9223372036854775807) : wrap64 x = x := by
  unfold wrap64
  omega

theorem wf64 {x : Int} (h : (Lit.int .i64 x).wf = true) : -9223372036854775808 ≤ x ∧ x ≤ 9223372036854775807 := by
  have h2 : (decide (IntKind.i64.min ≤ x) && decide (x ≤ IntKind.i64.max)) = true := h
  rw [Bool.and_eq_true, decide_eq_true_eq, decide_eq_true_eq] at h2
  exact ⟨h2.1, h2.2⟩

theorem take_set_succ {α : Type} (xs : List α) (i : Nat) (v : α) (h : i < xs.length) : (xs.set i v).take (i + 1) = xs.take i ++ [v] := by
  rw [List.take_succ_eq_append_getElem (by simpa using h), List.take_set_of_le (Nat.le_refl i), List.getElem_set_self]

theorem step64 {i n : Nat} (h : i < n) (hn : n ≤ 4611686018427387904) : wrap64 ((i : Int) + 1) = ((i + 1 : Nat) : Int) := by
  rw [w64 (by omega) (by omega)]
  omega

theorem ev_done {α : Type} {g : Nat → Option α} {r : α} (h : ∀ k, g (k + 1) = some r) : Ev g r := Ev.step (f := fun _ => some r) h (Ev.now r)

theorem ev_const {α : Type} {o : Option α} {r : α} (h : o = some r) : Ev (fun _ => o) r := by
  subst h
  exact Ev.now r

/-! spec_l01In -/
theorem spec_l01In_v (a b c : Int) : spec_l01In.f a b c = some (decide (b ≤ a ∧ a ≤ c)) := by
  unfold spec_l01In.f
  by_cases h : a ≥ b
  · rw [if_pos h]
    simp [h]
  · rw [if_neg h]
    simp
    omega

/-! spec_l10Near -/
def nearP (a b : Int) : Prop := (-33554432 ≤ a ∧ a ≤ 33554432) ∧ (-33554432 ≤ b ∧ b ≤ 33554432)
instance (a b : Int) : Decidable (nearP a b) := by unfold nearP; infer_instance
theorem spec_l10Near_v (a b : Int) : spec_l10Near.f a b = some (decide (nearP a b)) := by
  unfold spec_l10Near.f nearP
  simp only [spec_l01In_v, Option.bind_some, decide_eq_true_eq]
  repeat' split
  all_goals first | (refine congrArg some (decide_eq_decide.mpr ?_); omega) | (refine congrArg some (Eq.symm (decide_eq_false ?_)); omega)

/-! rd_impl_Point -/
theorem rd_impl_Point (xs : List S29) (i : Nat) (h : i < xs.length) : rd_T29 xs (i : Int) = xs[i] := by
  unfold rd_T29
  simp [h]

/-! windV -/
def edgeV (ax ay bx by_ px py : Int) : Int :=
  if ay ≤ py ∧ py < by_ ∧ (bx - ax) * (py - ay) - (px - ax) * (by_ - ay) > 0 then 1
  else if by_ ≤ py ∧ py < ay ∧ (bx - ax) * (py - ay) - (px - ax) * (by_ - ay) < 0 then -1 else 0
theorem edgeV_bd (ax ay bx by_ px py : Int) : -1 ≤ edgeV ax ay bx by_ px py ∧ edgeV ax ay bx by_ px py ≤ 1 := by
  unfold edgeV
  split
  · omega
  · split <;> omega
def ptAt (l : List S29) (i : Nat) : S29 := l.getD i z29
def windFrom (l : List S29) (px py : Int) : Nat → Nat → Int
  | 0, _ => 0
  | d + 1, i => edgeV (ptAt l i).f0 (ptAt l i).f1 (ptAt l ((i + 1) % l.length)).f0 (ptAt l ((i + 1) % l.length)).f1 px py + windFrom l px py d (i + 1)
theorem windFrom_bd (l : List S29) (px py : Int) : ∀ (d i : Nat), -(d : Int) ≤ windFrom l px py d i ∧ windFrom l px py d i ≤ d
  | 0, _ => by simp [windFrom]
  | d + 1, i => by
    have h := windFrom_bd l px py d (i + 1)
    have e := edgeV_bd (ptAt l i).f0 (ptAt l i).f1 (ptAt l ((i + 1) % l.length)).f0 (ptAt l ((i + 1) % l.length)).f1 px py
    rw [windFrom]
    omega
def allNear (l : List S29) : Prop := ∀ i, i < l.length → nearP (ptAt l i).f0 (ptAt l i).f1
instance (l : List S29) : Decidable (allNear l) := by unfold allNear; infer_instance
def windV (l : List S29) (px py : Int) : Int := if nearP px py ∧ allNear l then windFrom l px py l.length 0 else 0
theorem rd_ptAt (l : List S29) (i : Nat) : rd_T29 l (i : Int) = ptAt l i := rfl
theorem mul_bd {x y : Int} (hx : -67108864 ≤ x) (hx2 : x ≤ 67108864) (hy : -67108864 ≤ y) (hy2 : y ≤ 67108864) : -4503599627370496 ≤ x * y ∧ x * y ≤ 4503599627370496 := by
  have h1 : 0 ≤ (67108864 - x) * (67108864 + y) := Int.mul_nonneg (by omega) (by omega)
  have h2 : 0 ≤ (67108864 + x) * (67108864 - y) := Int.mul_nonneg (by omega) (by omega)
  have h3 : 0 ≤ (67108864 - x) * (67108864 - y) := Int.mul_nonneg (by omega) (by omega)
  have h4 : 0 ≤ (67108864 + x) * (67108864 + y) := Int.mul_nonneg (by omega) (by omega)
  simp only [Int.sub_mul, Int.mul_sub, Int.add_mul, Int.mul_add] at h1 h2 h3 h4
  omega
/-- What both compute as the side of an edge, without wraps. -/
theorem sideW {ax ay bx by_ px py : Int} (ha : nearP ax ay) (hb : nearP bx by_) (hp : nearP px py) :
    wrap64 ((wrap64 ((wrap64 (bx - ax)) * (wrap64 (py - ay)))) - (wrap64 ((wrap64 (px - ax)) * (wrap64 (by_ - ay))))) = (bx - ax) * (py - ay) - (px - ax) * (by_ - ay) := by
  obtain ⟨⟨a1, a2⟩, a3, a4⟩ := ha
  obtain ⟨⟨b1, b2⟩, b3, b4⟩ := hb
  obtain ⟨⟨p1, p2⟩, p3, p4⟩ := hp
  have m1 := mul_bd (x := bx - ax) (y := py - ay) (by omega) (by omega) (by omega) (by omega)
  have m2 := mul_bd (x := px - ax) (y := by_ - ay) (by omega) (by omega) (by omega) (by omega)
  rw [w64 (x := bx - ax) (by omega) (by omega), w64 (x := py - ay) (by omega) (by omega), w64 (x := px - ax) (by omega) (by omega), w64 (x := by_ - ay) (by omega) (by omega)]
  rw [w64 (x := (bx - ax) * (py - ay)) (by omega) (by omega), w64 (x := (px - ax) * (by_ - ay)) (by omega) (by omega), w64 (by omega) (by omega)]
/-- The next place, around the list. -/
theorem nextW {i n : Nat} (h : i < n) (hn : n ≤ 4611686018427387904) : Int.tmod (wrap64 ((i : Int) + 1)) (n : Int) = (((i + 1) % n : Nat) : Int) := by
  rw [step64 h hn, Int.tmod_eq_emod_of_nonneg (by omega)]
  omega
theorem cnt_up {n i d e s : Int} (hn : -i ≤ n) (hn2 : n ≤ i) (hi : 0 ≤ i) (hi2 : i ≤ 1048576) : wrap64 (n + 1) = n + 1 ∧ wrap64 (n - 1) = n - 1 ∧ wrap64 (n + 1 - 1) = n := ⟨w64 (by omega) (by omega), w64 (by omega) (by omega), by rw [show n + 1 - 1 = n by omega]; exact w64 (by omega) (by omega)⟩

/-! windRev -/
def edgeP (px py : Int) (a b : S29) : Int := edgeV a.f0 a.f1 b.f0 b.f1 px py
theorem side_swap (ax ay bx by_ px py : Int) : (ax - bx) * (py - by_) - (px - bx) * (ay - by_) = -((bx - ax) * (py - ay) - (px - ax) * (by_ - ay)) := by
  simp only [Int.sub_mul, Int.mul_sub]
  omega
theorem edgeV_swap (ax ay bx by_ px py : Int) : edgeV bx by_ ax ay px py = - edgeV ax ay bx by_ px py := by
  unfold edgeV
  rw [side_swap]
  generalize (bx - ax) * (py - ay) - (px - ax) * (by_ - ay) = s
  by_cases h1 : ay ≤ py ∧ py < by_ ∧ s > 0
  · rw [if_pos h1, if_neg (by omega), if_pos (by omega)]
  · rw [if_neg h1]
    by_cases h2 : by_ ≤ py ∧ py < ay ∧ s < 0
    · rw [if_pos h2, if_pos (by omega)]
      omega
    · rw [if_neg h2, if_neg (by omega), if_neg (by omega)]
      omega
def pathW (px py : Int) : List S29 → Int
  | [] => 0
  | [_] => 0
  | a :: b :: t => edgeP px py a b + pathW px py (b :: t)
theorem pathW_snoc (px py : Int) (x y : S29) : ∀ l : List S29, pathW px py (l ++ [x] ++ [y]) = pathW px py (l ++ [x]) + edgeP px py x y
  | [] => by simp [pathW]
  | [a] => by simp [pathW]
  | a :: b :: t => by
    have h := pathW_snoc px py x y (b :: t)
    simp only [List.cons_append, pathW] at h ⊢
    rw [h]
    omega
theorem pathW_rev (px py : Int) : ∀ l : List S29, pathW px py l.reverse = - pathW px py l
  | [] => by simp [pathW]
  | [a] => by simp [pathW]
  | a :: b :: t => by
    have h := pathW_rev px py (b :: t)
    rw [List.reverse_cons, List.reverse_cons, pathW_snoc, ← List.reverse_cons, h, pathW]
    unfold edgeP
    rw [edgeV_swap a.f0 a.f1 b.f0 b.f1 px py]
    omega
theorem ptAt_get (l : List S29) (i : Nat) (h : i < l.length) : ptAt l i = l[i] := by
  unfold ptAt
  rw [List.getD_eq_getElem?_getD, List.getElem?_eq_getElem h, Option.getD_some]
theorem windFrom_path (l : List S29) (px py : Int) : ∀ d i : Nat, i + d = l.length → 0 < d → windFrom l px py d i = pathW px py (l.drop i) + edgeP px py (ptAt l (l.length - 1)) (ptAt l 0) := by
  intro d
  induction d with
  | zero =>
    intro i _ h
    omega
  | succ d ih =>
    intro i hi _
    have hi2 : i < l.length := by omega
    rw [windFrom, List.drop_eq_getElem_cons hi2]
    cases d with
    | zero =>
      rw [windFrom, List.drop_of_length_le (by omega), pathW, show (i + 1) % l.length = 0 by rw [show i + 1 = l.length by omega, Nat.mod_self], show l.length - 1 = i by omega]
      unfold edgeP
      omega
    | succ d =>
      have hi3 : i + 1 < l.length := by omega
      have h := ih (i + 1) (by omega) (by omega)
      rw [List.drop_eq_getElem_cons hi3] at h ⊢
      rw [pathW, h, Nat.mod_eq_of_lt hi3, ptAt_get l i hi2, ptAt_get l (i + 1) hi3]
      unfold edgeP
      omega
theorem windFrom_rev (l : List S29) (px py : Int) (h : 0 < l.length) : windFrom l.reverse px py l.reverse.length 0 = - windFrom l px py l.length 0 := by
  rw [windFrom_path l px py l.length 0 (by omega) h, windFrom_path l.reverse px py l.reverse.length 0 (by omega) (by simpa using h), List.drop_zero, List.drop_zero, pathW_rev]
  have e1 : ptAt l.reverse (l.reverse.length - 1) = ptAt l 0 := by
    rw [ptAt_get _ _ (by simp; omega), ptAt_get _ _ h, List.getElem_reverse]
    congr 1
    simp
  have e2 : ptAt l.reverse 0 = ptAt l (l.length - 1) := by
    rw [ptAt_get _ _ (by simpa using h), ptAt_get _ _ (by omega), List.getElem_reverse]
    rfl
  rw [e1, e2]
  unfold edgeP
  rw [edgeV_swap (ptAt l (l.length - 1)).f0 (ptAt l (l.length - 1)).f1]
  omega

/-! rd_impl_PointSS -/
theorem rd_impl_PointSS (xs : List (List S29)) (i : Nat) (h : i < xs.length) : rd_L3 xs (i : Int) = xs[i] := by
  unfold rd_L3
  simp [h]

/-! rd_int -/
theorem rd_int (xs : List Int) (i : Nat) (h : i < xs.length) : rd xs (i : Int) = xs[i] := by
  unfold rd
  simp [h]

/-! spec_WindOf -/
theorem spec_WindOf_j2 {x0 : List S29} {n i s px py ax ay bx by_ r : Int} {c : Bool}
    (h : Ev (fun k => spec_WindOf.l0 k x0 (if c = true then (if by_ ≤ py ∧ py < ay ∧ s < 0 then wrap64 (wrap64 (n + 1) - 1) else wrap64 (n + 1)) else (if by_ ≤ py ∧ py < ay ∧ s < 0 then wrap64 (n - 1) else n)) (wrap64 (i + 1)) px py) r) :
    Ev (fun k => spec_WindOf.j2 k x0 n i s c px py ax ay bx by_) r := by
  refine Ev.step (fun k => ?_) h
  simp only [spec_WindOf.j2]
  by_cases h1 : c = true <;> by_cases h2 : by_ ≤ py <;> by_cases h3 : py < ay <;> by_cases h4 : s < 0 <;> simp [h1, h2, h3, h4]
theorem spec_WindOf_j1 {x0 : List S29} {n px py ax ay bx by_ r : Int} {i : Nat} (ha : nearP ax ay) (hb : nearP bx by_) (hp : nearP px py) (hn : -(i : Int) ≤ n) (hn2 : n ≤ i) (hi : i < x0.length) (hl : x0.length ≤ 1048576)
    (h : Ev (fun k => spec_WindOf.l0 k x0 (n + edgeV ax ay bx by_ px py) ((i + 1 : Nat) : Int) px py) r) :
    Ev (fun k => spec_WindOf.j1 k x0 n (i : Int) false px py ax ay bx by_) r := by
  obtain ⟨u1, u2, u3⟩ := cnt_up (d := 0) (e := 0) (s := 0) hn hn2 (by omega) (by omega)
  have key : ∀ c : Bool, (c = true ↔ ay ≤ py ∧ py < by_ ∧ (bx - ax) * (py - ay) - (px - ax) * (by_ - ay) > 0) →
      Ev (fun k => spec_WindOf.j2 k x0 n (i : Int) ((bx - ax) * (py - ay) - (px - ax) * (by_ - ay)) c px py ax ay bx by_) r := by
    intro c hc
    refine spec_WindOf_j2 ?_
    rw [step64 hi (by omega)]
    have e : (if c = true then (if by_ ≤ py ∧ py < ay ∧ (bx - ax) * (py - ay) - (px - ax) * (by_ - ay) < 0 then wrap64 (wrap64 (n + 1) - 1) else wrap64 (n + 1)) else (if by_ ≤ py ∧ py < ay ∧ (bx - ax) * (py - ay) - (px - ax) * (by_ - ay) < 0 then wrap64 (n - 1) else n)) = n + edgeV ax ay bx by_ px py := by
      rw [u1, u2, u3]
      unfold edgeV
      by_cases q : c = true
      · rw [if_pos q, if_pos (hc.mp q), if_neg (by have := hc.mp q; omega)]
      · rw [if_neg q, if_neg (fun z => q (hc.mpr z))]
        split <;> omega
    rw [e]
    exact h
  by_cases h1 : ay ≤ py
  · by_cases h2 : py < by_
    · refine Ev.step (fun k => ?_) (key (decide ((bx - ax) * (py - ay) - (px - ax) * (by_ - ay) > 0)) (by simp [h1, h2]))
      simp only [spec_WindOf.j1]
      rw [if_neg (by decide), if_pos h1, if_pos h2, sideW ha hb hp]
    · refine Ev.step (fun k => ?_) (key false (by simp [h2]))
      simp only [spec_WindOf.j1]
      rw [if_neg (by decide), if_pos h1, if_neg h2, sideW ha hb hp]
  · refine Ev.step (fun k => ?_) (key false (by simp [h1]))
    simp only [spec_WindOf.j1]
    rw [if_neg (by decide), if_neg h1, sideW ha hb hp]
theorem spec_WindOf_l {x0 : List S29} {px py : Int} (hp : nearP px py) (hl : x0.length ≤ 1048576) (hN : allNear x0) : ∀ (d i : Nat) (n : Int), i + d = x0.length → -(i : Int) ≤ n → n ≤ i →
    Ev (fun k => spec_WindOf.l0 k x0 n (i : Int) px py) (n + windFrom x0 px py d i) := by
  intro d
  induction d with
  | zero =>
    intro i n hi h1 h2
    refine ev_done (fun k => ?_)
    simp only [spec_WindOf.l0]
    rw [if_neg (by omega)]
    simp [windFrom]
  | succ d ih =>
    intro i n hi h1 h2
    have hi2 : i < x0.length := by omega
    have hm : (i + 1) % x0.length < x0.length := Nat.mod_lt _ (by omega)
    have ha := hN i hi2
    have hb := hN _ hm
    have e := edgeV_bd (ptAt x0 i).f0 (ptAt x0 i).f1 (ptAt x0 ((i + 1) % x0.length)).f0 (ptAt x0 ((i + 1) % x0.length)).f1 px py
    have h := ih (i + 1) (n + edgeV (ptAt x0 i).f0 (ptAt x0 i).f1 (ptAt x0 ((i + 1) % x0.length)).f0 (ptAt x0 ((i + 1) % x0.length)).f1 px py) (by omega) (by omega) (by omega)
    rw [Int.add_assoc] at h
    refine Ev.step (fun k => ?_) (spec_WindOf_j1 ha hb hp h1 h2 hi2 hl h)
    simp only [spec_WindOf.l0]
    rw [if_pos (by omega), if_pos (by omega), if_neg (by omega), nextW hi2 (by omega), if_pos (by omega), if_pos (by omega), rd_ptAt, rd_ptAt]
    simp only [spec_l10Near_v, Option.bind_some]
    rw [if_pos (decide_eq_true ha), decide_eq_true hb]
    rfl
theorem spec_WindOf_bad {x0 : List S29} {px py : Int} (hp : nearP px py) (hl : x0.length ≤ 1048576) : ∀ (d i : Nat) (n : Int), i + d = x0.length → -(i : Int) ≤ n → n ≤ i → (∃ j, i ≤ j ∧ j < x0.length ∧ ¬ nearP (ptAt x0 j).f0 (ptAt x0 j).f1) →
    Ev (fun k => spec_WindOf.l0 k x0 n (i : Int) px py) 0 := by
  intro d
  induction d with
  | zero =>
    intro i n hi h1 h2 hj
    obtain ⟨j, hj⟩ := hj
    omega
  | succ d ih =>
    intro i n hi h1 h2 hj
    have hi2 : i < x0.length := by omega
    by_cases ha : nearP (ptAt x0 i).f0 (ptAt x0 i).f1
    · by_cases hb : nearP (ptAt x0 ((i + 1) % x0.length)).f0 (ptAt x0 ((i + 1) % x0.length)).f1
      · have e := edgeV_bd (ptAt x0 i).f0 (ptAt x0 i).f1 (ptAt x0 ((i + 1) % x0.length)).f0 (ptAt x0 ((i + 1) % x0.length)).f1 px py
        have h := ih (i + 1) (n + edgeV (ptAt x0 i).f0 (ptAt x0 i).f1 (ptAt x0 ((i + 1) % x0.length)).f0 (ptAt x0 ((i + 1) % x0.length)).f1 px py) (by omega) (by omega) (by omega) (by
          obtain ⟨j, j1, j2, j3⟩ := hj
          refine ⟨j, ?_, j2, j3⟩
          rcases Nat.lt_or_ge i j with q | q
          · omega
          · obtain rfl : i = j := by omega
            exact absurd ha j3)
        refine Ev.step (fun k => ?_) (spec_WindOf_j1 ha hb hp h1 h2 hi2 hl h)
        simp only [spec_WindOf.l0]
        rw [if_pos (by omega), if_pos (by omega), if_neg (by omega), nextW hi2 (by omega), if_pos (by omega), if_pos (by have := Nat.mod_lt (i + 1) (y := x0.length) (by omega); omega), rd_ptAt, rd_ptAt]
        simp only [spec_l10Near_v, Option.bind_some]
        rw [if_pos (decide_eq_true ha), decide_eq_true hb]
        rfl
      · refine Ev.step (f := fun k => spec_WindOf.j1 k x0 n (i : Int) true px py (ptAt x0 i).f0 (ptAt x0 i).f1 (ptAt x0 ((i + 1) % x0.length)).f0 (ptAt x0 ((i + 1) % x0.length)).f1) (fun k => ?_) (ev_done (fun k => by simp only [spec_WindOf.j1, if_true]))
        simp only [spec_WindOf.l0]
        rw [if_pos (by omega), if_pos (by omega), if_neg (by omega), nextW hi2 (by omega), if_pos (by omega), if_pos (by have := Nat.mod_lt (i + 1) (y := x0.length) (by omega); omega), rd_ptAt, rd_ptAt]
        simp only [spec_l10Near_v, Option.bind_some]
        rw [if_pos (decide_eq_true ha), decide_eq_false hb]
        rfl
    · refine Ev.step (f := fun k => spec_WindOf.j1 k x0 n (i : Int) true px py (ptAt x0 i).f0 (ptAt x0 i).f1 (ptAt x0 ((i + 1) % x0.length)).f0 (ptAt x0 ((i + 1) % x0.length)).f1) (fun k => ?_) (ev_done (fun k => by simp only [spec_WindOf.j1, if_true]))
      simp only [spec_WindOf.l0]
      rw [if_pos (by omega), if_pos (by omega), if_neg (by omega), nextW hi2 (by omega), if_pos (by omega), if_pos (by have := Nat.mod_lt (i + 1) (y := x0.length) (by omega); omega), rd_ptAt, rd_ptAt]
      simp only [spec_l10Near_v, Option.bind_some]
      rw [if_neg (by simpa using ha)]
theorem not_allNear {x0 : List S29} (h : ¬ allNear x0) : ∃ j, 0 ≤ j ∧ j < x0.length ∧ ¬ nearP (ptAt x0 j).f0 (ptAt x0 j).f1 := by
  apply Classical.byContradiction
  intro hc
  apply h
  intro i hi
  apply Classical.byContradiction
  intro hn
  exact hc ⟨i, Nat.zero_le _, hi, hn⟩
theorem spec_WindOf_v (x0 : List S29) (px py : Int) (hl : x0.length ≤ 1048576) : Ev (fun k => spec_WindOf.f k x0 px py) (windV x0 px py) := by
  unfold windV
  by_cases hp : nearP px py
  · have e : ∀ k, spec_WindOf.f k x0 px py = spec_WindOf.l0 k x0 0 ((0 : Nat) : Int) px py := fun k => by
      unfold spec_WindOf.f
      rw [spec_l10Near_v, Option.bind_some, if_pos (decide_eq_true hp)]
      rfl
    by_cases hN : allNear x0
    · rw [if_pos ⟨hp, hN⟩]
      have h := spec_WindOf_l hp hl hN x0.length 0 0 (by omega) (by omega) (by omega)
      rw [Int.zero_add] at h
      exact Ev.congr e h
    · rw [if_neg (fun z => hN z.2)]
      exact Ev.congr e (spec_WindOf_bad hp hl x0.length 0 0 (by omega) (by omega) (by omega) (not_allNear hN))
  · rw [if_neg (fun z => hp z.1)]
    refine Ev.congr (fun k => ?_) (Ev.now 0)
    unfold spec_WindOf.f
    rw [spec_l10Near_v, Option.bind_some, if_neg (by simpa using hp)]

/-! impl_inRange -/
theorem impl_inRange_v (a b c : Int) : impl_inRange.f a b c = some (decide (b ≤ a ∧ a ≤ c)) := by
  unfold impl_inRange.f
  by_cases h : a ≥ b
  · rw [if_pos h]
    simp [h]
  · rw [if_neg h]
    simp
    omega

/-! impl_isNear -/
theorem impl_isNear_v (a b : Int) : impl_isNear.f a b = some (decide (nearP a b)) := by
  unfold impl_isNear.f nearP
  simp only [impl_inRange_v, Option.bind_some, decide_eq_true_eq]
  repeat' split
  all_goals first | (refine congrArg some (decide_eq_decide.mpr ?_); omega) | (refine congrArg some (Eq.symm (decide_eq_false ?_)); omega)

/-! impl_WindOf -/
theorem impl_WindOf_j2 {x0 : List S29} {n px py ax ay bx by_ r s : Int} {i m : Int} {c : Bool}
    (h : Ev (fun k => impl_WindOf.l1 k x0 (if c = true then wrap64 (n + 1) else (if by_ ≤ py ∧ py < ay ∧ s < 0 then wrap64 (n - 1) else n)) x0 m (wrap64 (i + 1)) px py) r) :
    Ev (fun k => impl_WindOf.j2 k x0 n s x0 m i c px py ax ay bx by_) r := by
  refine Ev.step (fun k => ?_) h
  simp only [impl_WindOf.j2]
  by_cases h1 : c = true <;> by_cases h2 : by_ ≤ py <;> by_cases h3 : py < ay <;> by_cases h4 : s < 0 <;> simp [h1, h2, h3, h4]
theorem impl_WindOf_l {x0 : List S29} {px py : Int} (hp : nearP px py) (hl : x0.length ≤ 1048576) (hN : allNear x0) : ∀ (d i : Nat) (n : Int), i + d = x0.length → -(i : Int) ≤ n → n ≤ i →
    Ev (fun k => impl_WindOf.l1 k x0 n x0 (x0.length : Int) (i : Int) px py) (n + windFrom x0 px py d i) := by
  intro d
  induction d with
  | zero =>
    intro i n hi h1 h2
    refine ev_done (fun k => ?_)
    simp only [impl_WindOf.l1]
    rw [if_neg (by omega)]
    simp [windFrom]
  | succ d ih =>
    intro i n hi h1 h2
    have hi2 : i < x0.length := by omega
    have hm : (i + 1) % x0.length < x0.length := Nat.mod_lt _ (by omega)
    have ha := hN i hi2
    have hb := hN _ hm
    rw [windFrom]
    generalize hA : ptAt x0 i = A at *
    generalize hB : ptAt x0 ((i + 1) % x0.length) = B at *
    obtain ⟨u1, u2, u3⟩ := cnt_up (d := 0) (e := 0) (s := 0) h1 h2 (by omega) (by omega)
    have e := edgeV_bd A.f0 A.f1 B.f0 B.f1 px py
    have h := ih (i + 1) (n + edgeV A.f0 A.f1 B.f0 B.f1 px py) (by omega) (by omega) (by omega)
    rw [Int.add_assoc] at h
    have key : ∀ c : Bool, (c = true ↔ A.f1 ≤ py ∧ py < B.f1 ∧ (B.f0 - A.f0) * (py - A.f1) - (px - A.f0) * (B.f1 - A.f1) > 0) →
        Ev (fun k => impl_WindOf.j2 k x0 n ((B.f0 - A.f0) * (py - A.f1) - (px - A.f0) * (B.f1 - A.f1)) x0 (x0.length : Int) (i : Int) c px py A.f0 A.f1 B.f0 B.f1) (n + (edgeV A.f0 A.f1 B.f0 B.f1 px py + windFrom x0 px py d (i + 1))) := by
      intro c hc
      refine impl_WindOf_j2 ?_
      rw [step64 hi2 (by omega)]
      have e : (if c = true then wrap64 (n + 1) else (if B.f1 ≤ py ∧ py < A.f1 ∧ (B.f0 - A.f0) * (py - A.f1) - (px - A.f0) * (B.f1 - A.f1) < 0 then wrap64 (n - 1) else n)) = n + edgeV A.f0 A.f1 B.f0 B.f1 px py := by
        rw [u1, u2]
        unfold edgeV
        by_cases q : c = true
        · rw [if_pos q, if_pos (hc.mp q)]
        · rw [if_neg q, if_neg (fun z => q (hc.mpr z))]
          split <;> omega
      rw [e]
      exact h
    by_cases c1 : A.f1 ≤ py
    · by_cases c2 : py < B.f1
      · refine Ev.step (fun k => ?_) (key (decide ((B.f0 - A.f0) * (py - A.f1) - (px - A.f0) * (B.f1 - A.f1) > 0)) (by simp [c1, c2]))
        simp only [impl_WindOf.l1]
        rw [if_pos (by omega), if_pos (by omega), if_pos (by omega), if_neg (by omega), nextW hi2 (by omega), if_pos (by omega), if_pos (by omega), rd_ptAt, rd_ptAt, hA, hB, if_pos c1, if_pos c2, sideW ha hb hp]
      · refine Ev.step (fun k => ?_) (key false (by simp [c2]))
        simp only [impl_WindOf.l1]
        rw [if_pos (by omega), if_pos (by omega), if_pos (by omega), if_neg (by omega), nextW hi2 (by omega), if_pos (by omega), if_pos (by omega), rd_ptAt, rd_ptAt, hA, hB, if_pos c1, if_neg c2, sideW ha hb hp]
    · refine Ev.step (fun k => ?_) (key false (by simp [c1]))
      simp only [impl_WindOf.l1]
      rw [if_pos (by omega), if_pos (by omega), if_pos (by omega), if_neg (by omega), nextW hi2 (by omega), if_pos (by omega), if_pos (by omega), rd_ptAt, rd_ptAt, hA, hB, if_neg c1, sideW ha hb hp]
theorem impl_WindOf_chk {x0 : List S29} {px py r : Int} (hl : x0.length ≤ 1048576) (hN : allNear x0) (h : Ev (fun k => impl_WindOf.l1 k x0 0 x0 (x0.length : Int) 0 px py) r) : ∀ (d i : Nat), i + d = x0.length →
    Ev (fun k => impl_WindOf.l0 k x0 x0 (x0.length : Int) (i : Int) px py) r := by
  intro d
  induction d with
  | zero =>
    intro i hi
    refine Ev.step (fun k => ?_) h
    simp only [impl_WindOf.l0]
    rw [if_neg (by omega)]
  | succ d ih =>
    intro i hi
    have hi2 : i < x0.length := by omega
    refine Ev.step (fun k => ?_) (ih (i + 1) (by omega))
    simp only [impl_WindOf.l0]
    rw [if_pos (by omega), if_pos (by omega), if_pos (by omega), rd_ptAt, impl_isNear_v, Option.bind_some, if_pos (decide_eq_true (hN i hi2)), step64 hi2 (by omega)]
theorem impl_WindOf_bad {x0 : List S29} {px py : Int} (hl : x0.length ≤ 1048576) : ∀ (d i : Nat), i + d = x0.length → (∃ j, i ≤ j ∧ j < x0.length ∧ ¬ nearP (ptAt x0 j).f0 (ptAt x0 j).f1) →
    Ev (fun k => impl_WindOf.l0 k x0 x0 (x0.length : Int) (i : Int) px py) 0 := by
  intro d
  induction d with
  | zero =>
    intro i hi hj
    obtain ⟨j, hj⟩ := hj
    omega
  | succ d ih =>
    intro i hi hj
    have hi2 : i < x0.length := by omega
    by_cases ha : nearP (ptAt x0 i).f0 (ptAt x0 i).f1
    · refine Ev.step (fun k => ?_) (ih (i + 1) (by omega) (by
          obtain ⟨j, j1, j2, j3⟩ := hj
          refine ⟨j, ?_, j2, j3⟩
          rcases Nat.lt_or_ge i j with q | q
          · omega
          · obtain rfl : i = j := by omega
            exact absurd ha j3))
      simp only [impl_WindOf.l0]
      rw [if_pos (by omega), if_pos (by omega), if_pos (by omega), rd_ptAt, impl_isNear_v, Option.bind_some, if_pos (decide_eq_true ha), step64 hi2 (by omega)]
    · refine ev_done (fun k => ?_)
      simp only [impl_WindOf.l0]
      rw [if_pos (by omega), if_pos (by omega), if_pos (by omega), rd_ptAt, impl_isNear_v, Option.bind_some, if_neg (by simpa using ha)]
theorem impl_WindOf_v (x0 : List S29) (px py : Int) (hl : x0.length ≤ 1048576) : Ev (fun k => impl_WindOf.f k x0 px py) (windV x0 px py) := by
  unfold windV
  by_cases hp : nearP px py
  · have e : ∀ k, impl_WindOf.f k x0 px py = impl_WindOf.l0 k x0 x0 (x0.length : Int) ((0 : Nat) : Int) px py := fun k => by
      unfold impl_WindOf.f
      rw [impl_isNear_v, Option.bind_some, if_pos (decide_eq_true hp)]
      rfl
    by_cases hN : allNear x0
    · rw [if_pos ⟨hp, hN⟩]
      have h := impl_WindOf_l hp hl hN x0.length 0 0 (by omega) (by omega) (by omega)
      rw [Int.zero_add] at h
      exact Ev.congr e (impl_WindOf_chk hl hN h x0.length 0 (by omega))
    · rw [if_neg (fun z => hN z.2)]
      exact Ev.congr e (impl_WindOf_bad hl x0.length 0 (by omega) (not_allNear hN))
  · rw [if_neg (fun z => hp z.1)]
    refine Ev.congr (fun k => ?_) (Ev.now 0)
    unfold impl_WindOf.f
    rw [impl_isNear_v, Option.bind_some, if_neg (by simpa using hp)]

/-! Covers_i -/
def windSum (px py : Int) : List (List S29) → Int
  | [] => 0
  | x :: xs => windV x px py + windSum px py xs
theorem windV_bd (x : List S29) (px py : Int) (h : x.length ≤ 1048576) : -1048576 ≤ windV x px py ∧ windV x px py ≤ 1048576 := by
  unfold windV
  split
  · have := windFrom_bd x px py x.length 0
    omega
  · omega
theorem windSum_bd (px py : Int) : ∀ (l : List (List S29)), (∀ x ∈ l, x.length ≤ 1048576) → -(1048576 * (l.length : Int)) ≤ windSum px py l ∧ windSum px py l ≤ 1048576 * (l.length : Int)
  | [], _ => by simp [windSum]
  | x :: xs, h => by
    have h1 := windSum_bd px py xs (fun y hy => h y (List.mem_cons_of_mem _ hy))
    have h2 := windV_bd x px py (h x List.mem_cons_self)
    rw [windSum, List.length_cons]
    omega
def coversB (l : List (List S29)) (even : Bool) (px py : Int) : Bool := if even = true then (Int.tmod (windSum px py l) 2) != 0 else windSum px py l != 0
theorem impl_Covers_l (x0 : List (List S29)) (even : Bool) (px py : Int) (hn : x0.length ≤ 1048576) (hm : ∀ x ∈ x0, x.length ≤ 1048576) : ∀ (d i : Nat) (n : Int), i + d = x0.length → -(1048576 * (i : Int)) ≤ n → n ≤ 1048576 * (i : Int) →
    Ev (fun k => impl_Covers.l0 k even n x0 (x0.length : Int) (i : Int) px py) (if even = true then (Int.tmod (n + windSum px py (x0.drop i)) 2) != 0 else (n + windSum px py (x0.drop i)) != 0) := by
  intro d
  induction d with
  | zero =>
    intro i n hi h1 h2
    refine ev_done (fun k => ?_)
    simp only [impl_Covers.l0]
    rw [if_neg (by omega), List.drop_of_length_le (by omega), windSum, Int.add_zero]
    split <;> rfl
  | succ d ih =>
    intro i n hi h1 h2
    have hi2 : i < x0.length := by omega
    have hb := windV_bd x0[i] px py (hm _ (List.getElem_mem hi2))
    rw [List.drop_eq_getElem_cons hi2, windSum]
    have q := ih (i + 1) (n + windV x0[i] px py) (by omega) (by omega) (by omega)
    rw [Int.add_assoc] at q
    refine Ev.step (f := fun k => (impl_WindOf.f k x0[i] px py).bind fun t => impl_Covers.l0 k even (wrap64 (n + t)) x0 (x0.length : Int) ((i + 1 : Nat) : Int) px py) (fun k => ?_) (Ev.bind (impl_WindOf_v _ px py (hm _ (List.getElem_mem hi2))) ?_)
    · simp only [impl_Covers.l0]
      rw [if_pos (by omega), if_pos (by omega), if_pos (by omega), step64 hi2 (by omega), rd_impl_PointSS _ _ hi2]
    · simp only [w64 (x := n + windV x0[i] px py) (by omega) (by omega)]
      exact q
theorem impl_Covers_v (x0 : List (List S29)) (even : Bool) (px py : Int) (hn : x0.length ≤ 1048576) (hm : ∀ x ∈ x0, x.length ≤ 1048576) : Ev (fun k => impl_Covers.f k x0 even px py) (coversB x0 even px py) := by
  have q := impl_Covers_l x0 even px py hn hm x0.length 0 0 (by omega) (by omega) (by omega)
  rw [Int.zero_add] at q
  exact q

/-! rectW -/
theorem edge_flat {ax bx y px py : Int} : edgeV ax y bx y px py = 0 := by
  unfold edgeV
  rw [if_neg (by omega), if_neg (by omega)]
theorem sgn_mul {u D : Int} (hD : 0 < D) : (u * D < 0 ↔ u < 0) ∧ (u * D > 0 ↔ u > 0) := by
  have h1 : u ≤ -1 → u * D ≤ -1 * D := fun h => Int.mul_le_mul_of_nonneg_right h (by omega)
  have h2 : 0 ≤ u → 0 ≤ u * D := fun h => Int.mul_nonneg h (by omega)
  have h3 : 1 ≤ u → 1 * D ≤ u * D := fun h => Int.mul_le_mul_of_nonneg_right h (by omega)
  have h4 : u ≤ 0 → u * D ≤ 0 * D := fun h => Int.mul_le_mul_of_nonneg_right h (by omega)
  constructor
  · constructor
    · intro h
      by_cases q : u < 0
      · exact q
      · have := h2 (by omega)
        omega
    · intro h
      have := h1 (by omega)
      omega
  · constructor
    · intro h
      by_cases q : 0 < u
      · exact q
      · have := h4 (by omega)
        omega
    · intro h
      have := h3 (by omega)
      omega
theorem edge_up {x y0 y1 px py : Int} (h : y0 < y1) : edgeV x y0 x y1 px py = if y0 ≤ py ∧ py < y1 ∧ px < x then 1 else 0 := by
  unfold edgeV
  have e : (x - x) * (py - y0) - (px - x) * (y1 - y0) = -((px - x) * (y1 - y0)) := by rw [Int.sub_self, Int.zero_mul]; omega
  rw [e]
  have s := (sgn_mul (u := px - x) (D := y1 - y0) (by omega)).1
  by_cases q : y0 ≤ py ∧ py < y1 ∧ px < x
  · rw [if_pos q, if_pos ⟨q.1, q.2.1, by have := s.mpr (by omega); omega⟩]
  · rw [if_neg q, if_neg, if_neg (by omega)]
    rintro ⟨h1, h2, h3⟩
    have := s.mp (by omega)
    omega
theorem edge_down {x y0 y1 px py : Int} (h : y0 < y1) : edgeV x y1 x y0 px py = if y0 ≤ py ∧ py < y1 ∧ px < x then -1 else 0 := by
  unfold edgeV
  have e : (x - x) * (py - y1) - (px - x) * (y0 - y1) = (px - x) * (y1 - y0) := by
    rw [Int.sub_self, Int.zero_mul]
    simp only [Int.mul_sub]
    omega
  rw [e]
  have s := (sgn_mul (u := px - x) (D := y1 - y0) (by omega)).1
  rw [if_neg (by omega)]
  by_cases q : y0 ≤ py ∧ py < y1 ∧ px < x
  · rw [if_pos q, if_pos ⟨q.1, q.2.1, s.mpr (by omega)⟩]
  · rw [if_neg q, if_neg]
    rintro ⟨h1, h2, h3⟩
    have := s.mp h3
    omega
def inB (X0 Y0 X1 Y1 px py : Int) : Int := if X0 ≤ px ∧ px < X1 ∧ Y0 ≤ py ∧ py < Y1 then 1 else 0
theorem rect5_sum {X0 Y0 X1 Y1 px py : Int} (hx : X0 < X1) (hy : Y0 < Y1) : windFrom [⟨X0, Y0⟩, ⟨X1, Y0⟩, ⟨X1, Y1⟩, ⟨X0, Y1⟩, ⟨X0, Y0⟩] px py 5 0 = inB X0 Y0 X1 Y1 px py := by
  have h : windFrom [⟨X0, Y0⟩, ⟨X1, Y0⟩, ⟨X1, Y1⟩, ⟨X0, Y1⟩, ⟨X0, Y0⟩] px py 5 0 = edgeV X0 Y0 X1 Y0 px py + (edgeV X1 Y0 X1 Y1 px py + (edgeV X1 Y1 X0 Y1 px py + (edgeV X0 Y1 X0 Y0 px py + (edgeV X0 Y0 X0 Y0 px py + 0)))) := by simp [windFrom, ptAt]
  rw [h, edge_flat, edge_flat, edge_flat, edge_up hy, edge_down hy]
  unfold inB
  repeat' split
  all_goals omega
theorem rect4_sum {X0 Y0 X1 Y1 px py : Int} (hx : X0 < X1) (hy : Y0 < Y1) : windFrom [⟨X0, Y0⟩, ⟨X1, Y0⟩, ⟨X1, Y1⟩, ⟨X0, Y1⟩] px py 4 0 = inB X0 Y0 X1 Y1 px py := by
  have h : windFrom [⟨X0, Y0⟩, ⟨X1, Y0⟩, ⟨X1, Y1⟩, ⟨X0, Y1⟩] px py 4 0 = edgeV X0 Y0 X1 Y0 px py + (edgeV X1 Y0 X1 Y1 px py + (edgeV X1 Y1 X0 Y1 px py + (edgeV X0 Y1 X0 Y0 px py + 0))) := by simp [windFrom, ptAt]
  rw [h, edge_flat, edge_flat, edge_up hy, edge_down hy]
  unfold inB
  repeat' split
  all_goals omega
def smallP (x : Int) : Prop := -100000 ≤ x ∧ x ≤ 100000
theorem allNear_of (l : List S29) (h : ∀ v ∈ l, smallP v.f0 ∧ smallP v.f1) : allNear l := by
  intro i hi
  have e : ptAt l i = l[i] := by
    unfold ptAt
    rw [List.getD_eq_getElem?_getD, List.getElem?_eq_getElem hi, Option.getD_some]
  have q := h _ (List.getElem_mem hi)
  rw [e]
  unfold nearP
  unfold smallP at q
  omega
theorem windV_near (l : List S29) (px py : Int) (h : ∀ v ∈ l, smallP v.f0 ∧ smallP v.f1) (hx : smallP px) (hy : smallP py) : windV l px py = windFrom l px py l.length 0 := by
  unfold windV
  rw [if_pos]
  refine ⟨?_, allNear_of l h⟩
  unfold nearP
  unfold smallP at hx hy
  omega
theorem rect5_wind {X0 Y0 X1 Y1 px py : Int} (hx : X0 < X1) (hy : Y0 < Y1) (s0 : smallP X0) (s1 : smallP X1) (s2 : smallP Y0) (s3 : smallP Y1) (s4 : smallP px) (s5 : smallP py) : windV [⟨X0, Y0⟩, ⟨X1, Y0⟩, ⟨X1, Y1⟩, ⟨X0, Y1⟩, ⟨X0, Y0⟩] px py = inB X0 Y0 X1 Y1 px py := by
  rw [windV_near _ px py (by simp [s0, s1, s2, s3]) s4 s5]
  exact rect5_sum hx hy
theorem rect4_wind {X0 Y0 X1 Y1 px py : Int} (hx : X0 < X1) (hy : Y0 < Y1) (s0 : smallP X0) (s1 : smallP X1) (s2 : smallP Y0) (s3 : smallP Y1) (s4 : smallP px) (s5 : smallP py) : windV [⟨X0, Y0⟩, ⟨X1, Y0⟩, ⟨X1, Y1⟩, ⟨X0, Y1⟩] px py = inB X0 Y0 X1 Y1 px py := by
  rw [windV_near _ px py (by simp [s0, s1, s2, s3]) s4 s5]
  exact rect4_sum hx hy

/-! DrawB -/
theorem and255 (n : Int) : Go.bits .and .i64 n 255 = n % 256 := by
  have h255 : (BitVec.ofInt 64 255).toNat = 2 ^ 8 - 1 := by decide
  have key : (BitVec.ofInt 64 n &&& BitVec.ofInt 64 255).toNat = (n % ((2 ^ 64 : Nat) : Int)).toNat % 2 ^ 8 := by
    rw [BitVec.toNat_and, BitVec.toNat_ofInt, h255, Nat.and_two_pow_sub_one_eq_mod]
  show IntKind.i64.wrap ((BitVec.ofInt 64 n &&& BitVec.ofInt 64 255).toNat : Nat) = n % 256
  rw [key, IntKind.wrap_i64]
  omega
theorem byte_r (l : List Int) (p s : Int) (hp : 0 ≤ p) (hl : p ≤ l.length) (hn : l.length ≤ 1048576) : ∃ b q t : Int, spec_l01Byte.f l p s = some (b, q, t) ∧ 0 ≤ b ∧ b ≤ 255 ∧ 0 ≤ q ∧ q ≤ l.length := by
  unfold spec_l01Byte.f
  by_cases h : p < (l.length : Int)
  · rw [if_pos h, if_pos hp]
    refine ⟨_, _, _, rfl, ?_, ?_, ?_, ?_⟩
    · rw [and255]
      omega
    · rw [and255]
      omega
    · rw [w64 (by omega) (by omega)]
      omega
    · rw [w64 (by omega) (by omega)]
      omega
  · rw [if_neg h]
    refine ⟨_, _, _, rfl, ?_, ?_, hp, hl⟩
    · rw [and255]
      omega
    · rw [and255]
      omega
theorem below_r (l : List Int) (p s n : Int) (hp : 0 ≤ p) (hl : p ≤ l.length) (hn : l.length ≤ 1048576) (h0 : 0 < n) (h1 : n ≤ 9223372036854775807) : ∃ b q t : Int, spec_l01Below.f l p s n = some (b, q, t) ∧ 0 ≤ b ∧ b < n ∧ 0 ≤ q ∧ q ≤ l.length := by
  unfold spec_l01Below.f
  rw [if_neg (by omega)]
  by_cases h : n ≤ 256
  · obtain ⟨b, q, t, e, b0, b1, q0, q1⟩ := byte_r l p s hp hl hn
    rw [if_pos h, e]
    simp only [Option.bind_some]
    rw [if_neg (by omega)]
    refine ⟨_, _, _, rfl, ?_, ?_, q0, q1⟩
    · exact Int.tmod_nonneg _ b0
    · exact Int.tmod_lt_of_pos _ h0
  · obtain ⟨b, q, t, e, b0, b1, q0, q1⟩ := byte_r l p s hp hl hn
    obtain ⟨b', q', t', e', b0', b1', q0', q1'⟩ := byte_r l q t q0 q1 hn
    obtain ⟨b2, q2, t2, e2, b02, b12, q02, q12⟩ := byte_r l q' t' q0' q1' hn
    obtain ⟨b3, q3, t3, e3, b03, b13, q03, q13⟩ := byte_r l q2 t2 q02 q12 hn
    rw [if_neg h, e]
    simp only [Option.bind_some, e', e2, e3]
    rw [if_neg (by omega)]
    refine ⟨_, _, _, rfl, ?_, ?_, q03, q13⟩
    · refine Int.tmod_nonneg _ ?_
      rw [w64 (x := b * 16777216) (by omega) (by omega), w64 (x := b' * 65536) (by omega) (by omega), w64 (x := b2 * 256) (by omega) (by omega), w64 (x := b * 16777216 + b' * 65536) (by omega) (by omega), w64 (x := b * 16777216 + b' * 65536 + b2 * 256) (by omega) (by omega), w64 (by omega) (by omega)]
      omega
    · exact Int.tmod_lt_of_pos _ h0
theorem new_l (l : List Int) (hn : l.length ≤ 1048576) : ∀ (d : Nat) (i : Int) (x3 : Int), i + d = 4000 → 0 ≤ i → ∃ s, Ev (fun k => spec_l01New.l0 k l x3 i) (l, 0, s) := by
  intro d
  induction d with
  | zero =>
    intro i x3 hi h0
    refine ⟨x3, ev_done (fun k => ?_)⟩
    simp only [spec_l01New.l0]
    by_cases h : i < (l.length : Int)
    · rw [if_pos h, if_neg (by omega)]
    · rw [if_neg h]
  | succ d ih =>
    intro i x3 hi h0
    by_cases h : i < (l.length : Int)
    · obtain ⟨s, hs⟩ := ih (i + 1) (Go.bits .and .i64 (wrap64 ((wrap64 ((wrap64 (x3 * 131)) + (wrap64 (rd l i)))) + 7)) 1073741823) (by omega) (by omega)
      refine ⟨s, Ev.step (fun k => ?_) hs⟩
      simp only [spec_l01New.l0]
      rw [if_pos h, if_pos (by omega), if_pos h0, w64 (x := i + 1) (by omega) (by omega)]
    · refine ⟨x3, ev_done (fun k => ?_)⟩
      simp only [spec_l01New.l0]
      rw [if_neg h]
theorem new_v (l : List Int) (hn : l.length ≤ 1048576) : ∃ s, Ev (fun k => spec_l01New.f k l) (l, 0, s) := by
  obtain ⟨s, hs⟩ := new_l l hn 4000 0 (wrap64 (28001 + (l.length : Int))) (by omega) (by omega)
  exact ⟨s, hs⟩

/-! DrawPts -/
theorem ptR (l : List Int) (p s : Int) (hp : 0 ≤ p) (hl : p ≤ l.length) (hn : l.length ≤ 1048576) : ∃ a b q t : Int, spec_l04Point.f l p s = some (a, b, q, t) ∧ (-300 ≤ a ∧ a ≤ 3299) ∧ (-300 ≤ b ∧ b ≤ 3299) ∧ 0 ≤ q ∧ q ≤ l.length := by
  obtain ⟨b0, q0, t0, e0, l0, u0, v0, w0⟩ := below_r l p s 3600 hp hl hn (by omega) (by omega)
  obtain ⟨b1, q1, t1, e1, l1, u1, v1, w1⟩ := below_r l q0 t0 3600 v0 w0 hn (by omega) (by omega)
  unfold spec_l04Point.f
  rw [e0]
  simp only [Option.bind_some, e1]
  rw [w64 (x := b0 - 300) (by omega) (by omega), w64 (x := b1 - 300) (by omega) (by omega)]
  exact ⟨_, _, _, _, rfl, by omega, by omega, v1, w1⟩
def ptIn (x : S29) : Prop := (-300 ≤ x.f0 ∧ x.f0 ≤ 3299) ∧ (-300 ≤ x.f1 ∧ x.f1 ≤ 3299)
theorem drawPts_l (l : List Int) (hn : l.length ≤ 1048576) : ∀ (d : Nat) (i : Int) (acc : List S29) (p s : Int), i + d = 8 → 0 ≤ i → (acc.length : Int) = i → (∀ v ∈ acc, ptIn v) → 0 ≤ p → p ≤ l.length →
    ∃ r, Ev (fun k => spec_DrawPoints.l0 k acc i l p s) r ∧ (4 ≤ r.length ∧ r.length ≤ 8) ∧ ∀ v ∈ r, ptIn v := by
  intro d
  induction d with
  | zero =>
    intro i acc p s hi h0 ha hv hp hl
    obtain ⟨b, q, t, e, b0, b1, q0, q1⟩ := below_r l p s 5 hp hl hn (by omega) (by omega)
    refine ⟨acc, ev_done (fun k => ?_), by omega, hv⟩
    simp only [spec_DrawPoints.l0, e, Option.bind_some, w64 (x := 4 + b) (by omega) (by omega)]
    rw [if_neg (by omega)]
  | succ d ih =>
    intro i acc p s hi h0 ha hv hp hl
    obtain ⟨b, q, t, e, b0, b1, q0, q1⟩ := below_r l p s 5 hp hl hn (by omega) (by omega)
    by_cases hb : i < 4 + b
    · obtain ⟨x, y, q2, t2, e2, hx, hy, v2, w2⟩ := ptR l q t q0 q1 hn
      obtain ⟨r, h1, h2, h3⟩ := ih (i + 1) (acc ++ [⟨x, y⟩]) q2 t2 (by omega) (by omega) (by simp; omega) (by
        intro v hv'
        rcases List.mem_append.mp hv' with h | h
        · exact hv v h
        · obtain rfl : v = ⟨x, y⟩ := by simpa using h
          exact ⟨hx, hy⟩) v2 w2
      refine ⟨r, Ev.step (fun k => ?_) h1, h2, h3⟩
      simp only [spec_DrawPoints.l0, e, e2, Option.bind_some, w64 (x := i + 1) (by omega) (by omega), w64 (x := 4 + b) (by omega) (by omega)]
      rw [if_pos hb, if_pos (by omega)]
    · refine ⟨acc, ev_done (fun k => ?_), by omega, hv⟩
      simp only [spec_DrawPoints.l0, e, Option.bind_some, w64 (x := 4 + b) (by omega) (by omega)]
      rw [if_neg hb]
/-- Some drawn points: four to eight, each in its bounds. -/
theorem drawPts (l : List Int) (hn : l.length ≤ 1048576) : ∃ r, Ev (fun k => spec_DrawPoints.f k l) r ∧ (4 ≤ r.length ∧ r.length ≤ 8) ∧ ∀ v ∈ r, ptIn v := by
  obtain ⟨s, hs⟩ := new_v l hn
  obtain ⟨r, h1, h2, h3⟩ := drawPts_l l hn 8 0 [] 0 s (by omega) (by omega) rfl (by simp) (by omega) (by omega)
  refine ⟨r, ?_, h2, h3⟩
  unfold spec_DrawPoints.f
  refine Ev.bind hs ?_
  exact h1

/-! DrawPlaces -/
theorem places_l (l : List Int) (hn : l.length ≤ 1048576) : ∀ (d : Nat) (i : Int) (acc : List Int) (p s : Int), i + d = 12 → 0 ≤ i → (acc.length : Int) = i → (∀ v ∈ acc, 0 ≤ v) → 0 ≤ p → p ≤ l.length →
    ∃ r, Ev (fun k => spec_DrawPlaces.l0 k acc i l p s) r ∧ r.length = 12 ∧ ∀ v ∈ r, 0 ≤ v := by
  intro d
  induction d with
  | zero =>
    intro i acc p s hi h0 ha hv hp hl
    refine ⟨acc, ev_done (fun k => ?_), by omega, hv⟩
    simp only [spec_DrawPlaces.l0]
    rw [if_neg (by omega)]
  | succ d ih =>
    intro i acc p s hi h0 ha hv hp hl
    obtain ⟨b, q, t, e, b0, b1, q0, q1⟩ := below_r l p s 10000 hp hl hn (by omega) (by omega)
    obtain ⟨r, h1, h2, h3⟩ := ih (i + 1) (acc ++ [b]) q t (by omega) (by omega) (by simp; omega) (by
      intro v hv'
      rcases List.mem_append.mp hv' with h | h
      · exact hv v h
      · obtain rfl : v = b := by simpa using h
        exact b0) q0 q1
    refine ⟨r, Ev.step (fun k => ?_) h1, h2, h3⟩
    simp only [spec_DrawPlaces.l0, e, Option.bind_some, w64 (x := i + 1) (by omega) (by omega)]
    rw [if_pos (by omega), if_pos (by omega)]
theorem DrawPlaces_v (l : List Int) (hn : l.length ≤ 1048576) : ∃ r, Ev (fun k => spec_DrawPlaces.f k l) r ∧ r.length = 12 ∧ ∀ v ∈ r, 0 ≤ v := by
  obtain ⟨s, hs⟩ := new_v l hn
  obtain ⟨b, q, t, e, b0, b1, q0, q1⟩ := byte_r l 0 s (by omega) (by omega) hn
  obtain ⟨r, h1, h2, h3⟩ := places_l l hn 12 0 [] q t (by omega) (by omega) rfl (by simp) q0 q1
  refine ⟨r, ?_, h2, h3⟩
  unfold spec_DrawPlaces.f
  refine Ev.bind hs ?_
  simp only [e, Option.bind_some]
  exact h1

/-! law_FnWinds -/
theorem count_ok : ∀ u : Fin 16, impl_CountOf.f (u.val : Int) = some (wrap64 ((wrap64 ((wrap64 ((Int.tmod (u.val : Int) 2) + (Int.tmod (wrap64 (Int.tdiv (u.val : Int) 2)) 2))) + (Int.tmod (wrap64 (Int.tdiv (u.val : Int) 4)) 2))) + (wrap64 (Int.tdiv (u.val : Int) 8)))) := by decide +kernel
theorem count_w (b : Int) (h0 : 0 ≤ b) (h1 : b < 16) : impl_CountOf.f b = some (wrap64 ((wrap64 ((wrap64 ((Int.tmod b 2) + (Int.tmod (wrap64 (Int.tdiv b 2)) 2))) + (Int.tmod (wrap64 (Int.tdiv b 4)) 2))) + (wrap64 (Int.tdiv b 8)))) := by
  have h := count_ok ⟨b.toNat, by omega⟩
  have e : ((b.toNat : Nat) : Int) = b := by omega
  simp only [e] at h
  exact h
theorem near_small (P : List S29) (h : ∀ v ∈ P, ptIn v) : ∀ v ∈ P, smallP v.f0 ∧ smallP v.f1 := by
  intro v hv
  have q := h v hv
  unfold ptIn at q
  unfold smallP
  omega
section
variable {P : List S29} {D : List Int} (hP : 4 ≤ P.length ∧ P.length ≤ 8) (hin : ∀ v ∈ P, ptIn v) (hD : D.length = 12) (hD0 : ∀ v ∈ D, 0 ≤ v) {ax ay : Int} (hx : smallP ax) (hy : smallP ay)
include hP hin hD hD0 hx hy
theorem winds_end : Ev (fun k => laws_FnWinds.l0 k P D P.reverse (-1) ax ay) true := by
  have v1 := windV_near P ax ay (near_small P hin) hx hy
  have v2 := windV_near P.reverse ax ay (near_small P.reverse (fun v hv => hin v (List.mem_reverse.mp hv))) hx hy
  rw [windFrom_rev P ax ay (by omega)] at v2
  have hb := windFrom_bd P ax ay P.length 0
  generalize windFrom P ax ay P.length 0 = v at v1 v2 hb
  have k1 := impl_WindOf_v P ax ay (by omega)
  have k2 := impl_WindOf_v P.reverse ax ay (by rw [List.length_reverse]; omega)
  have k3 := spec_WindOf_v P ax ay (by omega)
  rw [v1] at k1 k3
  rw [v2] at k2
  have hm1 : ∀ x ∈ [P, P], x.length ≤ 1048576 := by
    intro x hx
    simp at hx
    rw [hx]
    omega
  have hm2 : ∀ x ∈ [P, P.reverse], x.length ≤ 1048576 := by
    intro x hx
    simp at hx
    rcases hx with rfl | rfl
    · omega
    · rw [List.length_reverse]
      omega
  have c1 := impl_Covers_v [P, P] false ax ay (by simp) hm1
  have c2 := impl_Covers_v [P, P] true ax ay (by simp) hm1
  have c3 := impl_Covers_v [P, P.reverse] false ax ay (by simp) hm2
  have e1 : coversB [P, P] false ax ay = (v != 0) := by
    simp only [coversB, windSum, v1]
    rw [if_neg (by simp)]
    rw [Bool.eq_iff_iff]
    simp only [bne_iff_ne]
    omega
  have e2 : coversB [P, P] true ax ay = false := by
    simp only [coversB, windSum, v1]
    simp only [if_true]
    have : Int.tmod (v + (v + 0)) 2 = 0 := by
      rw [show v + (v + 0) = 2 * v by omega]
      exact Int.mul_tmod_right 2 v
    rw [this]
    rfl
  have e3 : coversB [P, P.reverse] false ax ay = false := by
    simp only [coversB, windSum, v1, v2]
    rw [if_neg (by simp), show v + (-v + 0) = 0 by omega]
    rfl
  rw [e1] at c1
  rw [e2] at c2
  rw [e3] at c3
  have hd : 0 ≤ rd D 2 := by
    have h := rd_int D 2 (by omega)
    have h2 : rd D 2 = D[2] := h
    rw [h2]
    exact hD0 _ (List.getElem_mem _)
  have t0 : 0 ≤ Int.tmod (rd D 2) 16 := Int.tmod_nonneg _ hd
  have t1 : Int.tmod (rd D 2) 16 < 16 := Int.tmod_lt_of_pos _ (by omega)
  have hc := count_w _ t0 t1
  refine Ev.step (fun k => rfl) ?_
  simp only [laws_FnWinds.l0, if_neg (show ¬ ((-1 : Int) ≥ 0) by omega)]
  refine Ev.bind k1 ?_
  simp only [if_pos (show (2 : Int) < (D.length : Int) by omega)]
  refine Ev.bind k2 ?_
  simp only [w64 (x := - -v) (by omega) (by omega), if_pos (show v = - -v by omega)]
  refine Ev.bind k3 ?_
  simp only [if_true]
  refine Ev.bind c1 ?_
  simp only [beq_self_eq_true, if_true]
  refine Ev.bind c2 ?_
  simp only [Bool.false_eq_true, if_false]
  refine Ev.bind c3 ?_
  simp only [Bool.false_eq_true, if_false, hc, Option.bind_some, beq_self_eq_true]
  exact Ev.now true
theorem winds_l : ∀ i : Nat, i ≤ P.length → Ev (fun k => laws_FnWinds.l0 k P D (P.drop i).reverse ((i : Int) - 1) ax ay) true := by
  intro i
  induction i with
  | zero =>
    intro _
    exact winds_end hP hin hD hD0 hx hy
  | succ i ih =>
    intro hi
    have h := ih (by omega)
    have hi2 : i < P.length := by omega
    rw [List.drop_eq_getElem_cons hi2, List.reverse_cons] at h
    refine Ev.step (fun k => ?_) h
    have e : ((i + 1 : Nat) : Int) - 1 = (i : Int) := by omega
    simp only [laws_FnWinds.l0, e, rd_impl_Point _ _ hi2]
    rw [if_pos (by omega), if_pos (by omega), if_pos (by omega), if_pos (by simp; omega), w64 (x := (i : Int) - 1) (by omega) (by omega)]
end
theorem FnWinds : laws_FnWinds.Pure := by
  intro l hl _ _
  refine Ev.rounds ?_
  unfold laws_FnWinds.f laws_big.f
  simp only [Option.bind_some, decide_eq_true_eq]
  by_cases hbig : (l.length : Int) > 1048576
  · simp only [if_pos hbig]
    exact Ev.now true
  simp only [if_neg hbig]
  obtain ⟨P, k1, hlen, hin⟩ := drawPts l (by omega)
  obtain ⟨D, k2, hd, hD⟩ := DrawPlaces_v l (by omega)
  refine Ev.bind k1 (Ev.bind k2 ?_)
  simp only [if_pos (show (0 : Int) < (D.length : Int) by omega), if_pos (show (1 : Int) < (D.length : Int) by omega)]
  have hb : ∀ i : Nat, i < 12 → smallP (wrap64 ((Int.tmod (rd D (i : Int)) 3600) - 300)) := by
    intro i hi
    have h : rd D (i : Int) = D[i]'(by omega) := rd_int D i (by omega)
    have h0 := hD _ (List.getElem_mem (l := D) (n := i) (by omega))
    rw [← h] at h0
    have t0 : 0 ≤ Int.tmod (rd D (i : Int)) 3600 := Int.tmod_nonneg _ h0
    have t1 : Int.tmod (rd D (i : Int)) 3600 < 3600 := Int.tmod_lt_of_pos _ (by omega)
    rw [w64 (by omega) (by omega)]
    unfold smallP
    omega
  have h := winds_l hlen hin hd hD (hb 0 (by omega)) (hb 1 (by omega)) P.length (Nat.le_refl _)
  rw [List.drop_length, List.reverse_nil] at h
  rw [w64 (x := (P.length : Int) - 1) (by omega) (by omega)]
  exact h

end Go.Proofs.Ytmgbefpidnaeoaa.Pure
