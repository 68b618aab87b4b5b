/- The pure statement of the law FnCovers, for every input: what the printed functions compute makes the law answer true. No conditions beyond what the row reads. -/
import Derived.Test.YtgdlbilpfmjeaaaMFnCoversx12
namespace Go.Proofs.Ytgdlbilpfmjeaaa.Pure
open Go.RowKit Go.Proofs.Ytgdlbilpfmjeaaa.MFnCovers Go.Proofs.YtgdlbilpfmjeaaaW.PrintWords Go.Proofs.YtgdlbilpfmjeaaaW.PrintLast
set_option linter.unusedVariables false
set_option linter.unusedSimpArgs false

/-! base -/
theorem w64 {x : Int} (h1 : -9223372036854775808 ≤ x) (h2 : x ≤ 9223372036854775807) : wrap64 x = x := by
  unfold wrap64
  omega

theorem wf64 {x : Int} (h : (Lit.int .i64 x).wf = true) : -9223372036854775808 ≤ x ∧ x ≤ 9223372036854775807 := by
  have h2 : (decide (IntKind.i64.min ≤ x) && decide (x ≤ IntKind.i64.max)) = true := h
  rw [Bool.and_eq_true, decide_eq_true_eq, decide_eq_true_eq] at h2
  exact ⟨h2.1, h2.2⟩

theorem take_set_succ {α : Type} (xs : List α) (i : Nat) (v : α) (h : i < xs.length) : (xs.set i v).take (i + 1) = xs.take i ++ [v] := by
  rw [List.take_succ_eq_append_getElem (by simpa using h), List.take_set_of_le (Nat.le_refl i), List.getElem_set_self]

theorem step64 {i n : Nat} (h : i < n) (hn : n ≤ 4611686018427387904) : wrap64 ((i : Int) + 1) = ((i + 1 : Nat) : Int) := by
  rw [w64 (by omega) (by omega)]
  omega

theorem ev_done {α : Type} {g : Nat → Option α} {r : α} (h : ∀ k, g (k + 1) = some r) : Ev g r := Ev.step (f := fun _ => some r) h (Ev.now r)

theorem ev_const {α : Type} {o : Option α} {r : α} (h : o = some r) : Ev (fun _ => o) r := by
  subst h
  exact Ev.now r

/-! rd_impl_PointSS -/
theorem rd_impl_PointSS (xs : List (List S32)) (i : Nat) (h : i < xs.length) : rd_L3 xs (i : Int) = xs[i] := by
  unfold rd_L3
  simp [h]

/-! rd_impl_Point -/
theorem rd_impl_Point (xs : List S32) (i : Nat) (h : i < xs.length) : rd_T32 xs (i : Int) = xs[i] := by
  unfold rd_T32
  simp [h]

/-! rd_int -/
theorem rd_int (xs : List Int) (i : Nat) (h : i < xs.length) : rd xs (i : Int) = xs[i] := by
  unfold rd
  simp [h]

/-! nearP -/
def nearP (a b : Int) : Prop := (-33554432 ≤ a ∧ a ≤ 33554432) ∧ (-33554432 ≤ b ∧ b ≤ 33554432)
instance (a b : Int) : Decidable (nearP a b) := by unfold nearP; infer_instance

/-! windV -/
def edgeV (ax ay bx by_ px py : Int) : Int :=
  if ay ≤ py ∧ py < by_ ∧ (bx - ax) * (py - ay) - (px - ax) * (by_ - ay) > 0 then 1
  else if by_ ≤ py ∧ py < ay ∧ (bx - ax) * (py - ay) - (px - ax) * (by_ - ay) < 0 then -1 else 0
theorem edgeV_bd (ax ay bx by_ px py : Int) : -1 ≤ edgeV ax ay bx by_ px py ∧ edgeV ax ay bx by_ px py ≤ 1 := by
  unfold edgeV
  split
  · omega
  · split <;> omega
def ptAt (l : List S32) (i : Nat) : S32 := l.getD i z32
def windFrom (l : List S32) (px py : Int) : Nat → Nat → Int
  | 0, _ => 0
  | d + 1, i => edgeV (ptAt l i).f0 (ptAt l i).f1 (ptAt l ((i + 1) % l.length)).f0 (ptAt l ((i + 1) % l.length)).f1 px py + windFrom l px py d (i + 1)
theorem windFrom_bd (l : List S32) (px py : Int) : ∀ (d i : Nat), -(d : Int) ≤ windFrom l px py d i ∧ windFrom l px py d i ≤ d
  | 0, _ => by simp [windFrom]
  | d + 1, i => by
    have h := windFrom_bd l px py d (i + 1)
    have e := edgeV_bd (ptAt l i).f0 (ptAt l i).f1 (ptAt l ((i + 1) % l.length)).f0 (ptAt l ((i + 1) % l.length)).f1 px py
    rw [windFrom]
    omega
def allNear (l : List S32) : Prop := ∀ i, i < l.length → nearP (ptAt l i).f0 (ptAt l i).f1
instance (l : List S32) : Decidable (allNear l) := by unfold allNear; infer_instance
def windV (l : List S32) (px py : Int) : Int := if nearP px py ∧ allNear l then windFrom l px py l.length 0 else 0
theorem rd_ptAt (l : List S32) (i : Nat) : rd_T32 l (i : Int) = ptAt l i := rfl
theorem mul_bd {x y : Int} (hx : -67108864 ≤ x) (hx2 : x ≤ 67108864) (hy : -67108864 ≤ y) (hy2 : y ≤ 67108864) : -4503599627370496 ≤ x * y ∧ x * y ≤ 4503599627370496 := by
  have h1 : 0 ≤ (67108864 - x) * (67108864 + y) := Int.mul_nonneg (by omega) (by omega)
  have h2 : 0 ≤ (67108864 + x) * (67108864 - y) := Int.mul_nonneg (by omega) (by omega)
  have h3 : 0 ≤ (67108864 - x) * (67108864 - y) := Int.mul_nonneg (by omega) (by omega)
  have h4 : 0 ≤ (67108864 + x) * (67108864 + y) := Int.mul_nonneg (by omega) (by omega)
  simp only [Int.sub_mul, Int.mul_sub, Int.add_mul, Int.mul_add] at h1 h2 h3 h4
  omega
/-- What both compute as the side of an edge, without wraps. -/
theorem sideW {ax ay bx by_ px py : Int} (ha : nearP ax ay) (hb : nearP bx by_) (hp : nearP px py) :
    wrap64 ((wrap64 ((wrap64 (bx - ax)) * (wrap64 (py - ay)))) - (wrap64 ((wrap64 (px - ax)) * (wrap64 (by_ - ay))))) = (bx - ax) * (py - ay) - (px - ax) * (by_ - ay) := by
  obtain ⟨⟨a1, a2⟩, a3, a4⟩ := ha
  obtain ⟨⟨b1, b2⟩, b3, b4⟩ := hb
  obtain ⟨⟨p1, p2⟩, p3, p4⟩ := hp
  have m1 := mul_bd (x := bx - ax) (y := py - ay) (by omega) (by omega) (by omega) (by omega)
  have m2 := mul_bd (x := px - ax) (y := by_ - ay) (by omega) (by omega) (by omega) (by omega)
  rw [w64 (x := bx - ax) (by omega) (by omega), w64 (x := py - ay) (by omega) (by omega), w64 (x := px - ax) (by omega) (by omega), w64 (x := by_ - ay) (by omega) (by omega)]
  rw [w64 (x := (bx - ax) * (py - ay)) (by omega) (by omega), w64 (x := (px - ax) * (by_ - ay)) (by omega) (by omega), w64 (by omega) (by omega)]
/-- The next place, around the list. -/
theorem nextW {i n : Nat} (h : i < n) (hn : n ≤ 4611686018427387904) : Int.tmod (wrap64 ((i : Int) + 1)) (n : Int) = (((i + 1) % n : Nat) : Int) := by
  rw [step64 h hn, Int.tmod_eq_emod_of_nonneg (by omega)]
  omega
theorem cnt_up {n i d e s : Int} (hn : -i ≤ n) (hn2 : n ≤ i) (hi : 0 ≤ i) (hi2 : i ≤ 1048576) : wrap64 (n + 1) = n + 1 ∧ wrap64 (n - 1) = n - 1 ∧ wrap64 (n + 1 - 1) = n := ⟨w64 (by omega) (by omega), w64 (by omega) (by omega), by rw [show n + 1 - 1 = n by omega]; exact w64 (by omega) (by omega)⟩
theorem not_allNear {x0 : List S32} (h : ¬ allNear x0) : ∃ j, 0 ≤ j ∧ j < x0.length ∧ ¬ nearP (ptAt x0 j).f0 (ptAt x0 j).f1 := by
  apply Classical.byContradiction
  intro hc
  apply h
  intro i hi
  apply Classical.byContradiction
  intro hn
  exact hc ⟨i, Nat.zero_le _, hi, hn⟩

/-! Covers_b -/
def windSum (px py : Int) : List (List S32) → Int
  | [] => 0
  | x :: xs => windV x px py + windSum px py xs
theorem windV_bd (x : List S32) (px py : Int) (h : x.length ≤ 1048576) : -1048576 ≤ windV x px py ∧ windV x px py ≤ 1048576 := by
  unfold windV
  split
  · have := windFrom_bd x px py x.length 0
    omega
  · omega
theorem windSum_bd (px py : Int) : ∀ (l : List (List S32)), (∀ x ∈ l, x.length ≤ 1048576) → -(1048576 * (l.length : Int)) ≤ windSum px py l ∧ windSum px py l ≤ 1048576 * (l.length : Int)
  | [], _ => by simp [windSum]
  | x :: xs, h => by
    have h1 := windSum_bd px py xs (fun y hy => h y (List.mem_cons_of_mem _ hy))
    have h2 := windV_bd x px py (h x List.mem_cons_self)
    rw [windSum, List.length_cons]
    omega
def coversB (l : List (List S32)) (even : Bool) (px py : Int) : Bool := if even = true then (Int.tmod (windSum px py l) 2) != 0 else windSum px py l != 0

/-! impl_inRange -/
theorem impl_inRange_v (a b c : Int) : impl_inRange.f a b c = some (decide (b ≤ a ∧ a ≤ c)) := by
  unfold impl_inRange.f
  by_cases h : a ≥ b
  · rw [if_pos h]
    simp [h]
  · rw [if_neg h]
    simp
    omega

/-! impl_isNear -/
theorem impl_isNear_v (a b : Int) : impl_isNear.f a b = some (decide (nearP a b)) := by
  unfold impl_isNear.f nearP
  simp only [impl_inRange_v, Option.bind_some, decide_eq_true_eq]
  repeat' split
  all_goals first | (refine congrArg some (decide_eq_decide.mpr ?_); omega) | (refine congrArg some (Eq.symm (decide_eq_false ?_)); omega)

/-! impl_WindOf -/
theorem impl_WindOf_j2 {x0 : List S32} {n px py ax ay bx by_ r s : Int} {i m : Int} {c : Bool}
    (h : Ev (fun k => impl_WindOf.l1 k x0 (if c = true then wrap64 (n + 1) else (if by_ ≤ py ∧ py < ay ∧ s < 0 then wrap64 (n - 1) else n)) x0 m (wrap64 (i + 1)) px py) r) :
    Ev (fun k => impl_WindOf.j2 k x0 n s x0 m i c px py ax ay bx by_) r := by
  refine Ev.step (fun k => ?_) h
  simp only [impl_WindOf.j2]
  by_cases h1 : c = true <;> by_cases h2 : by_ ≤ py <;> by_cases h3 : py < ay <;> by_cases h4 : s < 0 <;> simp [h1, h2, h3, h4]
theorem impl_WindOf_l {x0 : List S32} {px py : Int} (hp : nearP px py) (hl : x0.length ≤ 1048576) (hN : allNear x0) : ∀ (d i : Nat) (n : Int), i + d = x0.length → -(i : Int) ≤ n → n ≤ i →
    Ev (fun k => impl_WindOf.l1 k x0 n x0 (x0.length : Int) (i : Int) px py) (n + windFrom x0 px py d i) := by
  intro d
  induction d with
  | zero =>
    intro i n hi h1 h2
    refine ev_done (fun k => ?_)
    simp only [impl_WindOf.l1]
    rw [if_neg (by omega)]
    simp [windFrom]
  | succ d ih =>
    intro i n hi h1 h2
    have hi2 : i < x0.length := by omega
    have hm : (i + 1) % x0.length < x0.length := Nat.mod_lt _ (by omega)
    have ha := hN i hi2
    have hb := hN _ hm
    rw [windFrom]
    generalize hA : ptAt x0 i = A at *
    generalize hB : ptAt x0 ((i + 1) % x0.length) = B at *
    obtain ⟨u1, u2, u3⟩ := cnt_up (d := 0) (e := 0) (s := 0) h1 h2 (by omega) (by omega)
    have e := edgeV_bd A.f0 A.f1 B.f0 B.f1 px py
    have h := ih (i + 1) (n + edgeV A.f0 A.f1 B.f0 B.f1 px py) (by omega) (by omega) (by omega)
    rw [Int.add_assoc] at h
    have key : ∀ c : Bool, (c = true ↔ A.f1 ≤ py ∧ py < B.f1 ∧ (B.f0 - A.f0) * (py - A.f1) - (px - A.f0) * (B.f1 - A.f1) > 0) →
        Ev (fun k => impl_WindOf.j2 k x0 n ((B.f0 - A.f0) * (py - A.f1) - (px - A.f0) * (B.f1 - A.f1)) x0 (x0.length : Int) (i : Int) c px py A.f0 A.f1 B.f0 B.f1) (n + (edgeV A.f0 A.f1 B.f0 B.f1 px py + windFrom x0 px py d (i + 1))) := by
      intro c hc
      refine impl_WindOf_j2 ?_
      rw [step64 hi2 (by omega)]
      have e : (if c = true then wrap64 (n + 1) else (if B.f1 ≤ py ∧ py < A.f1 ∧ (B.f0 - A.f0) * (py - A.f1) - (px - A.f0) * (B.f1 - A.f1) < 0 then wrap64 (n - 1) else n)) = n + edgeV A.f0 A.f1 B.f0 B.f1 px py := by
        rw [u1, u2]
        unfold edgeV
        by_cases q : c = true
        · rw [if_pos q, if_pos (hc.mp q)]
        · rw [if_neg q, if_neg (fun z => q (hc.mpr z))]
          split <;> omega
      rw [e]
      exact h
    by_cases c1 : A.f1 ≤ py
    · by_cases c2 : py < B.f1
      · refine Ev.step (fun k => ?_) (key (decide ((B.f0 - A.f0) * (py - A.f1) - (px - A.f0) * (B.f1 - A.f1) > 0)) (by simp [c1, c2]))
        simp only [impl_WindOf.l1]
        rw [if_pos (by omega), if_pos (by omega), if_pos (by omega), if_neg (by omega), nextW hi2 (by omega), if_pos (by omega), if_pos (by omega), rd_ptAt, rd_ptAt, hA, hB, if_pos c1, if_pos c2, sideW ha hb hp]
      · refine Ev.step (fun k => ?_) (key false (by simp [c2]))
        simp only [impl_WindOf.l1]
        rw [if_pos (by omega), if_pos (by omega), if_pos (by omega), if_neg (by omega), nextW hi2 (by omega), if_pos (by omega), if_pos (by omega), rd_ptAt, rd_ptAt, hA, hB, if_pos c1, if_neg c2, sideW ha hb hp]
    · refine Ev.step (fun k => ?_) (key false (by simp [c1]))
      simp only [impl_WindOf.l1]
      rw [if_pos (by omega), if_pos (by omega), if_pos (by omega), if_neg (by omega), nextW hi2 (by omega), if_pos (by omega), if_pos (by omega), rd_ptAt, rd_ptAt, hA, hB, if_neg c1, sideW ha hb hp]
theorem impl_WindOf_chk {x0 : List S32} {px py r : Int} (hl : x0.length ≤ 1048576) (hN : allNear x0) (h : Ev (fun k => impl_WindOf.l1 k x0 0 x0 (x0.length : Int) 0 px py) r) : ∀ (d i : Nat), i + d = x0.length →
    Ev (fun k => impl_WindOf.l0 k x0 x0 (x0.length : Int) (i : Int) px py) r := by
  intro d
  induction d with
  | zero =>
    intro i hi
    refine Ev.step (fun k => ?_) h
    simp only [impl_WindOf.l0]
    rw [if_neg (by omega)]
  | succ d ih =>
    intro i hi
    have hi2 : i < x0.length := by omega
    refine Ev.step (fun k => ?_) (ih (i + 1) (by omega))
    simp only [impl_WindOf.l0]
    rw [if_pos (by omega), if_pos (by omega), if_pos (by omega), rd_ptAt, impl_isNear_v, Option.bind_some, if_pos (decide_eq_true (hN i hi2)), step64 hi2 (by omega)]
theorem impl_WindOf_bad {x0 : List S32} {px py : Int} (hl : x0.length ≤ 1048576) : ∀ (d i : Nat), i + d = x0.length → (∃ j, i ≤ j ∧ j < x0.length ∧ ¬ nearP (ptAt x0 j).f0 (ptAt x0 j).f1) →
    Ev (fun k => impl_WindOf.l0 k x0 x0 (x0.length : Int) (i : Int) px py) 0 := by
  intro d
  induction d with
  | zero =>
    intro i hi hj
    obtain ⟨j, hj⟩ := hj
    omega
  | succ d ih =>
    intro i hi hj
    have hi2 : i < x0.length := by omega
    by_cases ha : nearP (ptAt x0 i).f0 (ptAt x0 i).f1
    · refine Ev.step (fun k => ?_) (ih (i + 1) (by omega) (by
          obtain ⟨j, j1, j2, j3⟩ := hj
          refine ⟨j, ?_, j2, j3⟩
          rcases Nat.lt_or_ge i j with q | q
          · omega
          · obtain rfl : i = j := by omega
            exact absurd ha j3))
      simp only [impl_WindOf.l0]
      rw [if_pos (by omega), if_pos (by omega), if_pos (by omega), rd_ptAt, impl_isNear_v, Option.bind_some, if_pos (decide_eq_true ha), step64 hi2 (by omega)]
    · refine ev_done (fun k => ?_)
      simp only [impl_WindOf.l0]
      rw [if_pos (by omega), if_pos (by omega), if_pos (by omega), rd_ptAt, impl_isNear_v, Option.bind_some, if_neg (by simpa using ha)]
theorem impl_WindOf_v (x0 : List S32) (px py : Int) (hl : x0.length ≤ 1048576) : Ev (fun k => impl_WindOf.f k x0 px py) (windV x0 px py) := by
  unfold windV
  by_cases hp : nearP px py
  · have e : ∀ k, impl_WindOf.f k x0 px py = impl_WindOf.l0 k x0 x0 (x0.length : Int) ((0 : Nat) : Int) px py := fun k => by
      unfold impl_WindOf.f
      rw [impl_isNear_v, Option.bind_some, if_pos (decide_eq_true hp)]
      rfl
    by_cases hN : allNear x0
    · rw [if_pos ⟨hp, hN⟩]
      have h := impl_WindOf_l hp hl hN x0.length 0 0 (by omega) (by omega) (by omega)
      rw [Int.zero_add] at h
      exact Ev.congr e (impl_WindOf_chk hl hN h x0.length 0 (by omega))
    · rw [if_neg (fun z => hN z.2)]
      exact Ev.congr e (impl_WindOf_bad hl x0.length 0 (by omega) (not_allNear hN))
  · rw [if_neg (fun z => hp z.1)]
    refine Ev.congr (fun k => ?_) (Ev.now 0)
    unfold impl_WindOf.f
    rw [impl_isNear_v, Option.bind_some, if_neg (by simpa using hp)]

/-! Covers_i -/
theorem impl_Covers_l (x0 : List (List S32)) (even : Bool) (px py : Int) (hn : x0.length ≤ 1048576) (hm : ∀ x ∈ x0, x.length ≤ 1048576) : ∀ (d i : Nat) (n : Int), i + d = x0.length → -(1048576 * (i : Int)) ≤ n → n ≤ 1048576 * (i : Int) →
    Ev (fun k => impl_Covers.l0 k even n x0 (x0.length : Int) (i : Int) px py) (if even = true then (Int.tmod (n + windSum px py (x0.drop i)) 2) != 0 else (n + windSum px py (x0.drop i)) != 0) := by
  intro d
  induction d with
  | zero =>
    intro i n hi h1 h2
    refine ev_done (fun k => ?_)
    simp only [impl_Covers.l0]
    rw [if_neg (by omega), List.drop_of_length_le (by omega), windSum, Int.add_zero]
    split <;> rfl
  | succ d ih =>
    intro i n hi h1 h2
    have hi2 : i < x0.length := by omega
    have hb := windV_bd x0[i] px py (hm _ (List.getElem_mem hi2))
    rw [List.drop_eq_getElem_cons hi2, windSum]
    have q := ih (i + 1) (n + windV x0[i] px py) (by omega) (by omega) (by omega)
    rw [Int.add_assoc] at q
    refine Ev.step (f := fun k => (impl_WindOf.f k x0[i] px py).bind fun t => impl_Covers.l0 k even (wrap64 (n + t)) x0 (x0.length : Int) ((i + 1 : Nat) : Int) px py) (fun k => ?_) (Ev.bind (impl_WindOf_v _ px py (hm _ (List.getElem_mem hi2))) ?_)
    · simp only [impl_Covers.l0]
      rw [if_pos (by omega), if_pos (by omega), if_pos (by omega), step64 hi2 (by omega), rd_impl_PointSS _ _ hi2]
    · simp only [w64 (x := n + windV x0[i] px py) (by omega) (by omega)]
      exact q
theorem impl_Covers_v (x0 : List (List S32)) (even : Bool) (px py : Int) (hn : x0.length ≤ 1048576) (hm : ∀ x ∈ x0, x.length ≤ 1048576) : Ev (fun k => impl_Covers.f k x0 even px py) (coversB x0 even px py) := by
  have q := impl_Covers_l x0 even px py hn hm x0.length 0 0 (by omega) (by omega) (by omega)
  rw [Int.zero_add] at q
  exact q

/-! MaskN -/
def maskN (b0 b1 b2 b3 : Bool) : Int := if b3 = true then (if b2 = true then (if b1 = true then (if b0 = true then 0 + 1 else 0) + 2 else (if b0 = true then 0 + 1 else 0)) + 4 else (if b1 = true then (if b0 = true then 0 + 1 else 0) + 2 else (if b0 = true then 0 + 1 else 0))) + 8 else (if b2 = true then (if b1 = true then (if b0 = true then 0 + 1 else 0) + 2 else (if b0 = true then 0 + 1 else 0)) + 4 else (if b1 = true then (if b0 = true then 0 + 1 else 0) + 2 else (if b0 = true then 0 + 1 else 0)))
theorem maskN_bd (b0 b1 b2 b3 : Bool) : 0 ≤ maskN b0 b1 b2 b3 ∧ maskN b0 b1 b2 b3 ≤ 15 := by
  cases b0 <;> cases b1 <;> cases b2 <;> cases b3 <;> decide +kernel

/-! MaskAtV -/
section
variable (ls : List (List S32)) (e : Bool) (hn : ls.length ≤ 1048576) (hm : ∀ x ∈ ls, x.length ≤ 1048576)
include hn hm
theorem impl_mask_s (n i v px py X0 Y0 X1 Y1 X2 Y2 X3 Y3 : Int) (b : Bool) (h0 : 0 ≤ i) (h1 : i < 4) (hpx : ix4 i X0 X1 X2 X3 = px) (hpy : ix4 i Y0 Y1 Y2 Y3 = py) (hu : IntKind.u64.wrap i = i)
    (hb : coversB ls e px py = b) (hor : b = true → Go.bits .or .i64 n (shl .i64 1 i) = n + v) {r : Int} (h : Ev (fun k => impl_MaskAt.l0 k ls e (if b = true then n + v else n) (i + 1) X0 Y0 X1 Y1 X2 Y2 X3 Y3) r) : Ev (fun k => impl_MaskAt.l0 k ls e n i X0 Y0 X1 Y1 X2 Y2 X3 Y3) r := by
  refine Ev.step (fun k => rfl) ?_
  simp only [impl_MaskAt.l0, if_pos h1, if_pos h0, hpx, hpy, hu]
  refine Ev.bind (impl_Covers_v ls e px py hn hm) ?_
  rw [hb]
  cases b with
  | true =>
    simp only [if_true, hor rfl, w64 (x := i + 1) (by omega) (by omega)]
    simp only [if_true] at h
    exact h
  | false =>
    simp only [Bool.false_eq_true, if_false, w64 (x := i + 1) (by omega) (by omega)]
    simp only [Bool.false_eq_true, if_false] at h
    exact h
/-- The four points of a square, as MaskAt tells them. -/
theorem mask_val (x y : Int) (hx : -2000 ≤ x ∧ x ≤ 2000) (hy : -2000 ≤ y ∧ y ≤ 2000) : Ev (fun k => impl_MaskAt.f k ls e x y) (maskN (coversB ls e (256 * x + 64) (256 * y + 64)) (coversB ls e (256 * x + 64 + 128) (256 * y + 64)) (coversB ls e (256 * x + 64) (256 * y + 64 + 128)) (coversB ls e (256 * x + 64 + 128) (256 * y + 64 + 128))) := by
  unfold impl_MaskAt.f impl_isSquare.f
  simp only [impl_inRange_v, Option.bind_some, decide_eq_true hx, decide_eq_true hy, if_true, impl_pointsOf.f]
  rw [w64 (x := 256 * x) (by omega) (by omega), w64 (x := 256 * x + 64) (by omega) (by omega), w64 (x := 256 * x + 64 + 128) (by omega) (by omega), w64 (x := 256 * y) (by omega) (by omega), w64 (x := 256 * y + 64) (by omega) (by omega), w64 (x := 256 * y + 64 + 128) (by omega) (by omega)]
  obtain ⟨b0, h0⟩ : ∃ b, coversB ls e (256 * x + 64) (256 * y + 64) = b := ⟨_, rfl⟩
  obtain ⟨b1, h1⟩ : ∃ b, coversB ls e (256 * x + 64 + 128) (256 * y + 64) = b := ⟨_, rfl⟩
  obtain ⟨b2, h2⟩ : ∃ b, coversB ls e (256 * x + 64) (256 * y + 64 + 128) = b := ⟨_, rfl⟩
  obtain ⟨b3, h3⟩ : ∃ b, coversB ls e (256 * x + 64 + 128) (256 * y + 64 + 128) = b := ⟨_, rfl⟩
  rw [h0, h1, h2, h3]
  have fin_i : ∀ n : Int, Ev (fun k => impl_MaskAt.l0 k ls e n (3 + 1) (256 * x + 64) (256 * y + 64) (256 * x + 64 + 128) (256 * y + 64) (256 * x + 64) (256 * y + 64 + 128) (256 * x + 64 + 128) (256 * y + 64 + 128)) n := fun n => ev_done (fun k => by simp only [impl_MaskAt.l0]; rw [if_neg (by omega)])
  unfold maskN
  refine impl_mask_s ls e hn hm 0 0 1 (256 * x + 64) (256 * y + 64) (256 * x + 64) (256 * y + 64) (256 * x + 64 + 128) (256 * y + 64) (256 * x + 64) (256 * y + 64 + 128) (256 * x + 64 + 128) (256 * y + 64 + 128) b0 (by omega) (by omega) rfl rfl (by decide +kernel) h0 (fun _ => by decide +kernel) ?_
  refine impl_mask_s ls e hn hm _ (0 + 1) 2 (256 * x + 64 + 128) (256 * y + 64) (256 * x + 64) (256 * y + 64) (256 * x + 64 + 128) (256 * y + 64) (256 * x + 64) (256 * y + 64 + 128) (256 * x + 64 + 128) (256 * y + 64 + 128) b1 (by omega) (by omega) rfl rfl (by decide +kernel) h1 (fun _ => by cases b0 <;> decide +kernel) ?_
  refine impl_mask_s ls e hn hm _ (0 + 1 + 1) 4 (256 * x + 64) (256 * y + 64 + 128) (256 * x + 64) (256 * y + 64) (256 * x + 64 + 128) (256 * y + 64) (256 * x + 64) (256 * y + 64 + 128) (256 * x + 64 + 128) (256 * y + 64 + 128) b2 (by omega) (by omega) rfl rfl (by decide +kernel) h2 (fun _ => by cases b0 <;> cases b1 <;> decide +kernel) ?_
  refine impl_mask_s ls e hn hm _ (0 + 1 + 1 + 1) 8 (256 * x + 64 + 128) (256 * y + 64 + 128) (256 * x + 64) (256 * y + 64) (256 * x + 64 + 128) (256 * y + 64) (256 * x + 64) (256 * y + 64 + 128) (256 * x + 64 + 128) (256 * y + 64 + 128) b3 (by omega) (by omega) rfl rfl (by decide +kernel) h3 (fun _ => by cases b0 <;> cases b1 <;> cases b2 <;> decide +kernel) ?_
  exact fin_i _
end

/-! rectW -/
theorem edge_flat {ax bx y px py : Int} : edgeV ax y bx y px py = 0 := by
  unfold edgeV
  rw [if_neg (by omega), if_neg (by omega)]
theorem sgn_mul {u D : Int} (hD : 0 < D) : (u * D < 0 ↔ u < 0) ∧ (u * D > 0 ↔ u > 0) := by
  have h1 : u ≤ -1 → u * D ≤ -1 * D := fun h => Int.mul_le_mul_of_nonneg_right h (by omega)
  have h2 : 0 ≤ u → 0 ≤ u * D := fun h => Int.mul_nonneg h (by omega)
  have h3 : 1 ≤ u → 1 * D ≤ u * D := fun h => Int.mul_le_mul_of_nonneg_right h (by omega)
  have h4 : u ≤ 0 → u * D ≤ 0 * D := fun h => Int.mul_le_mul_of_nonneg_right h (by omega)
  constructor
  · constructor
    · intro h
      by_cases q : u < 0
      · exact q
      · have := h2 (by omega)
        omega
    · intro h
      have := h1 (by omega)
      omega
  · constructor
    · intro h
      by_cases q : 0 < u
      · exact q
      · have := h4 (by omega)
        omega
    · intro h
      have := h3 (by omega)
      omega
theorem edge_up {x y0 y1 px py : Int} (h : y0 < y1) : edgeV x y0 x y1 px py = if y0 ≤ py ∧ py < y1 ∧ px < x then 1 else 0 := by
  unfold edgeV
  have e : (x - x) * (py - y0) - (px - x) * (y1 - y0) = -((px - x) * (y1 - y0)) := by rw [Int.sub_self, Int.zero_mul]; omega
  rw [e]
  have s := (sgn_mul (u := px - x) (D := y1 - y0) (by omega)).1
  by_cases q : y0 ≤ py ∧ py < y1 ∧ px < x
  · rw [if_pos q, if_pos ⟨q.1, q.2.1, by have := s.mpr (by omega); omega⟩]
  · rw [if_neg q, if_neg, if_neg (by omega)]
    rintro ⟨h1, h2, h3⟩
    have := s.mp (by omega)
    omega
theorem edge_down {x y0 y1 px py : Int} (h : y0 < y1) : edgeV x y1 x y0 px py = if y0 ≤ py ∧ py < y1 ∧ px < x then -1 else 0 := by
  unfold edgeV
  have e : (x - x) * (py - y1) - (px - x) * (y0 - y1) = (px - x) * (y1 - y0) := by
    rw [Int.sub_self, Int.zero_mul]
    simp only [Int.mul_sub]
    omega
  rw [e]
  have s := (sgn_mul (u := px - x) (D := y1 - y0) (by omega)).1
  rw [if_neg (by omega)]
  by_cases q : y0 ≤ py ∧ py < y1 ∧ px < x
  · rw [if_pos q, if_pos ⟨q.1, q.2.1, s.mpr (by omega)⟩]
  · rw [if_neg q, if_neg]
    rintro ⟨h1, h2, h3⟩
    have := s.mp h3
    omega
def inB (X0 Y0 X1 Y1 px py : Int) : Int := if X0 ≤ px ∧ px < X1 ∧ Y0 ≤ py ∧ py < Y1 then 1 else 0
theorem rect5_sum {X0 Y0 X1 Y1 px py : Int} (hx : X0 < X1) (hy : Y0 < Y1) : windFrom [⟨X0, Y0⟩, ⟨X1, Y0⟩, ⟨X1, Y1⟩, ⟨X0, Y1⟩, ⟨X0, Y0⟩] px py 5 0 = inB X0 Y0 X1 Y1 px py := by
  have h : windFrom [⟨X0, Y0⟩, ⟨X1, Y0⟩, ⟨X1, Y1⟩, ⟨X0, Y1⟩, ⟨X0, Y0⟩] px py 5 0 = edgeV X0 Y0 X1 Y0 px py + (edgeV X1 Y0 X1 Y1 px py + (edgeV X1 Y1 X0 Y1 px py + (edgeV X0 Y1 X0 Y0 px py + (edgeV X0 Y0 X0 Y0 px py + 0)))) := by simp [windFrom, ptAt]
  rw [h, edge_flat, edge_flat, edge_flat, edge_up hy, edge_down hy]
  unfold inB
  repeat' split
  all_goals omega
theorem rect4_sum {X0 Y0 X1 Y1 px py : Int} (hx : X0 < X1) (hy : Y0 < Y1) : windFrom [⟨X0, Y0⟩, ⟨X1, Y0⟩, ⟨X1, Y1⟩, ⟨X0, Y1⟩] px py 4 0 = inB X0 Y0 X1 Y1 px py := by
  have h : windFrom [⟨X0, Y0⟩, ⟨X1, Y0⟩, ⟨X1, Y1⟩, ⟨X0, Y1⟩] px py 4 0 = edgeV X0 Y0 X1 Y0 px py + (edgeV X1 Y0 X1 Y1 px py + (edgeV X1 Y1 X0 Y1 px py + (edgeV X0 Y1 X0 Y0 px py + 0))) := by simp [windFrom, ptAt]
  rw [h, edge_flat, edge_flat, edge_up hy, edge_down hy]
  unfold inB
  repeat' split
  all_goals omega
def smallP (x : Int) : Prop := -100000 ≤ x ∧ x ≤ 100000
theorem allNear_of (l : List S32) (h : ∀ v ∈ l, smallP v.f0 ∧ smallP v.f1) : allNear l := by
  intro i hi
  have e : ptAt l i = l[i] := by
    unfold ptAt
    rw [List.getD_eq_getElem?_getD, List.getElem?_eq_getElem hi, Option.getD_some]
  have q := h _ (List.getElem_mem hi)
  rw [e]
  unfold nearP
  unfold smallP at q
  omega
theorem windV_near (l : List S32) (px py : Int) (h : ∀ v ∈ l, smallP v.f0 ∧ smallP v.f1) (hx : smallP px) (hy : smallP py) : windV l px py = windFrom l px py l.length 0 := by
  unfold windV
  rw [if_pos]
  refine ⟨?_, allNear_of l h⟩
  unfold nearP
  unfold smallP at hx hy
  omega
theorem rect5_wind {X0 Y0 X1 Y1 px py : Int} (hx : X0 < X1) (hy : Y0 < Y1) (s0 : smallP X0) (s1 : smallP X1) (s2 : smallP Y0) (s3 : smallP Y1) (s4 : smallP px) (s5 : smallP py) : windV [⟨X0, Y0⟩, ⟨X1, Y0⟩, ⟨X1, Y1⟩, ⟨X0, Y1⟩, ⟨X0, Y0⟩] px py = inB X0 Y0 X1 Y1 px py := by
  rw [windV_near _ px py (by simp [s0, s1, s2, s3]) s4 s5]
  exact rect5_sum hx hy
theorem rect4_wind {X0 Y0 X1 Y1 px py : Int} (hx : X0 < X1) (hy : Y0 < Y1) (s0 : smallP X0) (s1 : smallP X1) (s2 : smallP Y0) (s3 : smallP Y1) (s4 : smallP px) (s5 : smallP py) : windV [⟨X0, Y0⟩, ⟨X1, Y0⟩, ⟨X1, Y1⟩, ⟨X0, Y1⟩] px py = inB X0 Y0 X1 Y1 px py := by
  rw [windV_near _ px py (by simp [s0, s1, s2, s3]) s4 s5]
  exact rect4_sum hx hy

/-! windFar -/
theorem mul_le_far {u v d n : Int} (hd : 0 ≤ d) (hdn : d ≤ n) (hu : u ≤ v) (hv : 0 ≤ v) : u * d ≤ v * n := by
  have h1 : u * d ≤ v * d := Int.mul_le_mul_of_nonneg_right hu hd
  have h2 : v * d ≤ v * n := Int.mul_le_mul_of_nonneg_left hdn hv
  omega
/-- A point to the right of both ends of an edge: the edge does not count. -/
theorem edgeV_right {ax ay bx by_ px py : Int} (ha : ax ≤ px) (hb : bx ≤ px) : edgeV ax ay bx by_ px py = 0 := by
  unfold edgeV
  rw [if_neg, if_neg]
  · rintro ⟨h1, h2, h3⟩
    have h := mul_le_far (u := bx - ax) (v := px - ax) (d := ay - py) (n := ay - by_) (by omega) (by omega) (by omega) (by omega)
    simp only [Int.sub_mul, Int.mul_sub] at h h3
    omega
  · rintro ⟨h1, h2, h3⟩
    have h := mul_le_far (u := bx - ax) (v := px - ax) (d := py - ay) (n := by_ - ay) (by omega) (by omega) (by omega) (by omega)
    omega
theorem edgeV_low {ax ay bx by_ px py : Int} (ha : py < ay) (hb : py < by_) : edgeV ax ay bx by_ px py = 0 := by
  unfold edgeV
  rw [if_neg (by omega), if_neg (by omega)]
theorem windFrom_zero (l : List S32) (px py : Int) (h : ∀ i j, i < l.length → j < l.length → edgeV (ptAt l i).f0 (ptAt l i).f1 (ptAt l j).f0 (ptAt l j).f1 px py = 0) : ∀ d i : Nat, i + d = l.length → windFrom l px py d i = 0 := by
  intro d
  induction d with
  | zero =>
    intro i _
    rfl
  | succ d ih =>
    intro i hi
    rw [windFrom, ih (i + 1) (by omega), h i ((i + 1) % l.length) (by omega) (Nat.mod_lt _ (by omega))]
    rfl

/-! windRev -/
def edgeP (px py : Int) (a b : S32) : Int := edgeV a.f0 a.f1 b.f0 b.f1 px py
theorem side_swap (ax ay bx by_ px py : Int) : (ax - bx) * (py - by_) - (px - bx) * (ay - by_) = -((bx - ax) * (py - ay) - (px - ax) * (by_ - ay)) := by
  simp only [Int.sub_mul, Int.mul_sub]
  omega
theorem edgeV_swap (ax ay bx by_ px py : Int) : edgeV bx by_ ax ay px py = - edgeV ax ay bx by_ px py := by
  unfold edgeV
  rw [side_swap]
  generalize (bx - ax) * (py - ay) - (px - ax) * (by_ - ay) = s
  by_cases h1 : ay ≤ py ∧ py < by_ ∧ s > 0
  · rw [if_pos h1, if_neg (by omega), if_pos (by omega)]
  · rw [if_neg h1]
    by_cases h2 : by_ ≤ py ∧ py < ay ∧ s < 0
    · rw [if_pos h2, if_pos (by omega)]
      omega
    · rw [if_neg h2, if_neg (by omega), if_neg (by omega)]
      omega
def pathW (px py : Int) : List S32 → Int
  | [] => 0
  | [_] => 0
  | a :: b :: t => edgeP px py a b + pathW px py (b :: t)
theorem pathW_snoc (px py : Int) (x y : S32) : ∀ l : List S32, pathW px py (l ++ [x] ++ [y]) = pathW px py (l ++ [x]) + edgeP px py x y
  | [] => by simp [pathW]
  | [a] => by simp [pathW]
  | a :: b :: t => by
    have h := pathW_snoc px py x y (b :: t)
    simp only [List.cons_append, pathW] at h ⊢
    rw [h]
    omega
theorem pathW_rev (px py : Int) : ∀ l : List S32, pathW px py l.reverse = - pathW px py l
  | [] => by simp [pathW]
  | [a] => by simp [pathW]
  | a :: b :: t => by
    have h := pathW_rev px py (b :: t)
    rw [List.reverse_cons, List.reverse_cons, pathW_snoc, ← List.reverse_cons, h, pathW]
    unfold edgeP
    rw [edgeV_swap a.f0 a.f1 b.f0 b.f1 px py]
    omega
theorem ptAt_get (l : List S32) (i : Nat) (h : i < l.length) : ptAt l i = l[i] := by
  unfold ptAt
  rw [List.getD_eq_getElem?_getD, List.getElem?_eq_getElem h, Option.getD_some]
theorem windFrom_path (l : List S32) (px py : Int) : ∀ d i : Nat, i + d = l.length → 0 < d → windFrom l px py d i = pathW px py (l.drop i) + edgeP px py (ptAt l (l.length - 1)) (ptAt l 0) := by
  intro d
  induction d with
  | zero =>
    intro i _ h
    omega
  | succ d ih =>
    intro i hi _
    have hi2 : i < l.length := by omega
    rw [windFrom, List.drop_eq_getElem_cons hi2]
    cases d with
    | zero =>
      rw [windFrom, List.drop_of_length_le (by omega), pathW, show (i + 1) % l.length = 0 by rw [show i + 1 = l.length by omega, Nat.mod_self], show l.length - 1 = i by omega]
      unfold edgeP
      omega
    | succ d =>
      have hi3 : i + 1 < l.length := by omega
      have h := ih (i + 1) (by omega) (by omega)
      rw [List.drop_eq_getElem_cons hi3] at h ⊢
      rw [pathW, h, Nat.mod_eq_of_lt hi3, ptAt_get l i hi2, ptAt_get l (i + 1) hi3]
      unfold edgeP
      omega
theorem windFrom_rev (l : List S32) (px py : Int) (h : 0 < l.length) : windFrom l.reverse px py l.reverse.length 0 = - windFrom l px py l.length 0 := by
  rw [windFrom_path l px py l.length 0 (by omega) h, windFrom_path l.reverse px py l.reverse.length 0 (by omega) (by simpa using h), List.drop_zero, List.drop_zero, pathW_rev]
  have e1 : ptAt l.reverse (l.reverse.length - 1) = ptAt l 0 := by
    rw [ptAt_get _ _ (by simp; omega), ptAt_get _ _ h, List.getElem_reverse]
    congr 1
    simp
  have e2 : ptAt l.reverse 0 = ptAt l (l.length - 1) := by
    rw [ptAt_get _ _ (by simpa using h), ptAt_get _ _ (by omega), List.getElem_reverse]
    rfl
  rw [e1, e2]
  unfold edgeP
  rw [edgeV_swap (ptAt l (l.length - 1)).f0 (ptAt l (l.length - 1)).f1]
  omega

/-! DrawB -/
theorem and255 (n : Int) : Go.bits .and .i64 n 255 = n % 256 := by
  have h255 : (BitVec.ofInt 64 255).toNat = 2 ^ 8 - 1 := by decide
  have key : (BitVec.ofInt 64 n &&& BitVec.ofInt 64 255).toNat = (n % ((2 ^ 64 : Nat) : Int)).toNat % 2 ^ 8 := by
    rw [BitVec.toNat_and, BitVec.toNat_ofInt, h255, Nat.and_two_pow_sub_one_eq_mod]
  show IntKind.i64.wrap ((BitVec.ofInt 64 n &&& BitVec.ofInt 64 255).toNat : Nat) = n % 256
  rw [key, IntKind.wrap_i64]
  omega
theorem byte_r (l : List Int) (p s : Int) (hp : 0 ≤ p) (hl : p ≤ l.length) (hn : l.length ≤ 1048576) : ∃ b q t : Int, spec_l01Byte.f l p s = some (b, q, t) ∧ 0 ≤ b ∧ b ≤ 255 ∧ 0 ≤ q ∧ q ≤ l.length := by
  unfold spec_l01Byte.f
  by_cases h : p < (l.length : Int)
  · rw [if_pos h, if_pos hp]
    refine ⟨_, _, _, rfl, ?_, ?_, ?_, ?_⟩
    · rw [and255]
      omega
    · rw [and255]
      omega
    · rw [w64 (by omega) (by omega)]
      omega
    · rw [w64 (by omega) (by omega)]
      omega
  · rw [if_neg h]
    refine ⟨_, _, _, rfl, ?_, ?_, hp, hl⟩
    · rw [and255]
      omega
    · rw [and255]
      omega
theorem below_r (l : List Int) (p s n : Int) (hp : 0 ≤ p) (hl : p ≤ l.length) (hn : l.length ≤ 1048576) (h0 : 0 < n) (h1 : n ≤ 9223372036854775807) : ∃ b q t : Int, spec_l01Below.f l p s n = some (b, q, t) ∧ 0 ≤ b ∧ b < n ∧ 0 ≤ q ∧ q ≤ l.length := by
  unfold spec_l01Below.f
  rw [if_neg (by omega)]
  by_cases h : n ≤ 256
  · obtain ⟨b, q, t, e, b0, b1, q0, q1⟩ := byte_r l p s hp hl hn
    rw [if_pos h, e]
    simp only [Option.bind_some]
    rw [if_neg (by omega)]
    refine ⟨_, _, _, rfl, ?_, ?_, q0, q1⟩
    · exact Int.tmod_nonneg _ b0
    · exact Int.tmod_lt_of_pos _ h0
  · obtain ⟨b, q, t, e, b0, b1, q0, q1⟩ := byte_r l p s hp hl hn
    obtain ⟨b', q', t', e', b0', b1', q0', q1'⟩ := byte_r l q t q0 q1 hn
    obtain ⟨b2, q2, t2, e2, b02, b12, q02, q12⟩ := byte_r l q' t' q0' q1' hn
    obtain ⟨b3, q3, t3, e3, b03, b13, q03, q13⟩ := byte_r l q2 t2 q02 q12 hn
    rw [if_neg h, e]
    simp only [Option.bind_some, e', e2, e3]
    rw [if_neg (by omega)]
    refine ⟨_, _, _, rfl, ?_, ?_, q03, q13⟩
    · refine Int.tmod_nonneg _ ?_
      rw [w64 (x := b * 16777216) (by omega) (by omega), w64 (x := b' * 65536) (by omega) (by omega), w64 (x := b2 * 256) (by omega) (by omega), w64 (x := b * 16777216 + b' * 65536) (by omega) (by omega), w64 (x := b * 16777216 + b' * 65536 + b2 * 256) (by omega) (by omega), w64 (by omega) (by omega)]
      omega
    · exact Int.tmod_lt_of_pos _ h0
theorem new_l (l : List Int) (hn : l.length ≤ 1048576) : ∀ (d : Nat) (i : Int) (x3 : Int), i + d = 4000 → 0 ≤ i → ∃ s, Ev (fun k => spec_l01New.l0 k l x3 i) (l, 0, s) := by
  intro d
  induction d with
  | zero =>
    intro i x3 hi h0
    refine ⟨x3, ev_done (fun k => ?_)⟩
    simp only [spec_l01New.l0]
    by_cases h : i < (l.length : Int)
    · rw [if_pos h, if_neg (by omega)]
    · rw [if_neg h]
  | succ d ih =>
    intro i x3 hi h0
    by_cases h : i < (l.length : Int)
    · obtain ⟨s, hs⟩ := ih (i + 1) (Go.bits .and .i64 (wrap64 ((wrap64 ((wrap64 (x3 * 131)) + (wrap64 (rd l i)))) + 7)) 1073741823) (by omega) (by omega)
      refine ⟨s, Ev.step (fun k => ?_) hs⟩
      simp only [spec_l01New.l0]
      rw [if_pos h, if_pos (by omega), if_pos h0, w64 (x := i + 1) (by omega) (by omega)]
    · refine ⟨x3, ev_done (fun k => ?_)⟩
      simp only [spec_l01New.l0]
      rw [if_neg h]
theorem new_v (l : List Int) (hn : l.length ≤ 1048576) : ∃ s, Ev (fun k => spec_l01New.f k l) (l, 0, s) := by
  obtain ⟨s, hs⟩ := new_l l hn 4000 0 (wrap64 (28001 + (l.length : Int))) (by omega) (by omega)
  exact ⟨s, hs⟩

/-! DrawPts -/
theorem ptR (l : List Int) (p s : Int) (hp : 0 ≤ p) (hl : p ≤ l.length) (hn : l.length ≤ 1048576) : ∃ a b q t : Int, spec_l04Point.f l p s = some (a, b, q, t) ∧ (-300 ≤ a ∧ a ≤ 3299) ∧ (-300 ≤ b ∧ b ≤ 3299) ∧ 0 ≤ q ∧ q ≤ l.length := by
  obtain ⟨b0, q0, t0, e0, l0, u0, v0, w0⟩ := below_r l p s 3600 hp hl hn (by omega) (by omega)
  obtain ⟨b1, q1, t1, e1, l1, u1, v1, w1⟩ := below_r l q0 t0 3600 v0 w0 hn (by omega) (by omega)
  unfold spec_l04Point.f
  rw [e0]
  simp only [Option.bind_some, e1]
  rw [w64 (x := b0 - 300) (by omega) (by omega), w64 (x := b1 - 300) (by omega) (by omega)]
  exact ⟨_, _, _, _, rfl, by omega, by omega, v1, w1⟩
def ptIn (x : S32) : Prop := (-300 ≤ x.f0 ∧ x.f0 ≤ 3299) ∧ (-300 ≤ x.f1 ∧ x.f1 ≤ 3299)
theorem drawPts_l (l : List Int) (hn : l.length ≤ 1048576) : ∀ (d : Nat) (i : Int) (acc : List S32) (p s : Int), i + d = 8 → 0 ≤ i → (acc.length : Int) = i → (∀ v ∈ acc, ptIn v) → 0 ≤ p → p ≤ l.length →
    ∃ r, Ev (fun k => spec_DrawPoints.l0 k acc i l p s) r ∧ (4 ≤ r.length ∧ r.length ≤ 8) ∧ ∀ v ∈ r, ptIn v := by
  intro d
  induction d with
  | zero =>
    intro i acc p s hi h0 ha hv hp hl
    obtain ⟨b, q, t, e, b0, b1, q0, q1⟩ := below_r l p s 5 hp hl hn (by omega) (by omega)
    refine ⟨acc, ev_done (fun k => ?_), by omega, hv⟩
    simp only [spec_DrawPoints.l0, e, Option.bind_some, w64 (x := 4 + b) (by omega) (by omega)]
    rw [if_neg (by omega)]
  | succ d ih =>
    intro i acc p s hi h0 ha hv hp hl
    obtain ⟨b, q, t, e, b0, b1, q0, q1⟩ := below_r l p s 5 hp hl hn (by omega) (by omega)
    by_cases hb : i < 4 + b
    · obtain ⟨x, y, q2, t2, e2, hx, hy, v2, w2⟩ := ptR l q t q0 q1 hn
      obtain ⟨r, h1, h2, h3⟩ := ih (i + 1) (acc ++ [⟨x, y⟩]) q2 t2 (by omega) (by omega) (by simp; omega) (by
        intro v hv'
        rcases List.mem_append.mp hv' with h | h
        · exact hv v h
        · obtain rfl : v = ⟨x, y⟩ := by simpa using h
          exact ⟨hx, hy⟩) v2 w2
      refine ⟨r, Ev.step (fun k => ?_) h1, h2, h3⟩
      simp only [spec_DrawPoints.l0, e, e2, Option.bind_some, w64 (x := i + 1) (by omega) (by omega), w64 (x := 4 + b) (by omega) (by omega)]
      rw [if_pos hb, if_pos (by omega)]
    · refine ⟨acc, ev_done (fun k => ?_), by omega, hv⟩
      simp only [spec_DrawPoints.l0, e, Option.bind_some, w64 (x := 4 + b) (by omega) (by omega)]
      rw [if_neg hb]
/-- Some drawn points: four to eight, each in its bounds. -/
theorem drawPts (l : List Int) (hn : l.length ≤ 1048576) : ∃ r, Ev (fun k => spec_DrawPoints.f k l) r ∧ (4 ≤ r.length ∧ r.length ≤ 8) ∧ ∀ v ∈ r, ptIn v := by
  obtain ⟨s, hs⟩ := new_v l hn
  obtain ⟨r, h1, h2, h3⟩ := drawPts_l l hn 8 0 [] 0 s (by omega) (by omega) rfl (by simp) (by omega) (by omega)
  refine ⟨r, ?_, h2, h3⟩
  unfold spec_DrawPoints.f
  refine Ev.bind hs ?_
  exact h1

/-! DrawPlaces -/
theorem places_l (l : List Int) (hn : l.length ≤ 1048576) : ∀ (d : Nat) (i : Int) (acc : List Int) (p s : Int), i + d = 12 → 0 ≤ i → (acc.length : Int) = i → (∀ v ∈ acc, 0 ≤ v) → 0 ≤ p → p ≤ l.length →
    ∃ r, Ev (fun k => spec_DrawPlaces.l0 k acc i l p s) r ∧ r.length = 12 ∧ ∀ v ∈ r, 0 ≤ v := by
  intro d
  induction d with
  | zero =>
    intro i acc p s hi h0 ha hv hp hl
    refine ⟨acc, ev_done (fun k => ?_), by omega, hv⟩
    simp only [spec_DrawPlaces.l0]
    rw [if_neg (by omega)]
  | succ d ih =>
    intro i acc p s hi h0 ha hv hp hl
    obtain ⟨b, q, t, e, b0, b1, q0, q1⟩ := below_r l p s 10000 hp hl hn (by omega) (by omega)
    obtain ⟨r, h1, h2, h3⟩ := ih (i + 1) (acc ++ [b]) q t (by omega) (by omega) (by simp; omega) (by
      intro v hv'
      rcases List.mem_append.mp hv' with h | h
      · exact hv v h
      · obtain rfl : v = b := by simpa using h
        exact b0) q0 q1
    refine ⟨r, Ev.step (fun k => ?_) h1, h2, h3⟩
    simp only [spec_DrawPlaces.l0, e, Option.bind_some, w64 (x := i + 1) (by omega) (by omega)]
    rw [if_pos (by omega), if_pos (by omega)]
theorem DrawPlaces_v (l : List Int) (hn : l.length ≤ 1048576) : ∃ r, Ev (fun k => spec_DrawPlaces.f k l) r ∧ r.length = 12 ∧ ∀ v ∈ r, 0 ≤ v := by
  obtain ⟨s, hs⟩ := new_v l hn
  obtain ⟨b, q, t, e, b0, b1, q0, q1⟩ := byte_r l 0 s (by omega) (by omega) hn
  obtain ⟨r, h1, h2, h3⟩ := places_l l hn 12 0 [] q t (by omega) (by omega) rfl (by simp) q0 q1
  refine ⟨r, ?_, h2, h3⟩
  unfold spec_DrawPlaces.f
  refine Ev.bind hs ?_
  simp only [e, Option.bind_some]
  exact h1

/-! spec_l01In -/
theorem spec_l01In_v (a b c : Int) : spec_l01In.f a b c = some (decide (b ≤ a ∧ a ≤ c)) := by
  unfold spec_l01In.f
  by_cases h : a ≥ b
  · rw [if_pos h]
    simp [h]
  · rw [if_neg h]
    simp
    omega

/-! spec_PointOk -/
def pointOkP (a b : Int) : Prop := (-8388608 ≤ a ∧ a ≤ 8388608) ∧ (-8388608 ≤ b ∧ b ≤ 8388608)
instance (a b : Int) : Decidable (pointOkP a b) := by unfold pointOkP; infer_instance
theorem spec_PointOk_v (a b : Int) : spec_PointOk.f a b = some (decide (pointOkP a b)) := by
  unfold spec_PointOk.f pointOkP
  simp only [spec_l01In_v, Option.bind_some, decide_eq_true_eq]
  repeat' split
  all_goals first | (refine congrArg some (decide_eq_decide.mpr ?_); omega) | (refine congrArg some (Eq.symm (decide_eq_false ?_)); omega)

/-! PathB -/
def needB (v : Int) : Int := if v = 1 ∨ v = 2 then 1 else if v = 3 then 2 else if v = 4 then 3 else if v = 5 then 0 else -1
theorem needB_bd (v : Int) : -1 ≤ needB v ∧ needB v ≤ 3 := by
  unfold needB
  repeat' split
  all_goals omega
def prevB (l : List Int) : Nat → Int
  | 0 => 5
  | i + 1 => rd l (i : Int)
def verbsB : Int → List Int → Int → Option Int
  | _, [], n => some n
  | p, v :: vs, n => if needB v < 0 then none else if p = 5 ∧ v ≠ 1 then none else verbsB v vs (n + needB v)
def pointsB (l : List S32) : Bool := l.all (fun p => decide (pointOkP p.f0 p.f1))
def endB (pts : List S32) : Option Int → Bool
  | none => false
  | some m => m == (pts.length : Int)
def pathB (l : List Int) (pts : List S32) : Bool := decide (pts.length ≤ 24) && (decide (l.length ≤ 24) && (pointsB pts && endB pts (verbsB 5 l 0)))

/-! PathOk_spec -/
theorem spec_NeedOf_v (v : Int) : spec_NeedOf.f v = some (needB v) := by
  unfold spec_NeedOf.f
  simp only [spec_l01In_v, Option.bind_some]
  by_cases h : 1 ≤ v ∧ v ≤ 5
  · rw [decide_eq_true h, if_pos rfl]
    have h5 : v = 1 ∨ v = 2 ∨ v = 3 ∨ v = 4 ∨ v = 5 := by omega
    rcases h5 with rfl | rfl | rfl | rfl | rfl <;> simp [wrap64, rd, needB]
  · rw [decide_eq_false h, if_neg (by simp)]
    unfold needB
    rw [if_neg (by omega), if_neg (by omega), if_neg (by omega), if_neg (by omega)]
theorem spec_points_l (l : List Int) (pts : List S32) (n : Int) (hn : pts.length ≤ 1048576) : ∀ (d i : Nat), i + d = pts.length → Ev (fun k => spec_PathOk.l1 k n (i : Int) l pts) (pointsB (pts.drop i) && (n == (pts.length : Int))) := by
  intro d
  induction d with
  | zero =>
    intro i hi
    refine ev_done (fun k => ?_)
    simp only [spec_PathOk.l1]
    rw [if_neg (by omega), List.drop_of_length_le (by omega)]
    rfl
  | succ d ih =>
    intro i hi
    have hi2 : i < pts.length := by omega
    rw [List.drop_eq_getElem_cons hi2, pointsB, List.all_cons]
    by_cases hx : pointOkP pts[i].f0 pts[i].f1
    · rw [decide_eq_true hx, Bool.true_and]
      refine Ev.step (fun k => ?_) (ih (i + 1) (by omega))
      simp only [spec_PathOk.l1, spec_PointOk_v, Option.bind_some]
      rw [if_pos (by omega), if_pos (by omega), rd_impl_Point _ _ hi2, step64 hi2 (by omega), if_pos (by simpa using hx)]
    · rw [decide_eq_false hx, Bool.false_and, Bool.false_and]
      refine ev_done (fun k => ?_)
      simp only [spec_PathOk.l1, spec_PointOk_v, Option.bind_some]
      rw [if_pos (by omega), if_pos (by omega), rd_impl_Point _ _ hi2, if_neg (by simpa using hx)]
theorem spec_path_l (l : List Int) (pts : List S32) (hn : l.length ≤ 24) (hp : pts.length ≤ 24) : ∀ (d i : Nat) (n : Int), i + d = l.length → 0 ≤ n → n ≤ 3 * (i : Int) →
    Ev (fun k => spec_PathOk.l0 k n (i : Int) l pts) (pointsB pts && endB pts (verbsB (prevB l i) (l.drop i) n)) := by
  intro d
  induction d with
  | zero =>
    intro i n hi h0 h1
    rw [List.drop_of_length_le (by omega)]
    refine Ev.step (fun k => ?_) (spec_points_l l pts n (by omega) pts.length 0 (by omega))
    simp only [spec_PathOk.l0]
    rw [if_neg (by omega)]
    rfl
  | succ d ih =>
    intro i n hi h0 h1
    have hi2 : i < l.length := by omega
    have hb := needB_bd l[i]
    have hno : (pointsB pts && false) = false := Bool.and_false _
    rw [List.drop_eq_getElem_cons hi2, verbsB]
    by_cases hneg : needB l[i] < 0
    · rw [if_pos hneg]
      show Ev _ (pointsB pts && false)
      rw [hno]
      refine ev_done (fun k => ?_)
      simp only [spec_PathOk.l0, rd_int _ _ hi2, spec_NeedOf_v, Option.bind_some]
      rw [if_pos (by omega), if_pos (by omega), if_pos hneg]
    · rw [if_neg hneg]
      have hr := ih (i + 1) (n + needB l[i]) (by omega) (by omega) (by omega)
      rw [show prevB l (i + 1) = l[i] from rd_int l i hi2] at hr
      cases i with
      | zero =>
        by_cases hv : l[0] = 1
        · rw [if_neg (fun h => h.2 hv)]
          refine Ev.step (fun k => ?_) hr
          simp only [spec_PathOk.l0, rd_int _ _ hi2, spec_NeedOf_v, Option.bind_some]
          rw [if_pos (by omega), if_pos (by omega), if_neg hneg, if_pos (by omega), if_pos hv, w64 (x := n + needB l[0]) (by omega) (by omega), step64 hi2 (by omega)]
        · rw [if_pos ⟨rfl, hv⟩]
          show Ev _ (pointsB pts && false)
          rw [hno]
          refine ev_done (fun k => ?_)
          simp only [spec_PathOk.l0, rd_int _ _ hi2, spec_NeedOf_v, Option.bind_some]
          rw [if_pos (by omega), if_pos (by omega), if_neg hneg, if_pos (by omega), if_neg hv]
      | succ j =>
        have ej : wrap64 (((j + 1 : Nat) : Int) - 1) = (j : Int) := by rw [w64 (by omega) (by omega)]; omega
        show Ev _ (pointsB pts && endB pts (if rd l (j : Int) = 5 ∧ l[j + 1] ≠ 1 then none else _))
        by_cases hp5 : rd l (j : Int) = 5
        · by_cases hv : l[j + 1] = 1
          · rw [if_neg (fun h => h.2 hv)]
            refine Ev.step (fun k => ?_) hr
            simp only [spec_PathOk.l0, rd_int _ _ hi2, spec_NeedOf_v, Option.bind_some, ej]
            rw [if_pos (by omega), if_pos (by omega), if_neg hneg, if_neg (by omega), if_pos (by omega), if_pos (by omega), if_pos hp5, if_pos hv, w64 (x := n + needB l[j + 1]) (by omega) (by omega), step64 hi2 (by omega)]
          · rw [if_pos ⟨hp5, hv⟩]
            show Ev _ (pointsB pts && false)
            rw [hno]
            refine ev_done (fun k => ?_)
            simp only [spec_PathOk.l0, rd_int _ _ hi2, spec_NeedOf_v, Option.bind_some, ej]
            rw [if_pos (by omega), if_pos (by omega), if_neg hneg, if_neg (by omega), if_pos (by omega), if_pos (by omega), if_pos hp5, if_neg hv]
        · rw [if_neg (fun h => hp5 h.1)]
          refine Ev.step (fun k => ?_) hr
          simp only [spec_PathOk.l0, rd_int _ _ hi2, spec_NeedOf_v, Option.bind_some, ej]
          rw [if_pos (by omega), if_pos (by omega), if_neg hneg, if_neg (by omega), if_pos (by omega), if_pos (by omega), if_neg hp5, w64 (x := n + needB l[j + 1]) (by omega) (by omega), step64 hi2 (by omega)]
theorem spec_PathOk_v (l : List Int) (pts : List S32) : Ev (fun k => spec_PathOk.f k l pts) (pathB l pts) := by
  unfold spec_PathOk.f pathB
  have hno : Ev (fun k => spec_PathOk.j0 k true l pts) false := ev_done (fun k => rfl)
  by_cases h1 : pts.length ≤ 24
  · rw [decide_eq_true h1, Bool.true_and]
    simp only [if_neg (show ¬ (pts.length : Int) > 24 by omega)]
    by_cases h2 : l.length ≤ 24
    · rw [decide_eq_true h2, Bool.true_and, decide_eq_false (show ¬ (l.length : Int) > 24 by omega)]
      exact Ev.step (fun k => rfl) (spec_path_l l pts h2 h1 l.length 0 0 (by omega) (by omega) (by omega))
    · rw [decide_eq_false h2, Bool.false_and, decide_eq_true (show (l.length : Int) > 24 by omega)]
      exact hno
  · rw [decide_eq_false h1, Bool.false_and]
    simp only [if_pos (show (pts.length : Int) > 24 by omega)]
    exact hno

/-! law_FnCovers -/
theorem least_v (x y : Int) : spec_l05Least.f x y = some (if x < y then x else y) := by
  unfold spec_l05Least.f
  split <;> rfl
theorem most_v (x y : Int) : spec_l05Most.f x y = some (if x > y then x else y) := by
  unfold spec_l05Most.f
  split <;> rfl
theorem empty_v (a b c d : Int) : spec_Empty.f a b c d = some (decide (a ≥ c ∨ b ≥ d)) := by
  unfold spec_Empty.f
  by_cases h : a ≥ c
  · rw [if_pos h, decide_eq_true (.inl h)]
  · rw [if_neg h]
    refine congrArg some (decide_eq_decide.mpr ?_)
    omega
theorem join_v (i : Nat) {p q r s x y : Int} (h : (i = 0 ∧ p = 0 ∧ q = 0 ∧ r = 0 ∧ s = 0) ∨ (0 < i ∧ p < r ∧ q < s)) : ∃ p' q' r' s', Ev (fun k => spec_JoinBox.f k p q r s x y (x + 1) (y + 1)) (p', q', r', s') ∧ p' ≤ x ∧ q' ≤ y ∧ x + 1 ≤ r' ∧ y + 1 ≤ s' ∧
    ((i = 0 ∧ p' = x ∧ q' = y ∧ r' = x + 1 ∧ s' = y + 1) ∨ (0 < i ∧ p' ≤ p ∧ q' ≤ q ∧ r ≤ r' ∧ s ≤ s' ∧ (p' = p ∨ p' = x) ∧ (q' = q ∨ q' = y) ∧ (r' = r ∨ r' = x + 1) ∧ (s' = s ∨ s' = y + 1))) := by
  unfold spec_JoinBox.f
  simp only [empty_v, Option.bind_some]
  have e1 : decide (x ≥ x + 1 ∨ y ≥ y + 1) = false := decide_eq_false (by omega)
  rcases h with ⟨hi, rfl, rfl, rfl, rfl⟩ | h
  · refine ⟨x, y, x + 1, y + 1, ?_, by omega, by omega, by omega, by omega, .inl ⟨hi, rfl, rfl, rfl, rfl⟩⟩
    simp only [show decide ((0 : Int) ≥ 0 ∨ (0 : Int) ≥ 0) = true by decide, if_true, e1]
    refine ev_done (fun k => ?_)
    simp only [spec_JoinBox.j0, empty_v, Option.bind_some, show decide ((0 : Int) ≥ 0 ∨ (0 : Int) ≥ 0) = true by decide, if_true, Bool.false_eq_true, if_false]
  · have e2 : decide (p ≥ r ∨ q ≥ s) = false := decide_eq_false (by omega)
    refine ⟨if p < x then p else x, if q < y then q else y, if r > x + 1 then r else x + 1, if s > y + 1 then s else y + 1, ?_, ?_⟩
    · simp only [e2, Bool.false_eq_true, if_false]
      refine ev_done (fun k => ?_)
      simp only [spec_JoinBox.j0, empty_v, Option.bind_some, e1, e2, Bool.false_eq_true, if_false, least_v, most_v]
    · refine ⟨?_, ?_, ?_, ?_, .inr ⟨h.1, ?_, ?_, ?_, ?_, ?_, ?_, ?_, ?_⟩⟩
      all_goals split <;> omega
theorem box_l (P : List S32) (hn : P.length ≤ 1000) (hin : ∀ v ∈ P, ptIn v) : ∀ (n i : Nat) (p q r s : Int), i + n = P.length → ((i = 0 ∧ p = 0 ∧ q = 0 ∧ r = 0 ∧ s = 0) ∨ (0 < i ∧ p < r ∧ q < s)) → (0 < i → (-300 ≤ p ∧ -300 ≤ q ∧ r ≤ 3300 ∧ s ≤ 3300)) →
    (∀ j, (h : j < P.length) → j < i → p ≤ P[j].f0 ∧ P[j].f0 < r ∧ q ≤ P[j].f1 ∧ P[j].f1 < s) → ∃ p' q' r' s', Ev (fun k => spec_BoxOf.l0 k P (i : Int) p q r s) (p', q', r', s') ∧ (0 < P.length → (-300 ≤ p' ∧ -300 ≤ q' ∧ r' ≤ 3300 ∧ s' ≤ 3300)) ∧
    (∀ j, (h : j < P.length) → p' ≤ P[j].f0 ∧ P[j].f0 < r' ∧ q' ≤ P[j].f1 ∧ P[j].f1 < s') := by
  intro n
  induction n with
  | zero =>
    intro i p q r s hi h hb hj
    refine ⟨p, q, r, s, ev_done (fun k => ?_), fun h0 => hb (by omega), fun j h => hj j h (by omega)⟩
    simp only [spec_BoxOf.l0]
    rw [if_neg (by omega)]
  | succ n ih =>
    intro i p q r s hi h hb hj
    have hi2 : i < P.length := by omega
    have hp := hin _ (List.getElem_mem hi2)
    unfold ptIn at hp
    obtain ⟨p', q', r', s', k1, g1, g2, g3, g4, g5⟩ := join_v i (x := P[i].f0) (y := P[i].f1) h
    obtain ⟨p2, q2, r2, s2, k2, b2, c2⟩ := ih (i + 1) p' q' r' s' (by omega) (.inr ⟨by omega, by omega, by omega⟩) (by
      intro _
      rcases g5 with g5 | g5
      · omega
      · have := hb g5.1
        omega) (by
      intro j hj2 hji
      by_cases hje : j = i
      · subst hje
        omega
      · have h1 := hj j hj2 (by omega)
        rcases g5 with g5 | g5
        · omega
        · omega)
    refine ⟨p2, q2, r2, s2, ?_, b2, c2⟩
    refine Ev.step (fun k => rfl) ?_
    simp only [spec_BoxOf.l0, rd_impl_Point _ _ hi2, spec_l05Clamp.f, spec_Clamp.f, if_pos (show (i : Int) < (P.length : Int) by omega), if_pos (show (0 : Int) ≤ (i : Int) by omega), if_neg (show ¬ P[i].f0 < -33554432 by omega), if_neg (show ¬ P[i].f0 > 33554432 by omega), if_neg (show ¬ P[i].f1 < -33554432 by omega), if_neg (show ¬ P[i].f1 > 33554432 by omega), Option.bind_some, w64 (x := P[i].f0 + 1) (by omega) (by omega), w64 (x := P[i].f1 + 1) (by omega) (by omega)]
    refine Ev.bind k1 ?_
    simp only [step64 hi2 (show P.length ≤ 4611686018427387904 by omega)]
    exact k2
theorem DrawBoxes_v (l : List Int) (hn : l.length ≤ 1048576) : ∃ a b c d a' b' c' d' x y, Ev (fun k => spec_DrawBoxes.f k l) (a, b, c, d, a', b', c', d', x, y) ∧ (0 ≤ a ∧ a ≤ 8) ∧ (0 ≤ b ∧ b ≤ 8) ∧ (a ≤ c ∧ c ≤ 16) ∧ (b ≤ d ∧ d ≤ 16) ∧ (0 ≤ x ∧ x ≤ 17) ∧ (0 ≤ y ∧ y ≤ 17) := by
  obtain ⟨s, hs⟩ := new_v l hn
  obtain ⟨b1, q1, t1, e1, l1, u1, v1, w1⟩ := below_r l 0 s 9 (by omega) (by omega) hn (by omega) (by omega)
  obtain ⟨b2, q2, t2, e2, l2, u2, v2, w2⟩ := below_r l q1 t1 9 v1 w1 hn (by omega) (by omega)
  obtain ⟨b3, q3, t3, e3, l3, u3, v3, w3⟩ := below_r l q2 t2 9 v2 w2 hn (by omega) (by omega)
  obtain ⟨b4, q4, t4, e4, l4, u4, v4, w4⟩ := below_r l q3 t3 9 v3 w3 hn (by omega) (by omega)
  obtain ⟨b5, q5, t5, e5, l5, u5, v5, w5⟩ := below_r l q4 t4 9 v4 w4 hn (by omega) (by omega)
  obtain ⟨b6, q6, t6, e6, l6, u6, v6, w6⟩ := below_r l q5 t5 9 v5 w5 hn (by omega) (by omega)
  obtain ⟨b7, q7, t7, e7, l7, u7, v7, w7⟩ := below_r l q6 t6 9 v6 w6 hn (by omega) (by omega)
  obtain ⟨b8, q8, t8, e8, l8, u8, v8, w8⟩ := below_r l q7 t7 9 v7 w7 hn (by omega) (by omega)
  obtain ⟨b9, q9, t9, e9, l9, u9, v9, w9⟩ := below_r l q8 t8 18 v8 w8 hn (by omega) (by omega)
  obtain ⟨b10, q10, t10, e10, l10, u10, _, _⟩ := below_r l q9 t9 18 v9 w9 hn (by omega) (by omega)
  refine ⟨b1, b2, b1 + b3, b2 + b4, b5, b6, wrap64 (b5 + b7), wrap64 (b6 + b8), b9, b10, ?_, by omega, by omega, by omega, by omega, by omega, by omega⟩
  unfold spec_DrawBoxes.f
  refine Ev.bind hs ?_
  simp only [e1, e2, e3, e4, e5, e6, e7, e8, e9, e10, Option.bind_some, w64 (x := b1 + b3) (by omega) (by omega), w64 (x := b2 + b4) (by omega) (by omega)]
  exact Ev.now _
def rectL (X0 Y0 X1 Y1 : Int) : List S32 := [⟨X0, Y0⟩, ⟨X1, Y0⟩, ⟨X1, Y1⟩, ⟨X0, Y1⟩, ⟨X0, Y0⟩]
theorem flat_rect {X0 Y0 X1 Y1 : Int} (hy : Y0 < Y1) (hp : pathB [1, 2, 2, 2, 5] [⟨X0, Y0⟩, ⟨X1, Y0⟩, ⟨X1, Y1⟩, ⟨X0, Y1⟩] = true) : Ev (fun k => spec_FlatOf.f k [1, 2, 2, 2, 5] [⟨X0, Y0⟩, ⟨X1, Y0⟩, ⟨X1, Y1⟩, ⟨X0, Y1⟩]) [rectL X0 Y0 X1 Y1] := by
  have h := spec_PathOk_v [1, 2, 2, 2, 5] [⟨X0, Y0⟩, ⟨X1, Y0⟩, ⟨X1, Y1⟩, ⟨X0, Y1⟩]
  rw [hp] at h
  generalize hP : ([⟨X0, Y0⟩, ⟨X1, Y0⟩, ⟨X1, Y1⟩, ⟨X0, Y1⟩] : List S32) = P at h ⊢
  have hl : P.length = 4 := by rw [← hP]; rfl
  have p0 : rd_T32 P 0 = ⟨X0, Y0⟩ := by rw [← hP]; rfl
  have p1 : rd_T32 P 1 = ⟨X1, Y0⟩ := by rw [← hP]; rfl
  have p2 : rd_T32 P 2 = ⟨X1, Y1⟩ := by rw [← hP]; rfl
  have p3 : rd_T32 P 3 = ⟨X0, Y1⟩ := by rw [← hP]; rfl
  have n1 : spec_NeedOf.f 1 = some 1 := by rw [spec_NeedOf_v]; rfl
  have n2 : spec_NeedOf.f 2 = some 1 := by rw [spec_NeedOf_v]; rfl
  have n5 : spec_NeedOf.f 5 = some 0 := by rw [spec_NeedOf_v]; rfl
  have r0 : rd [1, 2, 2, 2, 5] 0 = 1 := rfl
  have r1 : rd [1, 2, 2, 2, 5] 1 = 2 := rfl
  have r2 : rd [1, 2, 2, 2, 5] 2 = 2 := rfl
  have r3 : rd [1, 2, 2, 2, 5] 3 = 2 := rfl
  have r4 : rd [1, 2, 2, 2, 5] 4 = 5 := rfl
  have l5 : (([1, 2, 2, 2, 5] : List Int).length : Int) = 5 := rfl
  generalize ([1, 2, 2, 2, 5] : List Int) = V at h r0 r1 r2 r3 r4 l5 ⊢
  have line : ∀ (now : List S32) (i : Int) (x y : Int), 1 ≤ i → i ≤ 3 → rd V i = 2 → rd_T32 P i = ⟨x, y⟩ → now.length ≤ 100 → ∀ k, spec_FlatOf.l0 (k + 1) [] now i i V P = spec_FlatOf.l0 k [] (now ++ [⟨x, y⟩]) (i + 1) (i + 1) V P := by
    intro now i x y h1 h2 h3 h4 h5 k
    simp only [spec_FlatOf.l0, l5, h3, h4, n2, Option.bind_some, w64 (x := i + 1) (by omega) (by omega)]
    rw [if_pos (by omega), if_pos (by omega), if_neg (by omega)]
    simp only [if_true]
    rw [if_pos (by omega), if_pos (by omega), if_pos (by omega)]
  unfold spec_FlatOf.f
  simp only [Option.bind_some]
  refine Ev.bind h ?_
  simp only [if_true]
  refine Ev.step (f := fun k => spec_FlatOf.l0 k [] [⟨X0, Y0⟩] 1 1 V P) (fun k => ?_) ?_
  · simp only [spec_FlatOf.l0, l5, r0, p0, n1, Option.bind_some, w64 (x := 0 + 1) (by omega) (by omega)]
    rw [if_pos (by omega), if_pos (by omega)]
    simp only [if_true]
    rw [if_neg (by omega), if_pos (by omega), if_pos (by omega)]
    rfl
  refine Ev.step (line [⟨X0, Y0⟩] 1 X1 Y0 (by omega) (by omega) r1 p1 (by simp)) ?_
  refine Ev.step (line _ (1 + 1) X1 Y1 (by omega) (by omega) r2 p2 (by simp)) ?_
  refine Ev.step (line _ (1 + 1 + 1) X0 Y1 (by omega) (by omega) r3 p3 (by simp)) ?_
  refine Ev.step (f := fun k => spec_FlatOf.l0 k [] (rectL X0 Y0 X1 Y1) 4 5 V P) (fun k => ?_) ?_
  · generalize hN : ([⟨X0, Y0⟩] ++ [⟨X1, Y0⟩] ++ [⟨X1, Y1⟩] ++ [⟨X0, Y1⟩] : List S32) = now
    have hnl : (now.length : Int) = 4 := by rw [← hN]; rfl
    have hnl2 : now.length = 4 := by rw [← hN]; rfl
    have q0 : rd_T32 now 0 = ⟨X0, Y0⟩ := by rw [← hN]; rfl
    have q3 : rd_T32 now 3 = ⟨X0, Y1⟩ := by rw [← hN]; rfl
    have hz : wrap64 (4 - 1) = 3 := by rw [w64 (x := 4 - 1) (by omega) (by omega)]; rfl
    have e4 : (1 + 1 + 1 + 1 : Int) = 4 := rfl
    have hc : (!(X0 == X0) || !(Y0 == Y1)) = true := by
      have : (Y0 == Y1) = false := beq_eq_false_iff_ne.mpr (by omega)
      rw [this]
      simp
    have hr : now ++ [⟨X0, Y0⟩] = rectL X0 Y0 X1 Y1 := by rw [← hN]; rfl
    simp only [e4, spec_FlatOf.l0, l5, r4, hnl, hz, q0, q3, n5, Option.bind_some, hc, hr, w64 (x := 4 + 1) (by omega) (by omega), w64 (x := 4 + 0) (by omega) (by omega)]
    rw [if_pos (by omega), if_pos (by omega), if_neg (by omega), if_neg (by omega), if_neg (by omega), if_neg (by omega)]
    simp only [if_true]
    rw [if_pos (by omega), if_pos (by omega), if_pos (by omega), if_pos (by omega)]
    rfl
  refine ev_done (fun k => ?_)
  simp only [spec_FlatOf.l0, l5]
  rw [if_neg (by omega), if_pos (by simp [rectL]), if_pos (by simp)]
  rfl
theorem flat_none : Ev (fun k => spec_FlatOf.f k [] []) ([] : List (List S32)) := by
  have h := spec_PathOk_v [] []
  rw [show pathB [] [] = true by decide] at h
  unfold spec_FlatOf.f
  simp only [Option.bind_some]
  refine Ev.bind h ?_
  simp only [if_true]
  refine ev_done (fun k => ?_)
  simp only [spec_FlatOf.l0]
  rw [if_neg (by simp), if_neg (by simp)]
theorem cov_f (L : List S32) (px py : Int) : coversB [L] false px py = (windV L px py != 0) := by
  simp [coversB, windSum]
theorem cov_t (L : List S32) (px py : Int) : coversB [L] true px py = ((Int.tmod (windV L px py) 2) != 0) := by
  simp [coversB, windSum]
theorem mask_rect {a b c d x y : Int} (e : Bool) (ha : 0 ≤ a ∧ a ≤ 8) (hb : 0 ≤ b ∧ b ≤ 8) (hc : a < c ∧ c ≤ 16) (hd : b < d ∧ d ≤ 16) (hx : 0 ≤ x ∧ x ≤ 17) (hy : 0 ≤ y ∧ y ≤ 17) : Ev (fun k => impl_MaskAt.f k [rectL (256 * a) (256 * b) (256 * c) (256 * d)] e x y) (if a ≤ x ∧ x < c ∧ b ≤ y ∧ y < d then 15 else 0) := by
  have h := mask_val [rectL (256 * a) (256 * b) (256 * c) (256 * d)] e (by simp) (by simp [rectL]) x y (by omega) (by omega)
  have g : ∀ px py : Int, (px = 256 * x + 64 ∨ px = 256 * x + 64 + 128) → (py = 256 * y + 64 ∨ py = 256 * y + 64 + 128) → coversB [rectL (256 * a) (256 * b) (256 * c) (256 * d)] e px py = decide (a ≤ x ∧ x < c ∧ b ≤ y ∧ y < d) := by
    intro px py h1 h2
    have hw : windV (rectL (256 * a) (256 * b) (256 * c) (256 * d)) px py = inB (256 * a) (256 * b) (256 * c) (256 * d) px py := rect5_wind (by omega) (by omega) (by unfold smallP; omega) (by unfold smallP; omega) (by unfold smallP; omega) (by unfold smallP; omega) (by unfold smallP; omega) (by unfold smallP; omega)
    by_cases hq : a ≤ x ∧ x < c ∧ b ≤ y ∧ y < d
    · have hi : inB (256 * a) (256 * b) (256 * c) (256 * d) px py = 1 := by
        unfold inB
        rw [if_pos (by omega)]
      rw [decide_eq_true hq]
      cases e
      · rw [cov_f, hw, hi]
        rfl
      · rw [cov_t, hw, hi]
        rfl
    · have hi : inB (256 * a) (256 * b) (256 * c) (256 * d) px py = 0 := by
        unfold inB
        rw [if_neg (by omega)]
      rw [decide_eq_false hq]
      cases e
      · rw [cov_f, hw, hi]
        rfl
      · rw [cov_t, hw, hi]
        rfl
  rw [g _ _ (.inl rfl) (.inl rfl), g _ _ (.inr rfl) (.inl rfl), g _ _ (.inl rfl) (.inr rfl), g _ _ (.inr rfl) (.inr rfl)] at h
  by_cases hq : a ≤ x ∧ x < c ∧ b ≤ y ∧ y < d
  · rw [decide_eq_true hq] at h
    rw [if_pos hq]
    exact h
  · rw [decide_eq_false hq] at h
    rw [if_neg hq]
    exact h
theorem mask_none (x y : Int) (hx : 0 ≤ x ∧ x ≤ 17) (hy : 0 ≤ y ∧ y ≤ 17) : Ev (fun k => impl_MaskAt.f k [] false x y) 0 := by
  have h := mask_val [] false (by simp) (by simp) x y (by omega) (by omega)
  exact h
/-- The box's lines, and what MaskAt tells of them. -/
theorem unit_mask {a b c d : Int} (ha : 0 ≤ a ∧ a ≤ 8) (hb : 0 ≤ b ∧ b ≤ 8) (hc : a ≤ c ∧ c ≤ 16) (hd : b ≤ d ∧ d ≤ 16) : ∃ vs ps fl, spec_RectPath.f (wrap64 (256 * a)) (wrap64 (256 * b)) (wrap64 (256 * c)) (wrap64 (256 * d)) = some (vs, ps) ∧ Ev (fun k => spec_FlatOf.f k vs ps) fl ∧
    (∀ x y, 0 ≤ x ∧ x ≤ 17 → 0 ≤ y ∧ y ≤ 17 → Ev (fun k => impl_MaskAt.f k fl false x y) (if a ≤ x ∧ x < c ∧ b ≤ y ∧ y < d then 15 else 0)) ∧ (a < c → b < d → Ev (fun k => impl_MaskAt.f k fl true a b) 15) := by
  rw [w64 (x := 256 * a) (by omega) (by omega), w64 (x := 256 * b) (by omega) (by omega), w64 (x := 256 * c) (by omega) (by omega), w64 (x := 256 * d) (by omega) (by omega)]
  by_cases hne : a < c ∧ b < d
  · refine ⟨[1, 2, 2, 2, 5], [⟨256 * a, 256 * b⟩, ⟨256 * c, 256 * b⟩, ⟨256 * c, 256 * d⟩, ⟨256 * a, 256 * d⟩], [rectL (256 * a) (256 * b) (256 * c) (256 * d)], ?_, flat_rect (by omega) ?_, fun x y hx hy => mask_rect false ha hb ⟨hne.1, hc.2⟩ ⟨hne.2, hd.2⟩ hx hy, fun h1 h2 => ?_⟩
    · have e0 : decide (256 * a ≥ 256 * c ∨ 256 * b ≥ 256 * d) = false := decide_eq_false (by omega)
      have t0 : rd_T32 [⟨256 * a, 256 * b⟩, ⟨256 * c, 256 * b⟩, ⟨256 * c, 256 * d⟩, ⟨256 * a, 256 * d⟩] 0 = ⟨256 * a, 256 * b⟩ := rfl
      have t2 : rd_T32 [⟨256 * a, 256 * b⟩, ⟨256 * c, 256 * b⟩, ⟨256 * c, 256 * d⟩, ⟨256 * a, 256 * d⟩] 2 = ⟨256 * c, 256 * d⟩ := rfl
      have k0 : spec_PointOk.f (256 * a) (256 * b) = some true := by
        rw [spec_PointOk_v, decide_eq_true (show pointOkP (256 * a) (256 * b) from ⟨⟨by omega, by omega⟩, by omega, by omega⟩)]
      have k2 : spec_PointOk.f (256 * c) (256 * d) = some true := by
        rw [spec_PointOk_v, decide_eq_true (show pointOkP (256 * c) (256 * d) from ⟨⟨by omega, by omega⟩, by omega, by omega⟩)]
      simp only [spec_RectPath.f, empty_v, e0, Option.bind_some, Bool.false_eq_true, if_false, t0, t2, k0, k2, if_true]
      rw [if_pos (by simp), if_pos (by simp)]
    · have hk : ∀ u v : Int, 0 ≤ u → u ≤ 16 → 0 ≤ v → v ≤ 16 → decide (pointOkP (256 * u) (256 * v)) = true := fun u v g1 g2 g3 g4 => decide_eq_true (show pointOkP (256 * u) (256 * v) from ⟨⟨by omega, by omega⟩, by omega, by omega⟩)
      have e1 := hk a b (by omega) (by omega) (by omega) (by omega)
      have e2 := hk c b (by omega) (by omega) (by omega) (by omega)
      have e3 := hk c d (by omega) (by omega) (by omega) (by omega)
      have e4 := hk a d (by omega) (by omega) (by omega) (by omega)
      simp [pathB, pointsB, e1, e2, e3, e4]
      first | rfl | simp [verbsB, needB, endB]
    · have h := mask_rect (x := a) (y := b) true ha hb ⟨h1, hc.2⟩ ⟨h2, hd.2⟩ (by omega) (by omega)
      rw [if_pos (by omega)] at h
      exact h
  · refine ⟨[], [], [], ?_, flat_none, fun x y hx hy => ?_, fun h1 h2 => absurd ⟨h1, h2⟩ hne⟩
    · have e0 : decide (256 * a ≥ 256 * c ∨ 256 * b ≥ 256 * d) = true := decide_eq_true (by omega)
      simp only [spec_RectPath.f, empty_v, e0, Option.bind_some, if_true]
    · rw [if_neg (by omega)]
      exact mask_none x y hx hy
theorem far_zero (P : List S32) (px py : Int) (h : ∀ v ∈ P, v.f0 ≤ px) : windV P px py = 0 := by
  unfold windV
  split
  · refine windFrom_zero P px py (fun i j hi hj => edgeV_right ?_ ?_) P.length 0 (by omega)
    · rw [ptAt_get _ _ hi]
      exact h _ (List.getElem_mem hi)
    · rw [ptAt_get _ _ hj]
      exact h _ (List.getElem_mem hj)
  · rfl
theorem low_zero (P : List S32) (px py : Int) (h : ∀ v ∈ P, py < v.f1) : windV P px py = 0 := by
  unfold windV
  split
  · refine windFrom_zero P px py (fun i j hi hj => edgeV_low ?_ ?_) P.length 0 (by omega)
    · rw [ptAt_get _ _ hi]
      exact h _ (List.getElem_mem hi)
    · rw [ptAt_get _ _ hj]
      exact h _ (List.getElem_mem hj)
  · rfl
theorem end_v (l : List Int) (hn : l.length ≤ 1048576) : Ev (fun k => laws_FnCovers.j2 k l false) true := by
  obtain ⟨P, k1, hlen, hin⟩ := drawPts l hn
  obtain ⟨D, k2, hd, hD⟩ := DrawPlaces_v l hn
  obtain ⟨p, q, r, s, k3, hb, hj⟩ := box_l P (by omega) hin P.length 0 0 0 0 0 (by omega) (.inl ⟨rfl, rfl, rfl, rfl, rfl⟩) (by omega) (by omega)
  have hb' := hb (by omega)
  have hmem : ∀ v ∈ P, p ≤ v.f0 ∧ v.f0 < r ∧ q ≤ v.f1 ∧ v.f1 < s := by
    intro v hv
    obtain ⟨j, h1, rfl⟩ := List.getElem_of_mem hv
    exact hj j h1
  have g0 := hmem _ (List.getElem_mem (show 0 < P.length by omega))
  have i0 := hin _ (List.getElem_mem (show 0 < P.length by omega))
  unfold ptIn at i0
  have hrd : ∀ i : Nat, i < 12 → 0 ≤ rd D (i : Int) := by
    intro i hi
    have h : rd D (i : Int) = D[i]'(by omega) := rd_int D i (by omega)
    rw [h]
    exact hD _ (List.getElem_mem (by omega))
  have m0 : 0 ≤ Int.tmod (rd D 0) 50 ∧ Int.tmod (rd D 0) 50 < 50 := ⟨Int.tmod_nonneg _ (hrd 0 (by omega)), Int.tmod_lt_of_pos _ (by omega)⟩
  have m1 : 0 ≤ Int.tmod (rd D 1) 50 ∧ Int.tmod (rd D 1) 50 < 50 := ⟨Int.tmod_nonneg _ (hrd 1 (by omega)), Int.tmod_lt_of_pos _ (by omega)⟩
  have z1 := far_zero P (wrap64 (r + (Int.tmod (rd D 0) 50))) (wrap64 ((rd D 1) - 5000)) (fun v hv => by
    have := hmem v hv
    rw [w64 (by omega) (by omega)]
    omega)
  have z2 := low_zero P (wrap64 ((rd D 0) - 5000)) (wrap64 ((wrap64 (q - 1)) - (Int.tmod (rd D 1) 50))) (fun v hv => by
    have := hmem v hv
    rw [w64 (x := q - 1) (by omega) (by omega), w64 (by omega) (by omega)]
    omega)
  have hm : ∀ x ∈ [P], x.length ≤ 1048576 := by
    intro x hx
    obtain rfl := List.mem_singleton.mp hx
    omega
  have c1 := impl_Covers_v [P] false (wrap64 (r + (Int.tmod (rd D 0) 50))) (wrap64 ((rd D 1) - 5000)) (by simp) hm
  have c2 := impl_Covers_v [P] true (wrap64 ((rd D 0) - 5000)) (wrap64 ((wrap64 (q - 1)) - (Int.tmod (rd D 1) 50))) (by simp) hm
  have c3 := impl_WindOf_v P (wrap64 (r + (Int.tmod (rd D 0) 50))) (wrap64 ((rd D 1) - 5000)) (by omega)
  rw [cov_f, z1] at c1
  rw [cov_t, z2] at c2
  rw [z1] at c3
  refine Ev.step (fun k => rfl) ?_
  simp only [laws_FnCovers.j2, Bool.false_eq_true, if_false]
  refine Ev.bind k1 (Ev.bind k3 (Ev.bind k2 ?_))
  simp only [if_pos (show (0 : Int) < (D.length : Int) by omega), if_pos (show (1 : Int) < (D.length : Int) by omega)]
  refine Ev.bind c1 ?_
  simp only [show ((0 : Int) != 0) = false by decide, Bool.false_eq_true, if_false]
  refine Ev.bind c2 ?_
  simp only [show ((Int.tmod 0 2) != 0) = false by decide, Bool.false_eq_true, if_false]
  refine Ev.bind c3 ?_
  exact Ev.now _
theorem one_v (l : List Int) (hn : l.length ≤ 1048576) {x y : Int} (hx : 0 ≤ x ∧ x ≤ 17) (hy : 0 ≤ y ∧ y ≤ 17) : Ev (fun k => laws_FnCovers.j1 k l false x y) true := by
  have e1 : wrap64 (256 * x) = 256 * x := w64 (by omega) (by omega)
  have e2 : wrap64 (256 * y) = 256 * y := w64 (by omega) (by omega)
  have e3 : wrap64 (256 * x + 128) = 256 * x + 128 := w64 (by omega) (by omega)
  have e4 : wrap64 (256 * y + 256) = 256 * y + 256 := w64 (by omega) (by omega)
  have e5 : wrap64 (256 * x + 1) = 256 * x + 1 := w64 (by omega) (by omega)
  have hw : ∀ px py : Int, smallP px → smallP py → windV [⟨256 * x, 256 * y⟩, ⟨256 * x + 128, 256 * y⟩, ⟨256 * x + 128, 256 * y + 256⟩, ⟨256 * x, 256 * y + 256⟩] px py = inB (256 * x) (256 * y) (256 * x + 128) (256 * y + 256) px py := fun px py h1 h2 => rect4_wind (by omega) (by omega) (by unfold smallP; omega) (by unfold smallP; omega) (by unfold smallP; omega) (by unfold smallP; omega) h1 h2
  generalize hQ : ([⟨256 * x, 256 * y⟩, ⟨256 * x + 128, 256 * y⟩, ⟨256 * x + 128, 256 * y + 256⟩, ⟨256 * x, 256 * y + 256⟩] : List S32) = Q at hw
  have hql : Q.length = 4 := by rw [← hQ]; rfl
  have hm : ∀ z ∈ [Q], z.length ≤ 1048576 := by
    intro z hz
    obtain rfl := List.mem_singleton.mp hz
    omega
  have h := mask_val [Q] false (by simp) hm x y (by omega) (by omega)
  rw [cov_f, cov_f, cov_f, cov_f, hw _ _ (by unfold smallP; omega) (by unfold smallP; omega), hw _ _ (by unfold smallP; omega) (by unfold smallP; omega), hw _ _ (by unfold smallP; omega) (by unfold smallP; omega), hw _ _ (by unfold smallP; omega) (by unfold smallP; omega)] at h
  unfold inB at h
  rw [if_pos (by omega), if_neg (by omega), if_pos (by omega), if_neg (by omega)] at h
  have c1 := impl_Covers_v [Q] false (256 * x + 1) (256 * y) (by simp) hm
  rw [cov_f, hw _ _ (by unfold smallP; omega) (by unfold smallP; omega)] at c1
  unfold inB at c1
  rw [if_pos (by omega)] at c1
  refine Ev.step (fun k => rfl) ?_
  simp only [laws_FnCovers.j1, Bool.false_eq_true, if_false, e1, e2, e3, e4, e5, hQ, Option.bind_some]
  refine Ev.bind h ?_
  simp only [show maskN ((1 : Int) != 0) ((0 : Int) != 0) ((1 : Int) != 0) ((0 : Int) != 0) = 5 by decide +kernel, if_true]
  refine Ev.bind c1 ?_
  exact end_v l hn
theorem FnCovers : laws_FnCovers.Pure := by
  intro l hl _ _
  refine Ev.rounds ?_
  unfold laws_FnCovers.f laws_big.f
  simp only [Option.bind_some, decide_eq_true_eq]
  by_cases hbig : (l.length : Int) > 1048576
  · simp only [if_pos hbig]
    exact Ev.now true
  simp only [if_neg hbig]
  obtain ⟨a, b, c, d, a', b', c', d', x, y, k1, ha, hb, hc, hd, hx, hy⟩ := DrawBoxes_v l (by omega)
  obtain ⟨vs, ps, fl, k2, k3, k4, k5⟩ := unit_mask ha hb hc hd
  have hone := one_v l (by omega) hx hy
  have hin : spec_InBox.f a b c d x y = some (decide (a ≤ x ∧ x < c ∧ b ≤ y ∧ y < d)) := by
    unfold spec_InBox.f
    repeat' split
    all_goals first | (refine congrArg some (decide_eq_decide.mpr ?_); omega) | (refine congrArg some (Eq.symm (decide_eq_false ?_)); omega)
  have hj0 : Ev (fun k => laws_FnCovers.j0 k l false a b c d x y (wrap64 (256 * a)) (wrap64 (256 * b)) (wrap64 (256 * c)) (wrap64 (256 * d))) true := by
    refine Ev.step (fun k => rfl) ?_
    simp only [laws_FnCovers.j0, Bool.false_eq_true, if_false, empty_v, Option.bind_some]
    by_cases he : a ≥ c ∨ b ≥ d
    · simp only [decide_eq_true he, if_true]
      exact hone
    · simp only [decide_eq_false he, Bool.false_eq_true, if_false, k2, Option.bind_some]
      refine Ev.bind k3 (Ev.bind (k5 (by omega) (by omega)) ?_)
      exact hone
  refine Ev.bind k1 ?_
  simp only [k2, Option.bind_some]
  refine Ev.bind k3 (Ev.bind (k4 x y hx hy) ?_)
  simp only [hin, Option.bind_some]
  by_cases hq : a ≤ x ∧ x < c ∧ b ≤ y ∧ y < d
  · simp only [decide_eq_true hq, if_pos hq, show ((true != ((15 : Int) == 15)) = true) = False by decide, if_false, if_true]
    exact hj0
  · simp only [decide_eq_false hq, if_neg hq, show ((false != ((0 : Int) == 15)) = true) = False by decide, if_false, Bool.false_eq_true, show ((0 : Int) != 0) = false by decide]
    exact hj0

end Go.Proofs.Ytgdlbilpfmjeaaa.Pure
