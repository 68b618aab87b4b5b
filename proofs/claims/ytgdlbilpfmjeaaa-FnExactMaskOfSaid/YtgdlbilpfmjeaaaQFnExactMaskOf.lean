/- The pure statement of the law FnExactMaskOf, for every input: what the printed functions compute makes the law answer true. No conditions beyond what the row reads. -/
import Derived.Test.YtgdlbilpfmjeaaaTFnExactMaskOf
namespace Go.Proofs.Ytgdlbilpfmjeaaa.QFnExactMaskOf
open Go.RowKit Go.Proofs.Ytgdlbilpfmjeaaa.MFnExactMaskOf Go.Proofs.Ytgdlbilpfmjeaaa.TFnExactMaskOf Go.Proofs.YtgdlbilpfmjeaaaW.PrintWords Go.Proofs.YtgdlbilpfmjeaaaW.PrintLast
set_option linter.unusedVariables false
set_option linter.unusedSimpArgs false

/-! base -/
theorem w64 {x : Int} (h1 : -9223372036854775808 ≤ x) (h2 : x ≤ 9223372036854775807) : wrap64 x = x := by
  unfold wrap64
  omega

theorem wf64 {x : Int} (h : (Lit.int .i64 x).wf = true) : -9223372036854775808 ≤ x ∧ x ≤ 9223372036854775807 := by
  have h2 : (decide (IntKind.i64.min ≤ x) && decide (x ≤ IntKind.i64.max)) = true := h
  rw [Bool.and_eq_true, decide_eq_true_eq, decide_eq_true_eq] at h2
  exact ⟨h2.1, h2.2⟩

theorem take_set_succ {α : Type} (xs : List α) (i : Nat) (v : α) (h : i < xs.length) : (xs.set i v).take (i + 1) = xs.take i ++ [v] := by
  rw [List.take_succ_eq_append_getElem (by simpa using h), List.take_set_of_le (Nat.le_refl i), List.getElem_set_self]

theorem step64 {i n : Nat} (h : i < n) (hn : n ≤ 4611686018427387904) : wrap64 ((i : Int) + 1) = ((i + 1 : Nat) : Int) := by
  rw [w64 (by omega) (by omega)]
  omega

theorem ev_done {α : Type} {g : Nat → Option α} {r : α} (h : ∀ k, g (k + 1) = some r) : Ev g r := Ev.step (f := fun _ => some r) h (Ev.now r)

theorem ev_const {α : Type} {o : Option α} {r : α} (h : o = some r) : Ev (fun _ => o) r := by
  subst h
  exact Ev.now r

/-! rd_impl_PointSS -/
theorem rd_impl_PointSS (xs : List (List S32)) (i : Nat) (h : i < xs.length) : rd_L4 xs (i : Int) = xs[i] := by
  unfold rd_L4
  simp [h]

/-! rd_impl_Point -/
theorem rd_impl_Point (xs : List S32) (i : Nat) (h : i < xs.length) : rd_T32 xs (i : Int) = xs[i] := by
  unfold rd_T32
  simp [h]

/-! rd_int -/
theorem rd_int (xs : List Int) (i : Nat) (h : i < xs.length) : rd xs (i : Int) = xs[i] := by
  unfold rd
  simp [h]

/-! nearP -/
def nearP (a b : Int) : Prop := (-33554432 ≤ a ∧ a ≤ 33554432) ∧ (-33554432 ≤ b ∧ b ≤ 33554432)
instance (a b : Int) : Decidable (nearP a b) := by unfold nearP; infer_instance

/-! windV -/
def edgeV (ax ay bx by_ px py : Int) : Int :=
  if ay ≤ py ∧ py < by_ ∧ (bx - ax) * (py - ay) - (px - ax) * (by_ - ay) > 0 then 1
  else if by_ ≤ py ∧ py < ay ∧ (bx - ax) * (py - ay) - (px - ax) * (by_ - ay) < 0 then -1 else 0
theorem edgeV_bd (ax ay bx by_ px py : Int) : -1 ≤ edgeV ax ay bx by_ px py ∧ edgeV ax ay bx by_ px py ≤ 1 := by
  unfold edgeV
  split
  · omega
  · split <;> omega
def ptAt (l : List S32) (i : Nat) : S32 := l.getD i z32
def windFrom (l : List S32) (px py : Int) : Nat → Nat → Int
  | 0, _ => 0
  | d + 1, i => edgeV (ptAt l i).f0 (ptAt l i).f1 (ptAt l ((i + 1) % l.length)).f0 (ptAt l ((i + 1) % l.length)).f1 px py + windFrom l px py d (i + 1)
theorem windFrom_bd (l : List S32) (px py : Int) : ∀ (d i : Nat), -(d : Int) ≤ windFrom l px py d i ∧ windFrom l px py d i ≤ d
  | 0, _ => by simp [windFrom]
  | d + 1, i => by
    have h := windFrom_bd l px py d (i + 1)
    have e := edgeV_bd (ptAt l i).f0 (ptAt l i).f1 (ptAt l ((i + 1) % l.length)).f0 (ptAt l ((i + 1) % l.length)).f1 px py
    rw [windFrom]
    omega
def allNear (l : List S32) : Prop := ∀ i, i < l.length → nearP (ptAt l i).f0 (ptAt l i).f1
instance (l : List S32) : Decidable (allNear l) := by unfold allNear; infer_instance
def windV (l : List S32) (px py : Int) : Int := if nearP px py ∧ allNear l then windFrom l px py l.length 0 else 0
theorem rd_ptAt (l : List S32) (i : Nat) : rd_T32 l (i : Int) = ptAt l i := rfl
theorem mul_bd {x y : Int} (hx : -67108864 ≤ x) (hx2 : x ≤ 67108864) (hy : -67108864 ≤ y) (hy2 : y ≤ 67108864) : -4503599627370496 ≤ x * y ∧ x * y ≤ 4503599627370496 := by
  have h1 : 0 ≤ (67108864 - x) * (67108864 + y) := Int.mul_nonneg (by omega) (by omega)
  have h2 : 0 ≤ (67108864 + x) * (67108864 - y) := Int.mul_nonneg (by omega) (by omega)
  have h3 : 0 ≤ (67108864 - x) * (67108864 - y) := Int.mul_nonneg (by omega) (by omega)
  have h4 : 0 ≤ (67108864 + x) * (67108864 + y) := Int.mul_nonneg (by omega) (by omega)
  simp only [Int.sub_mul, Int.mul_sub, Int.add_mul, Int.mul_add] at h1 h2 h3 h4
  omega
/-- What both compute as the side of an edge, without wraps. -/
theorem sideW {ax ay bx by_ px py : Int} (ha : nearP ax ay) (hb : nearP bx by_) (hp : nearP px py) :
    wrap64 ((wrap64 ((wrap64 (bx - ax)) * (wrap64 (py - ay)))) - (wrap64 ((wrap64 (px - ax)) * (wrap64 (by_ - ay))))) = (bx - ax) * (py - ay) - (px - ax) * (by_ - ay) := by
  obtain ⟨⟨a1, a2⟩, a3, a4⟩ := ha
  obtain ⟨⟨b1, b2⟩, b3, b4⟩ := hb
  obtain ⟨⟨p1, p2⟩, p3, p4⟩ := hp
  have m1 := mul_bd (x := bx - ax) (y := py - ay) (by omega) (by omega) (by omega) (by omega)
  have m2 := mul_bd (x := px - ax) (y := by_ - ay) (by omega) (by omega) (by omega) (by omega)
  rw [w64 (x := bx - ax) (by omega) (by omega), w64 (x := py - ay) (by omega) (by omega), w64 (x := px - ax) (by omega) (by omega), w64 (x := by_ - ay) (by omega) (by omega)]
  rw [w64 (x := (bx - ax) * (py - ay)) (by omega) (by omega), w64 (x := (px - ax) * (by_ - ay)) (by omega) (by omega), w64 (by omega) (by omega)]
/-- The next place, around the list. -/
theorem nextW {i n : Nat} (h : i < n) (hn : n ≤ 4611686018427387904) : Int.tmod (wrap64 ((i : Int) + 1)) (n : Int) = (((i + 1) % n : Nat) : Int) := by
  rw [step64 h hn, Int.tmod_eq_emod_of_nonneg (by omega)]
  omega
theorem cnt_up {n i d e s : Int} (hn : -i ≤ n) (hn2 : n ≤ i) (hi : 0 ≤ i) (hi2 : i ≤ 1048576) : wrap64 (n + 1) = n + 1 ∧ wrap64 (n - 1) = n - 1 ∧ wrap64 (n + 1 - 1) = n := ⟨w64 (by omega) (by omega), w64 (by omega) (by omega), by rw [show n + 1 - 1 = n by omega]; exact w64 (by omega) (by omega)⟩
theorem not_allNear {x0 : List S32} (h : ¬ allNear x0) : ∃ j, 0 ≤ j ∧ j < x0.length ∧ ¬ nearP (ptAt x0 j).f0 (ptAt x0 j).f1 := by
  apply Classical.byContradiction
  intro hc
  apply h
  intro i hi
  apply Classical.byContradiction
  intro hn
  exact hc ⟨i, Nat.zero_le _, hi, hn⟩

/-! Covers_b -/
def windSum (px py : Int) : List (List S32) → Int
  | [] => 0
  | x :: xs => windV x px py + windSum px py xs
theorem windV_bd (x : List S32) (px py : Int) (h : x.length ≤ 1048576) : -1048576 ≤ windV x px py ∧ windV x px py ≤ 1048576 := by
  unfold windV
  split
  · have := windFrom_bd x px py x.length 0
    omega
  · omega
theorem windSum_bd (px py : Int) : ∀ (l : List (List S32)), (∀ x ∈ l, x.length ≤ 1048576) → -(1048576 * (l.length : Int)) ≤ windSum px py l ∧ windSum px py l ≤ 1048576 * (l.length : Int)
  | [], _ => by simp [windSum]
  | x :: xs, h => by
    have h1 := windSum_bd px py xs (fun y hy => h y (List.mem_cons_of_mem _ hy))
    have h2 := windV_bd x px py (h x List.mem_cons_self)
    rw [windSum, List.length_cons]
    omega
def coversB (l : List (List S32)) (even : Bool) (px py : Int) : Bool := if even = true then (Int.tmod (windSum px py l) 2) != 0 else windSum px py l != 0

/-! impl_inRange -/
theorem impl_inRange_v (a b c : Int) : impl_inRange.f a b c = some (decide (b ≤ a ∧ a ≤ c)) := by
  unfold impl_inRange.f
  by_cases h : a ≥ b
  · rw [if_pos h]
    simp [h]
  · rw [if_neg h]
    simp
    omega

/-! impl_isNear -/
theorem impl_isNear_v (a b : Int) : impl_isNear.f a b = some (decide (nearP a b)) := by
  unfold impl_isNear.f nearP
  simp only [impl_inRange_v, Option.bind_some, decide_eq_true_eq]
  repeat' split
  all_goals first | (refine congrArg some (decide_eq_decide.mpr ?_); omega) | (refine congrArg some (Eq.symm (decide_eq_false ?_)); omega)

/-! impl_WindOf -/
theorem impl_WindOf_j2 {x0 : List S32} {n px py ax ay bx by_ r s : Int} {i m : Int} {c : Bool}
    (h : Ev (fun k => impl_WindOf.l1 k x0 (if c = true then wrap64 (n + 1) else (if by_ ≤ py ∧ py < ay ∧ s < 0 then wrap64 (n - 1) else n)) x0 m (wrap64 (i + 1)) px py) r) :
    Ev (fun k => impl_WindOf.j2 k x0 n s x0 m i c px py ax ay bx by_) r := by
  refine Ev.step (fun k => ?_) h
  simp only [impl_WindOf.j2]
  by_cases h1 : c = true <;> by_cases h2 : by_ ≤ py <;> by_cases h3 : py < ay <;> by_cases h4 : s < 0 <;> simp [h1, h2, h3, h4]
theorem impl_WindOf_l {x0 : List S32} {px py : Int} (hp : nearP px py) (hl : x0.length ≤ 1048576) (hN : allNear x0) : ∀ (d i : Nat) (n : Int), i + d = x0.length → -(i : Int) ≤ n → n ≤ i →
    Ev (fun k => impl_WindOf.l1 k x0 n x0 (x0.length : Int) (i : Int) px py) (n + windFrom x0 px py d i) := by
  intro d
  induction d with
  | zero =>
    intro i n hi h1 h2
    refine ev_done (fun k => ?_)
    simp only [impl_WindOf.l1]
    rw [if_neg (by omega)]
    simp [windFrom]
  | succ d ih =>
    intro i n hi h1 h2
    have hi2 : i < x0.length := by omega
    have hm : (i + 1) % x0.length < x0.length := Nat.mod_lt _ (by omega)
    have ha := hN i hi2
    have hb := hN _ hm
    rw [windFrom]
    generalize hA : ptAt x0 i = A at *
    generalize hB : ptAt x0 ((i + 1) % x0.length) = B at *
    obtain ⟨u1, u2, u3⟩ := cnt_up (d := 0) (e := 0) (s := 0) h1 h2 (by omega) (by omega)
    have e := edgeV_bd A.f0 A.f1 B.f0 B.f1 px py
    have h := ih (i + 1) (n + edgeV A.f0 A.f1 B.f0 B.f1 px py) (by omega) (by omega) (by omega)
    rw [Int.add_assoc] at h
    have key : ∀ c : Bool, (c = true ↔ A.f1 ≤ py ∧ py < B.f1 ∧ (B.f0 - A.f0) * (py - A.f1) - (px - A.f0) * (B.f1 - A.f1) > 0) →
        Ev (fun k => impl_WindOf.j2 k x0 n ((B.f0 - A.f0) * (py - A.f1) - (px - A.f0) * (B.f1 - A.f1)) x0 (x0.length : Int) (i : Int) c px py A.f0 A.f1 B.f0 B.f1) (n + (edgeV A.f0 A.f1 B.f0 B.f1 px py + windFrom x0 px py d (i + 1))) := by
      intro c hc
      refine impl_WindOf_j2 ?_
      rw [step64 hi2 (by omega)]
      have e : (if c = true then wrap64 (n + 1) else (if B.f1 ≤ py ∧ py < A.f1 ∧ (B.f0 - A.f0) * (py - A.f1) - (px - A.f0) * (B.f1 - A.f1) < 0 then wrap64 (n - 1) else n)) = n + edgeV A.f0 A.f1 B.f0 B.f1 px py := by
        rw [u1, u2]
        unfold edgeV
        by_cases q : c = true
        · rw [if_pos q, if_pos (hc.mp q)]
        · rw [if_neg q, if_neg (fun z => q (hc.mpr z))]
          split <;> omega
      rw [e]
      exact h
    by_cases c1 : A.f1 ≤ py
    · by_cases c2 : py < B.f1
      · refine Ev.step (fun k => ?_) (key (decide ((B.f0 - A.f0) * (py - A.f1) - (px - A.f0) * (B.f1 - A.f1) > 0)) (by simp [c1, c2]))
        simp only [impl_WindOf.l1]
        rw [if_pos (by omega), if_pos (by omega), if_pos (by omega), if_neg (by omega), nextW hi2 (by omega), if_pos (by omega), if_pos (by omega), rd_ptAt, rd_ptAt, hA, hB, if_pos c1, if_pos c2, sideW ha hb hp]
      · refine Ev.step (fun k => ?_) (key false (by simp [c2]))
        simp only [impl_WindOf.l1]
        rw [if_pos (by omega), if_pos (by omega), if_pos (by omega), if_neg (by omega), nextW hi2 (by omega), if_pos (by omega), if_pos (by omega), rd_ptAt, rd_ptAt, hA, hB, if_pos c1, if_neg c2, sideW ha hb hp]
    · refine Ev.step (fun k => ?_) (key false (by simp [c1]))
      simp only [impl_WindOf.l1]
      rw [if_pos (by omega), if_pos (by omega), if_pos (by omega), if_neg (by omega), nextW hi2 (by omega), if_pos (by omega), if_pos (by omega), rd_ptAt, rd_ptAt, hA, hB, if_neg c1, sideW ha hb hp]
theorem impl_WindOf_chk {x0 : List S32} {px py r : Int} (hl : x0.length ≤ 1048576) (hN : allNear x0) (h : Ev (fun k => impl_WindOf.l1 k x0 0 x0 (x0.length : Int) 0 px py) r) : ∀ (d i : Nat), i + d = x0.length →
    Ev (fun k => impl_WindOf.l0 k x0 x0 (x0.length : Int) (i : Int) px py) r := by
  intro d
  induction d with
  | zero =>
    intro i hi
    refine Ev.step (fun k => ?_) h
    simp only [impl_WindOf.l0]
    rw [if_neg (by omega)]
  | succ d ih =>
    intro i hi
    have hi2 : i < x0.length := by omega
    refine Ev.step (fun k => ?_) (ih (i + 1) (by omega))
    simp only [impl_WindOf.l0]
    rw [if_pos (by omega), if_pos (by omega), if_pos (by omega), rd_ptAt, impl_isNear_v, Option.bind_some, if_pos (decide_eq_true (hN i hi2)), step64 hi2 (by omega)]
theorem impl_WindOf_bad {x0 : List S32} {px py : Int} (hl : x0.length ≤ 1048576) : ∀ (d i : Nat), i + d = x0.length → (∃ j, i ≤ j ∧ j < x0.length ∧ ¬ nearP (ptAt x0 j).f0 (ptAt x0 j).f1) →
    Ev (fun k => impl_WindOf.l0 k x0 x0 (x0.length : Int) (i : Int) px py) 0 := by
  intro d
  induction d with
  | zero =>
    intro i hi hj
    obtain ⟨j, hj⟩ := hj
    omega
  | succ d ih =>
    intro i hi hj
    have hi2 : i < x0.length := by omega
    by_cases ha : nearP (ptAt x0 i).f0 (ptAt x0 i).f1
    · refine Ev.step (fun k => ?_) (ih (i + 1) (by omega) (by
          obtain ⟨j, j1, j2, j3⟩ := hj
          refine ⟨j, ?_, j2, j3⟩
          rcases Nat.lt_or_ge i j with q | q
          · omega
          · obtain rfl : i = j := by omega
            exact absurd ha j3))
      simp only [impl_WindOf.l0]
      rw [if_pos (by omega), if_pos (by omega), if_pos (by omega), rd_ptAt, impl_isNear_v, Option.bind_some, if_pos (decide_eq_true ha), step64 hi2 (by omega)]
    · refine ev_done (fun k => ?_)
      simp only [impl_WindOf.l0]
      rw [if_pos (by omega), if_pos (by omega), if_pos (by omega), rd_ptAt, impl_isNear_v, Option.bind_some, if_neg (by simpa using ha)]
theorem impl_WindOf_v (x0 : List S32) (px py : Int) (hl : x0.length ≤ 1048576) : Ev (fun k => impl_WindOf.f k x0 px py) (windV x0 px py) := by
  unfold windV
  by_cases hp : nearP px py
  · have e : ∀ k, impl_WindOf.f k x0 px py = impl_WindOf.l0 k x0 x0 (x0.length : Int) ((0 : Nat) : Int) px py := fun k => by
      unfold impl_WindOf.f
      rw [impl_isNear_v, Option.bind_some, if_pos (decide_eq_true hp)]
      rfl
    by_cases hN : allNear x0
    · rw [if_pos ⟨hp, hN⟩]
      have h := impl_WindOf_l hp hl hN x0.length 0 0 (by omega) (by omega) (by omega)
      rw [Int.zero_add] at h
      exact Ev.congr e (impl_WindOf_chk hl hN h x0.length 0 (by omega))
    · rw [if_neg (fun z => hN z.2)]
      exact Ev.congr e (impl_WindOf_bad hl x0.length 0 (by omega) (not_allNear hN))
  · rw [if_neg (fun z => hp z.1)]
    refine Ev.congr (fun k => ?_) (Ev.now 0)
    unfold impl_WindOf.f
    rw [impl_isNear_v, Option.bind_some, if_neg (by simpa using hp)]

/-! Covers_i -/
theorem impl_Covers_l (x0 : List (List S32)) (even : Bool) (px py : Int) (hn : x0.length ≤ 1048576) (hm : ∀ x ∈ x0, x.length ≤ 1048576) : ∀ (d i : Nat) (n : Int), i + d = x0.length → -(1048576 * (i : Int)) ≤ n → n ≤ 1048576 * (i : Int) →
    Ev (fun k => impl_Covers.l0 k even n x0 (x0.length : Int) (i : Int) px py) (if even = true then (Int.tmod (n + windSum px py (x0.drop i)) 2) != 0 else (n + windSum px py (x0.drop i)) != 0) := by
  intro d
  induction d with
  | zero =>
    intro i n hi h1 h2
    refine ev_done (fun k => ?_)
    simp only [impl_Covers.l0]
    rw [if_neg (by omega), List.drop_of_length_le (by omega), windSum, Int.add_zero]
    split <;> rfl
  | succ d ih =>
    intro i n hi h1 h2
    have hi2 : i < x0.length := by omega
    have hb := windV_bd x0[i] px py (hm _ (List.getElem_mem hi2))
    rw [List.drop_eq_getElem_cons hi2, windSum]
    have q := ih (i + 1) (n + windV x0[i] px py) (by omega) (by omega) (by omega)
    rw [Int.add_assoc] at q
    refine Ev.step (f := fun k => (impl_WindOf.f k x0[i] px py).bind fun t => impl_Covers.l0 k even (wrap64 (n + t)) x0 (x0.length : Int) ((i + 1 : Nat) : Int) px py) (fun k => ?_) (Ev.bind (impl_WindOf_v _ px py (hm _ (List.getElem_mem hi2))) ?_)
    · simp only [impl_Covers.l0]
      rw [if_pos (by omega), if_pos (by omega), if_pos (by omega), step64 hi2 (by omega), rd_impl_PointSS _ _ hi2]
    · simp only [w64 (x := n + windV x0[i] px py) (by omega) (by omega)]
      exact q
theorem impl_Covers_v (x0 : List (List S32)) (even : Bool) (px py : Int) (hn : x0.length ≤ 1048576) (hm : ∀ x ∈ x0, x.length ≤ 1048576) : Ev (fun k => impl_Covers.f k x0 even px py) (coversB x0 even px py) := by
  have q := impl_Covers_l x0 even px py hn hm x0.length 0 0 (by omega) (by omega) (by omega)
  rw [Int.zero_add] at q
  exact q

/-! spec_l01In -/
theorem spec_l01In_v (a b c : Int) : spec_l01In.f a b c = some (decide (b ≤ a ∧ a ≤ c)) := by
  unfold spec_l01In.f
  by_cases h : a ≥ b
  · rw [if_pos h]
    simp [h]
  · rw [if_neg h]
    simp
    omega

/-! spec_l10Near -/
theorem spec_l10Near_v (a b : Int) : spec_l10Near.f a b = some (decide (nearP a b)) := by
  unfold spec_l10Near.f nearP
  simp only [spec_l01In_v, Option.bind_some, decide_eq_true_eq]
  repeat' split
  all_goals first | (refine congrArg some (decide_eq_decide.mpr ?_); omega) | (refine congrArg some (Eq.symm (decide_eq_false ?_)); omega)

/-! spec_WindOf -/
theorem spec_WindOf_j2 {x0 : List S32} {n i s px py ax ay bx by_ r : Int} {c : Bool}
    (h : Ev (fun k => spec_WindOf.l0 k x0 (if c = true then (if by_ ≤ py ∧ py < ay ∧ s < 0 then wrap64 (wrap64 (n + 1) - 1) else wrap64 (n + 1)) else (if by_ ≤ py ∧ py < ay ∧ s < 0 then wrap64 (n - 1) else n)) (wrap64 (i + 1)) px py) r) :
    Ev (fun k => spec_WindOf.j2 k x0 n i s c px py ax ay bx by_) r := by
  refine Ev.step (fun k => ?_) h
  simp only [spec_WindOf.j2]
  by_cases h1 : c = true <;> by_cases h2 : by_ ≤ py <;> by_cases h3 : py < ay <;> by_cases h4 : s < 0 <;> simp [h1, h2, h3, h4]
theorem spec_WindOf_j1 {x0 : List S32} {n px py ax ay bx by_ r : Int} {i : Nat} (ha : nearP ax ay) (hb : nearP bx by_) (hp : nearP px py) (hn : -(i : Int) ≤ n) (hn2 : n ≤ i) (hi : i < x0.length) (hl : x0.length ≤ 1048576)
    (h : Ev (fun k => spec_WindOf.l0 k x0 (n + edgeV ax ay bx by_ px py) ((i + 1 : Nat) : Int) px py) r) :
    Ev (fun k => spec_WindOf.j1 k x0 n (i : Int) false px py ax ay bx by_) r := by
  obtain ⟨u1, u2, u3⟩ := cnt_up (d := 0) (e := 0) (s := 0) hn hn2 (by omega) (by omega)
  have key : ∀ c : Bool, (c = true ↔ ay ≤ py ∧ py < by_ ∧ (bx - ax) * (py - ay) - (px - ax) * (by_ - ay) > 0) →
      Ev (fun k => spec_WindOf.j2 k x0 n (i : Int) ((bx - ax) * (py - ay) - (px - ax) * (by_ - ay)) c px py ax ay bx by_) r := by
    intro c hc
    refine spec_WindOf_j2 ?_
    rw [step64 hi (by omega)]
    have e : (if c = true then (if by_ ≤ py ∧ py < ay ∧ (bx - ax) * (py - ay) - (px - ax) * (by_ - ay) < 0 then wrap64 (wrap64 (n + 1) - 1) else wrap64 (n + 1)) else (if by_ ≤ py ∧ py < ay ∧ (bx - ax) * (py - ay) - (px - ax) * (by_ - ay) < 0 then wrap64 (n - 1) else n)) = n + edgeV ax ay bx by_ px py := by
      rw [u1, u2, u3]
      unfold edgeV
      by_cases q : c = true
      · rw [if_pos q, if_pos (hc.mp q), if_neg (by have := hc.mp q; omega)]
      · rw [if_neg q, if_neg (fun z => q (hc.mpr z))]
        split <;> omega
    rw [e]
    exact h
  by_cases h1 : ay ≤ py
  · by_cases h2 : py < by_
    · refine Ev.step (fun k => ?_) (key (decide ((bx - ax) * (py - ay) - (px - ax) * (by_ - ay) > 0)) (by simp [h1, h2]))
      simp only [spec_WindOf.j1]
      rw [if_neg (by decide), if_pos h1, if_pos h2, sideW ha hb hp]
    · refine Ev.step (fun k => ?_) (key false (by simp [h2]))
      simp only [spec_WindOf.j1]
      rw [if_neg (by decide), if_pos h1, if_neg h2, sideW ha hb hp]
  · refine Ev.step (fun k => ?_) (key false (by simp [h1]))
    simp only [spec_WindOf.j1]
    rw [if_neg (by decide), if_neg h1, sideW ha hb hp]
theorem spec_WindOf_l {x0 : List S32} {px py : Int} (hp : nearP px py) (hl : x0.length ≤ 1048576) (hN : allNear x0) : ∀ (d i : Nat) (n : Int), i + d = x0.length → -(i : Int) ≤ n → n ≤ i →
    Ev (fun k => spec_WindOf.l0 k x0 n (i : Int) px py) (n + windFrom x0 px py d i) := by
  intro d
  induction d with
  | zero =>
    intro i n hi h1 h2
    refine ev_done (fun k => ?_)
    simp only [spec_WindOf.l0]
    rw [if_neg (by omega)]
    simp [windFrom]
  | succ d ih =>
    intro i n hi h1 h2
    have hi2 : i < x0.length := by omega
    have hm : (i + 1) % x0.length < x0.length := Nat.mod_lt _ (by omega)
    have ha := hN i hi2
    have hb := hN _ hm
    have e := edgeV_bd (ptAt x0 i).f0 (ptAt x0 i).f1 (ptAt x0 ((i + 1) % x0.length)).f0 (ptAt x0 ((i + 1) % x0.length)).f1 px py
    have h := ih (i + 1) (n + edgeV (ptAt x0 i).f0 (ptAt x0 i).f1 (ptAt x0 ((i + 1) % x0.length)).f0 (ptAt x0 ((i + 1) % x0.length)).f1 px py) (by omega) (by omega) (by omega)
    rw [Int.add_assoc] at h
    refine Ev.step (fun k => ?_) (spec_WindOf_j1 ha hb hp h1 h2 hi2 hl h)
    simp only [spec_WindOf.l0]
    rw [if_pos (by omega), if_pos (by omega), if_neg (by omega), nextW hi2 (by omega), if_pos (by omega), if_pos (by omega), rd_ptAt, rd_ptAt]
    simp only [spec_l10Near_v, Option.bind_some]
    rw [if_pos (decide_eq_true ha), decide_eq_true hb]
    rfl
theorem spec_WindOf_bad {x0 : List S32} {px py : Int} (hp : nearP px py) (hl : x0.length ≤ 1048576) : ∀ (d i : Nat) (n : Int), i + d = x0.length → -(i : Int) ≤ n → n ≤ i → (∃ j, i ≤ j ∧ j < x0.length ∧ ¬ nearP (ptAt x0 j).f0 (ptAt x0 j).f1) →
    Ev (fun k => spec_WindOf.l0 k x0 n (i : Int) px py) 0 := by
  intro d
  induction d with
  | zero =>
    intro i n hi h1 h2 hj
    obtain ⟨j, hj⟩ := hj
    omega
  | succ d ih =>
    intro i n hi h1 h2 hj
    have hi2 : i < x0.length := by omega
    by_cases ha : nearP (ptAt x0 i).f0 (ptAt x0 i).f1
    · by_cases hb : nearP (ptAt x0 ((i + 1) % x0.length)).f0 (ptAt x0 ((i + 1) % x0.length)).f1
      · have e := edgeV_bd (ptAt x0 i).f0 (ptAt x0 i).f1 (ptAt x0 ((i + 1) % x0.length)).f0 (ptAt x0 ((i + 1) % x0.length)).f1 px py
        have h := ih (i + 1) (n + edgeV (ptAt x0 i).f0 (ptAt x0 i).f1 (ptAt x0 ((i + 1) % x0.length)).f0 (ptAt x0 ((i + 1) % x0.length)).f1 px py) (by omega) (by omega) (by omega) (by
          obtain ⟨j, j1, j2, j3⟩ := hj
          refine ⟨j, ?_, j2, j3⟩
          rcases Nat.lt_or_ge i j with q | q
          · omega
          · obtain rfl : i = j := by omega
            exact absurd ha j3)
        refine Ev.step (fun k => ?_) (spec_WindOf_j1 ha hb hp h1 h2 hi2 hl h)
        simp only [spec_WindOf.l0]
        rw [if_pos (by omega), if_pos (by omega), if_neg (by omega), nextW hi2 (by omega), if_pos (by omega), if_pos (by have := Nat.mod_lt (i + 1) (y := x0.length) (by omega); omega), rd_ptAt, rd_ptAt]
        simp only [spec_l10Near_v, Option.bind_some]
        rw [if_pos (decide_eq_true ha), decide_eq_true hb]
        rfl
      · refine Ev.step (f := fun k => spec_WindOf.j1 k x0 n (i : Int) true px py (ptAt x0 i).f0 (ptAt x0 i).f1 (ptAt x0 ((i + 1) % x0.length)).f0 (ptAt x0 ((i + 1) % x0.length)).f1) (fun k => ?_) (ev_done (fun k => by simp only [spec_WindOf.j1, if_true]))
        simp only [spec_WindOf.l0]
        rw [if_pos (by omega), if_pos (by omega), if_neg (by omega), nextW hi2 (by omega), if_pos (by omega), if_pos (by have := Nat.mod_lt (i + 1) (y := x0.length) (by omega); omega), rd_ptAt, rd_ptAt]
        simp only [spec_l10Near_v, Option.bind_some]
        rw [if_pos (decide_eq_true ha), decide_eq_false hb]
        rfl
    · refine Ev.step (f := fun k => spec_WindOf.j1 k x0 n (i : Int) true px py (ptAt x0 i).f0 (ptAt x0 i).f1 (ptAt x0 ((i + 1) % x0.length)).f0 (ptAt x0 ((i + 1) % x0.length)).f1) (fun k => ?_) (ev_done (fun k => by simp only [spec_WindOf.j1, if_true]))
      simp only [spec_WindOf.l0]
      rw [if_pos (by omega), if_pos (by omega), if_neg (by omega), nextW hi2 (by omega), if_pos (by omega), if_pos (by have := Nat.mod_lt (i + 1) (y := x0.length) (by omega); omega), rd_ptAt, rd_ptAt]
      simp only [spec_l10Near_v, Option.bind_some]
      rw [if_neg (by simpa using ha)]
theorem spec_WindOf_v (x0 : List S32) (px py : Int) (hl : x0.length ≤ 1048576) : Ev (fun k => spec_WindOf.f k x0 px py) (windV x0 px py) := by
  unfold windV
  by_cases hp : nearP px py
  · have e : ∀ k, spec_WindOf.f k x0 px py = spec_WindOf.l0 k x0 0 ((0 : Nat) : Int) px py := fun k => by
      unfold spec_WindOf.f
      rw [spec_l10Near_v, Option.bind_some, if_pos (decide_eq_true hp)]
      rfl
    by_cases hN : allNear x0
    · rw [if_pos ⟨hp, hN⟩]
      have h := spec_WindOf_l hp hl hN x0.length 0 0 (by omega) (by omega) (by omega)
      rw [Int.zero_add] at h
      exact Ev.congr e h
    · rw [if_neg (fun z => hN z.2)]
      exact Ev.congr e (spec_WindOf_bad hp hl x0.length 0 0 (by omega) (by omega) (by omega) (not_allNear hN))
  · rw [if_neg (fun z => hp z.1)]
    refine Ev.congr (fun k => ?_) (Ev.now 0)
    unfold spec_WindOf.f
    rw [spec_l10Near_v, Option.bind_some, if_neg (by simpa using hp)]

/-! Covers_s -/
theorem spec_Covers_l (x0 : List (List S32)) (even : Bool) (px py : Int) (hn : x0.length ≤ 1048576) (hm : ∀ x ∈ x0, x.length ≤ 1048576) : ∀ (d i : Nat) (n : Int), i + d = x0.length → -(1048576 * (i : Int)) ≤ n → n ≤ 1048576 * (i : Int) →
    Ev (fun k => spec_Covers.l0 k x0 even n (i : Int) px py) (if even = true then (Int.tmod (n + windSum px py (x0.drop i)) 2) != 0 else (n + windSum px py (x0.drop i)) != 0) := by
  intro d
  induction d with
  | zero =>
    intro i n hi h1 h2
    refine ev_done (fun k => ?_)
    simp only [spec_Covers.l0]
    rw [if_neg (by omega), List.drop_of_length_le (by omega), windSum, Int.add_zero]
    split <;> rfl
  | succ d ih =>
    intro i n hi h1 h2
    have hi2 : i < x0.length := by omega
    have hb := windV_bd x0[i] px py (hm _ (List.getElem_mem hi2))
    rw [List.drop_eq_getElem_cons hi2, windSum]
    have q := ih (i + 1) (n + windV x0[i] px py) (by omega) (by omega) (by omega)
    rw [Int.add_assoc] at q
    refine Ev.step (f := fun k => (spec_WindOf.f k x0[i] px py).bind fun t => spec_Covers.l0 k x0 even (wrap64 (n + t)) ((i + 1 : Nat) : Int) px py) (fun k => ?_) (Ev.bind (spec_WindOf_v _ px py (hm _ (List.getElem_mem hi2))) ?_)
    · simp only [spec_Covers.l0]
      rw [if_pos (by omega), if_pos (by omega), step64 hi2 (by omega), rd_impl_PointSS _ _ hi2]
    · simp only [w64 (x := n + windV x0[i] px py) (by omega) (by omega)]
      exact q
theorem spec_Covers_v (x0 : List (List S32)) (even : Bool) (px py : Int) (hn : x0.length ≤ 1048576) (hm : ∀ x ∈ x0, x.length ≤ 1048576) : Ev (fun k => spec_Covers.f k x0 even px py) (coversB x0 even px py) := by
  have q := spec_Covers_l x0 even px py hn hm x0.length 0 0 (by omega) (by omega) (by omega)
  rw [Int.zero_add] at q
  exact q

/-! Covers -/

/-! MaskAt -/
section
variable (ls : List (List S32)) (e : Bool) (hn : ls.length ≤ 1048576) (hm : ∀ x ∈ ls, x.length ≤ 1048576)
include hn hm
theorem spec_mask_s (x y n i v px py : Int) (b : Bool) (h0 : 0 ≤ i) (h1 : i < 4) (hpx : wrap64 ((wrap64 ((wrap64 (256 * x)) + 64)) + (wrap64 (128 * (Int.tmod i 2)))) = px) (hpy : wrap64 ((wrap64 ((wrap64 (256 * y)) + 64)) + (wrap64 (128 * (wrap64 (Int.tdiv i 2))))) = py)
    (hv : rd [1, 2, 4, 8] i = v) (hb : coversB ls e px py = b) (hw : wrap64 (n + v) = n + v) {r : Int} (h : Ev (fun k => spec_MaskAt.l0 k ls e x y (if b = true then n + v else n) (i + 1)) r) : Ev (fun k => spec_MaskAt.l0 k ls e x y n i) r := by
  refine Ev.step (fun k => rfl) ?_
  simp only [spec_MaskAt.l0, if_pos h1, hpx, hpy]
  refine Ev.bind (spec_Covers_v ls e px py hn hm) ?_
  rw [hb]
  cases b with
  | true =>
    simp only [if_true, Option.bind_some, hv, hw, w64 (x := i + 1) (by omega) (by omega)]
    simp only [if_true] at h
    simp only [if_pos h0, if_pos (show i < (([1, 2, 4, 8] : List Int).length : Int) from h1)]
    exact h
  | false =>
    simp only [Bool.false_eq_true, if_false, w64 (x := i + 1) (by omega) (by omega)]
    simp only [Bool.false_eq_true, if_false] at h
    exact h
theorem impl_mask_s (n i v px py X0 Y0 X1 Y1 X2 Y2 X3 Y3 : Int) (b : Bool) (h0 : 0 ≤ i) (h1 : i < 4) (hpx : ix4 i X0 X1 X2 X3 = px) (hpy : ix4 i Y0 Y1 Y2 Y3 = py) (hu : IntKind.u64.wrap i = i)
    (hb : coversB ls e px py = b) (hor : b = true → Go.bits .or .i64 n (shl .i64 1 i) = n + v) {r : Int} (h : Ev (fun k => impl_MaskAt.l0 k ls e (if b = true then n + v else n) (i + 1) X0 Y0 X1 Y1 X2 Y2 X3 Y3) r) : Ev (fun k => impl_MaskAt.l0 k ls e n i X0 Y0 X1 Y1 X2 Y2 X3 Y3) r := by
  refine Ev.step (fun k => rfl) ?_
  simp only [impl_MaskAt.l0, if_pos h1, if_pos h0, hpx, hpy, hu]
  refine Ev.bind (impl_Covers_v ls e px py hn hm) ?_
  rw [hb]
  cases b with
  | true =>
    simp only [if_true, hor rfl, w64 (x := i + 1) (by omega) (by omega)]
    simp only [if_true] at h
    exact h
  | false =>
    simp only [Bool.false_eq_true, if_false, w64 (x := i + 1) (by omega) (by omega)]
    simp only [Bool.false_eq_true, if_false] at h
    exact h
theorem mask_both (x y : Int) (hx : -2000 ≤ x ∧ x ≤ 2000) (hy : -2000 ≤ y ∧ y ≤ 2000) : ∃ r : Int, 0 ≤ r ∧ r ≤ 15 ∧ Ev (fun k => spec_MaskAt.l0 k ls e x y 0 0) r ∧
    Ev (fun k => impl_MaskAt.l0 k ls e 0 0 (256 * x + 64) (256 * y + 64) (256 * x + 64 + 128) (256 * y + 64) (256 * x + 64) (256 * y + 64 + 128) (256 * x + 64 + 128) (256 * y + 64 + 128)) r := by
  have e1 : wrap64 (256 * x) = 256 * x := w64 (by omega) (by omega)
  have e2 : wrap64 (256 * x + 64) = 256 * x + 64 := w64 (by omega) (by omega)
  have e3 : wrap64 (256 * x + 64 + 128) = 256 * x + 64 + 128 := w64 (by omega) (by omega)
  have f1 : wrap64 (256 * y) = 256 * y := w64 (by omega) (by omega)
  have f2 : wrap64 (256 * y + 64) = 256 * y + 64 := w64 (by omega) (by omega)
  have f3 : wrap64 (256 * y + 64 + 128) = 256 * y + 64 + 128 := w64 (by omega) (by omega)
  have x0 : ∀ z : Int, wrap64 (128 * z) = 0 → wrap64 ((wrap64 ((wrap64 (256 * x)) + 64)) + (wrap64 (128 * z))) = 256 * x + 64 := fun z hz => by rw [hz, e1, e2, Int.add_zero, e2]
  have x1 : ∀ z : Int, wrap64 (128 * z) = 128 → wrap64 ((wrap64 ((wrap64 (256 * x)) + 64)) + (wrap64 (128 * z))) = 256 * x + 64 + 128 := fun z hz => by rw [hz, e1, e2, e3]
  have y0 : ∀ z : Int, wrap64 (128 * z) = 0 → wrap64 ((wrap64 ((wrap64 (256 * y)) + 64)) + (wrap64 (128 * z))) = 256 * y + 64 := fun z hz => by rw [hz, f1, f2, Int.add_zero, f2]
  have y1 : ∀ z : Int, wrap64 (128 * z) = 128 → wrap64 ((wrap64 ((wrap64 (256 * y)) + 64)) + (wrap64 (128 * z))) = 256 * y + 64 + 128 := fun z hz => by rw [hz, f1, f2, f3]
  obtain ⟨b0, h0⟩ : ∃ b, coversB ls e (256 * x + 64) (256 * y + 64) = b := ⟨_, rfl⟩
  obtain ⟨b1, h1⟩ : ∃ b, coversB ls e (256 * x + 64 + 128) (256 * y + 64) = b := ⟨_, rfl⟩
  obtain ⟨b2, h2⟩ : ∃ b, coversB ls e (256 * x + 64) (256 * y + 64 + 128) = b := ⟨_, rfl⟩
  obtain ⟨b3, h3⟩ : ∃ b, coversB ls e (256 * x + 64 + 128) (256 * y + 64 + 128) = b := ⟨_, rfl⟩
  have fin_s : ∀ n : Int, Ev (fun k => spec_MaskAt.l0 k ls e x y n (3 + 1)) n := fun n => ev_done (fun k => by simp only [spec_MaskAt.l0]; rw [if_neg (by omega)])
  have fin_i : ∀ n : Int, Ev (fun k => impl_MaskAt.l0 k ls e n (3 + 1) (256 * x + 64) (256 * y + 64) (256 * x + 64 + 128) (256 * y + 64) (256 * x + 64) (256 * y + 64 + 128) (256 * x + 64 + 128) (256 * y + 64 + 128)) n := fun n => ev_done (fun k => by simp only [impl_MaskAt.l0]; rw [if_neg (by omega)])
  refine ⟨if b3 = true then (if b2 = true then (if b1 = true then (if b0 = true then 0 + 1 else 0) + 2 else (if b0 = true then 0 + 1 else 0)) + 4 else (if b1 = true then (if b0 = true then 0 + 1 else 0) + 2 else (if b0 = true then 0 + 1 else 0))) + 8 else (if b2 = true then (if b1 = true then (if b0 = true then 0 + 1 else 0) + 2 else (if b0 = true then 0 + 1 else 0)) + 4 else (if b1 = true then (if b0 = true then 0 + 1 else 0) + 2 else (if b0 = true then 0 + 1 else 0))), ?_, ?_, ?_, ?_⟩
  · cases b0 <;> cases b1 <;> cases b2 <;> cases b3 <;> decide +kernel
  · cases b0 <;> cases b1 <;> cases b2 <;> cases b3 <;> decide +kernel
  · refine spec_mask_s ls e hn hm x y 0 0 1 _ _ b0 (by omega) (by omega) (x0 _ (by decide +kernel)) (y0 _ (by decide +kernel)) rfl h0 (by decide +kernel) ?_
    refine spec_mask_s ls e hn hm x y _ (0 + 1) 2 _ _ b1 (by omega) (by omega) (x1 _ (by decide +kernel)) (y0 _ (by decide +kernel)) rfl h1 (by cases b0 <;> decide +kernel) ?_
    refine spec_mask_s ls e hn hm x y _ (0 + 1 + 1) 4 _ _ b2 (by omega) (by omega) (x0 _ (by decide +kernel)) (y1 _ (by decide +kernel)) rfl h2 (by cases b0 <;> cases b1 <;> decide +kernel) ?_
    refine spec_mask_s ls e hn hm x y _ (0 + 1 + 1 + 1) 8 _ _ b3 (by omega) (by omega) (x1 _ (by decide +kernel)) (y1 _ (by decide +kernel)) rfl h3 (by cases b0 <;> cases b1 <;> cases b2 <;> decide +kernel) ?_
    exact fin_s _
  · refine impl_mask_s ls e hn hm 0 0 1 (256 * x + 64) (256 * y + 64) (256 * x + 64) (256 * y + 64) (256 * x + 64 + 128) (256 * y + 64) (256 * x + 64) (256 * y + 64 + 128) (256 * x + 64 + 128) (256 * y + 64 + 128) b0 (by omega) (by omega) rfl rfl (by decide +kernel) h0 (fun _ => by decide +kernel) ?_
    refine impl_mask_s ls e hn hm _ (0 + 1) 2 (256 * x + 64 + 128) (256 * y + 64) (256 * x + 64) (256 * y + 64) (256 * x + 64 + 128) (256 * y + 64) (256 * x + 64) (256 * y + 64 + 128) (256 * x + 64 + 128) (256 * y + 64 + 128) b1 (by omega) (by omega) rfl rfl (by decide +kernel) h1 (fun _ => by cases b0 <;> decide +kernel) ?_
    refine impl_mask_s ls e hn hm _ (0 + 1 + 1) 4 (256 * x + 64) (256 * y + 64 + 128) (256 * x + 64) (256 * y + 64) (256 * x + 64 + 128) (256 * y + 64) (256 * x + 64) (256 * y + 64 + 128) (256 * x + 64 + 128) (256 * y + 64 + 128) b2 (by omega) (by omega) rfl rfl (by decide +kernel) h2 (fun _ => by cases b0 <;> cases b1 <;> decide +kernel) ?_
    refine impl_mask_s ls e hn hm _ (0 + 1 + 1 + 1) 8 (256 * x + 64 + 128) (256 * y + 64 + 128) (256 * x + 64) (256 * y + 64) (256 * x + 64 + 128) (256 * y + 64) (256 * x + 64) (256 * y + 64 + 128) (256 * x + 64 + 128) (256 * y + 64 + 128) b3 (by omega) (by omega) rfl rfl (by decide +kernel) h3 (fun _ => by cases b0 <;> cases b1 <;> cases b2 <;> decide +kernel) ?_
    exact fin_i _
theorem MaskAt_v (x y : Int) : ∃ r : Int, 0 ≤ r ∧ r ≤ 15 ∧ Ev (fun k => spec_MaskAt.f k ls e x y) r ∧ Ev (fun k => impl_MaskAt.f k ls e x y) r := by
  unfold spec_MaskAt.f impl_MaskAt.f impl_isSquare.f
  simp only [spec_l01In_v, impl_inRange_v, Option.bind_some]
  have hno : Ev (fun k => spec_MaskAt.j0 k ls e x y true) 0 := ev_done (fun k => rfl)
  by_cases hx : -2000 ≤ x ∧ x ≤ 2000
  · rw [decide_eq_true hx]
    simp only [if_true]
    by_cases hy : -2000 ≤ y ∧ y ≤ 2000
    · rw [decide_eq_true hy]
      obtain ⟨r, g0, g1, h1, h2⟩ := mask_both ls e hn hm x y hx hy
      refine ⟨r, g0, g1, Ev.step (fun k => rfl) h1, ?_⟩
      simp only [Option.bind_some, if_true, impl_pointsOf.f]
      rw [w64 (x := 256 * x) (by omega) (by omega), w64 (x := 256 * x + 64) (by omega) (by omega), w64 (x := 256 * x + 64 + 128) (by omega) (by omega), w64 (x := 256 * y) (by omega) (by omega), w64 (x := 256 * y + 64) (by omega) (by omega), w64 (x := 256 * y + 64 + 128) (by omega) (by omega)]
      exact h2
    · rw [decide_eq_false hy]
      refine ⟨0, by omega, by omega, hno, ?_⟩
      exact Ev.now 0
  · rw [decide_eq_false hx]
    refine ⟨0, by omega, by omega, hno, ?_⟩
    exact Ev.now 0
end

/-! Grid0 -/
def rowL (B : Int → Int → Int) (y : Int) : Int → Nat → List Int
  | _, 0 => []
  | x, n + 1 => B x y :: rowL B y (x + 1) n
def gridL (B : Int → Int → Int) (a : Int) (w : Nat) : Int → Nat → List Int
  | _, 0 => []
  | y, m + 1 => rowL B y a w ++ gridL B a w (y + 1) m
theorem rowL_len (B : Int → Int → Int) (y : Int) : ∀ (n : Nat) (x : Int), (rowL B y x n).length = n
  | 0, _ => rfl
  | n + 1, x => by rw [rowL, List.length_cons, rowL_len B y n]
theorem gridL_len (B : Int → Int → Int) (a : Int) (w : Nat) : ∀ (m : Nat) (y : Int), (gridL B a w y m).length = m * w
  | 0, _ => by simp [gridL]
  | m + 1, y => by rw [gridL, List.length_append, rowL_len, gridL_len B a w m, Nat.succ_mul]; omega

/-! MaskB -/
def maskBoxP (a b c d : Int) : Prop := a < c ∧ b < d ∧ -2000 ≤ a ∧ -2000 ≤ b ∧ c ≤ 2000 ∧ d ≤ 2000 ∧ c - a ≤ 60 ∧ d - b ≤ 60
instance (a b c d : Int) : Decidable (maskBoxP a b c d) := by unfold maskBoxP; infer_instance
def allBits (l : List Int) : Bool := l.all (fun x => decide (0 ≤ x ∧ x ≤ 15))
def maskOkB (a b c d : Int) (l : List Int) : Bool := if a = 0 ∧ b = 0 ∧ c = 0 ∧ d = 0 then decide (l.length = 0) else (decide (maskBoxP a b c d) && decide ((l.length : Int) = (c - a) * (d - b)) && allBits l)
theorem area_bd {a b c d : Int} (h : maskBoxP a b c d) : 1 ≤ (c - a) * (d - b) ∧ (c - a) * (d - b) ≤ 3600 := by
  obtain ⟨h1, h2, _, _, _, _, h3, h4⟩ := h
  have e1 : 1 * 1 ≤ (c - a) * (d - b) := Int.mul_le_mul (by omega) (by omega) (by omega) (by omega)
  have e2 : (c - a) * (d - b) ≤ 60 * 60 := Int.mul_le_mul (by omega) (by omega) (by omega) (by omega)
  omega
theorem area_w {a b c d : Int} (h : maskBoxP a b c d) : wrap64 ((wrap64 (c - a)) * (wrap64 (d - b))) = (c - a) * (d - b) := by
  have q := area_bd h
  obtain ⟨h1, h2, _, _, _, _, h3, h4⟩ := h
  rw [w64 (x := c - a) (by omega) (by omega), w64 (x := d - b) (by omega) (by omega), w64 (by omega) (by omega)]
theorem spec_l11Box_v (a b c d : Int) : spec_l11Box.f a b c d = some (decide (maskBoxP a b c d)) := by
  unfold spec_l11Box.f spec_Empty.f maskBoxP
  simp only [spec_l01In_v]
  by_cases h1 : a ≥ c
  · rw [if_pos h1]
    simp only [Option.bind_some, if_true]
    refine congrArg some (Eq.symm (decide_eq_false ?_))
    omega
  · rw [if_neg h1]
    simp only [Option.bind_some, decide_eq_true_eq]
    by_cases h2 : b ≥ d
    · rw [if_pos h2]
      refine congrArg some (Eq.symm (decide_eq_false ?_))
      omega
    · rw [if_neg h2]
      by_cases h3 : (-2000 ≤ a ∧ a ≤ 2000) ∧ (-2000 ≤ b ∧ b ≤ 2000) ∧ (-2000 ≤ c ∧ c ≤ 2000) ∧ (-2000 ≤ d ∧ d ≤ 2000)
      · rw [if_pos h3.1, if_pos h3.2.1, if_pos h3.2.2.1, if_pos h3.2.2.2, w64 (by omega) (by omega), w64 (by omega) (by omega)]
        split
        · refine congrArg some (decide_eq_decide.mpr ?_)
          omega
        · refine congrArg some (Eq.symm (decide_eq_false ?_))
          omega
      · repeat' split
        all_goals first | (exfalso; omega) | (refine congrArg some (Eq.symm (decide_eq_false ?_)); omega)
theorem impl_isMaskBox_v {a b c d : Int} (ha : -9223372036854775808 ≤ a ∧ a ≤ 9223372036854775807) (hb : -9223372036854775808 ≤ b ∧ b ≤ 9223372036854775807) (hc : -9223372036854775808 ≤ c ∧ c ≤ 9223372036854775807) (hd : -9223372036854775808 ≤ d ∧ d ≤ 9223372036854775807) :
    impl_isMaskBox.f a b c d = some (decide (maskBoxP a b c d)) := by
  unfold impl_isMaskBox.f impl_Empty.f maskBoxP
  by_cases h1 : a ≥ c
  · rw [if_pos h1]
    simp only [Option.bind_some, if_true]
    refine congrArg some (Eq.symm (decide_eq_false ?_))
    omega
  · rw [if_neg h1]
    simp only [Option.bind_some, decide_eq_true_eq]
    by_cases h2 : b ≥ d
    · rw [if_pos h2]
      refine congrArg some (Eq.symm (decide_eq_false ?_))
      omega
    · rw [if_neg h2]
      by_cases h3 : (-2000 ≤ a ∧ a ≤ 2000) ∧ (-2000 ≤ b ∧ b ≤ 2000) ∧ (-2000 ≤ c ∧ c ≤ 2000) ∧ (-2000 ≤ d ∧ d ≤ 2000)
      · rw [if_neg (by omega), if_neg (by omega), if_neg (by omega), if_neg (by omega), w64 (by omega) (by omega), w64 (by omega) (by omega)]
        split
        · refine congrArg some (decide_eq_decide.mpr ?_)
          omega
        · refine congrArg some (Eq.symm (decide_eq_false ?_))
          omega
      · repeat' split
        all_goals first | (exfalso; omega) | (refine congrArg some (Eq.symm (decide_eq_false ?_)); omega)

/-! MaskGrid0 -/
abbrev MR := Int × Int × Int × Int × List Int
section
variable (ls : List (List S32)) (e : Bool) (B : Int → Int → Int) (hB : ∀ x y, (Ev (fun k => spec_MaskAt.f k ls e x y) (B x y) ∧ Ev (fun k => impl_MaskAt.f k ls e x y) (B x y)) ∧ 0 ≤ B x y ∧ B x y ≤ 15)
include hB
theorem maskOf_cols (a b c d y : Int) (hc : c ≤ 2000) {R R' : MR} : ∀ (n : Nat) (x : Int) (out : List Int), -2000 ≤ x → x + n = c → out.length + n ≤ 100000 →
    (Ev (fun k => spec_MaskOf.l0 k ls e (wrap64 (y + 1)) a b c d a b c d (out ++ rowL B y x n)) R → Ev (fun k => spec_MaskOf.l1 k ls e y x a b c d a b c d out) R) ∧
    (Ev (fun k => impl_maskOver_MaskOf_1.l0 k (wrap64 (y + 1)) ls e a b c d a b c d (out ++ rowL B y x n)) R' → Ev (fun k => impl_maskOver_MaskOf_1.l1 k y x ls e a b c d a b c d out) R') := by
  intro n
  induction n with
  | zero =>
    intro x out h0 hx ho
    simp only [rowL, List.append_nil]
    refine ⟨fun h => Ev.step (fun k => ?_) h, fun h => Ev.step (fun k => ?_) h⟩
    · simp only [spec_MaskOf.l1]
      rw [if_neg (by omega)]
    · simp only [impl_maskOver_MaskOf_1.l1]
      rw [if_neg (by omega)]
  | succ n ih =>
    intro x out h0 hx ho
    obtain ⟨i1, i2⟩ := ih (x + 1) (out ++ [B x y]) (by omega) (by omega) (by simp; omega)
    have e1 : out ++ rowL B y x (n + 1) = (out ++ [B x y]) ++ rowL B y (x + 1) n := by rw [rowL, List.append_assoc]; rfl
    rw [e1]
    refine ⟨fun h => ?_, fun h => ?_⟩
    · refine Ev.step (fun k => rfl) ?_
      simp only [spec_MaskOf.l1, if_pos (show x < c by omega)]
      refine Ev.bind (hB x y).1.1 ?_
      simp only [if_pos (show out.length < 17592186044416 by omega), w64 (x := x + 1) (by omega) (by omega)]
      exact i1 h
    · refine Ev.step (fun k => rfl) ?_
      simp only [impl_maskOver_MaskOf_1.l1, impl_MaskOf_1.f, if_pos (show x < c by omega), Option.bind_assoc, Option.bind_some]
      refine Ev.bind (hB x y).1.2 ?_
      simp only [if_pos (show out.length < 17592186044416 by omega), w64 (x := x + 1) (by omega) (by omega)]
      exact i2 h
theorem maskOf_rows (a b c d : Int) (w : Nat) (ha : -2000 ≤ a) (hc : c ≤ 2000) (hd : d ≤ 2000) (hw : (w : Int) = c - a) (hw60 : w ≤ 60) : ∀ (m : Nat) (y : Int) (out : List Int), -2000 ≤ y → y + m = d → out.length + 60 * m ≤ 100000 →
    Ev (fun k => spec_MaskOf.l0 k ls e y a b c d a b c d out) (a, b, c, d, out ++ gridL B a w y m) ∧ Ev (fun k => impl_maskOver_MaskOf_1.l0 k y ls e a b c d a b c d out) (a, b, c, d, out ++ gridL B a w y m) := by
  intro m
  induction m with
  | zero =>
    intro y out h0 hy ho
    simp only [gridL, List.append_nil]
    refine ⟨ev_done (fun k => ?_), ev_done (fun k => ?_)⟩
    · simp only [spec_MaskOf.l0]
      rw [if_neg (by omega)]
    · simp only [impl_maskOver_MaskOf_1.l0]
      rw [if_neg (by omega)]
  | succ m ih =>
    intro y out h0 hy ho
    have e1 : wrap64 (y + 1) = y + 1 := w64 (by omega) (by omega)
    have e2 : out ++ gridL B a w y (m + 1) = (out ++ rowL B y a w) ++ gridL B a w (y + 1) m := by rw [gridL, List.append_assoc]
    obtain ⟨i1, i2⟩ := ih (y + 1) (out ++ rowL B y a w) (by omega) (by omega) (by rw [List.length_append, rowL_len]; omega)
    obtain ⟨c1, c2⟩ := maskOf_cols ls e B hB a b c d y hc (R := (a, b, c, d, out ++ gridL B a w y (m + 1))) (R' := (a, b, c, d, out ++ gridL B a w y (m + 1))) w a out ha (by omega) (by omega)
    rw [← e2, ← e1] at i1 i2
    refine ⟨Ev.step (fun k => ?_) (c1 i1), Ev.step (fun k => ?_) (c2 i2)⟩
    · simp only [spec_MaskOf.l0]
      rw [if_pos (by omega)]
    · simp only [impl_maskOver_MaskOf_1.l0]
      rw [if_pos (by omega)]
end

/-! laws_szPointS -/
theorem laws_szPointS_v (l : List S157) (a : Int) (h0 : 0 ≤ a) (h1 : a ≤ 1048576) (hl : l.length ≤ maxLen) : laws_szPointS.f l a = some (if (l.length : Int) ≤ a then a - (l.length : Int) else -1) := by
  unfold maxLen at hl
  have hw : wrap64 (a - (l.length : Int)) = a - (l.length : Int) := w64 (by omega) (by omega)
  unfold laws_szPointS.f
  rw [hw]
  by_cases h : (l.length : Int) ≤ a
  · rw [if_neg (by omega), if_pos h]
  · rw [if_pos (by omega), if_neg h]

/-! rd_laws_Point -/
theorem rd_laws_Point (xs : List S157) (i : Nat) (h : i < xs.length) : rd_T157 xs (i : Int) = xs[i] := by
  unfold rd_T157
  simp [h]

/-! laws_toPointS -/
def convPoint (x : S157) : S32 := ⟨x.f0, x.f1⟩
theorem laws_toPointS_l (x0 : List S157) (hn : x0.length ≤ 1048576) : ∀ (d i : Nat) (x3 : List S32), x3.length = x0.length → i + d = x0.length →
    Ev (fun k => laws_toPointS.l0 k x0 x3 (i : Int)) (x3.take i ++ (x0.drop i).map convPoint) := by
  intro d
  induction d with
  | zero =>
    intro i x3 hl hi
    refine ev_done (fun k => ?_)
    simp only [laws_toPointS.l0]
    rw [if_neg (by omega), List.take_of_length_le (by omega), List.drop_of_length_le (by omega)]
    simp
  | succ d ih =>
    intro i x3 hl hi
    have hi2 : i < x0.length := by omega
    refine Ev.step (f := fun k => laws_toPointS.l0 k x0 (x3.set i (convPoint x0[i])) ((i + 1 : Nat) : Int)) (fun k => ?_) ?_
    · simp only [laws_toPointS.l0, laws_toPoint.f, Option.bind_some]
      rw [if_pos (by omega), if_pos (by omega), step64 hi2 (by omega), rd_laws_Point _ _ hi2]
      rw [if_pos (by omega)]
      rfl
    · have h := ih (i + 1) (x3.set i (convPoint x0[i])) (by simpa using hl) (by omega)
      rw [take_set_succ _ _ _ (by omega)] at h
      rw [List.drop_eq_getElem_cons hi2]
      rw [List.append_assoc] at h
      exact h
theorem laws_toPointS_v (x0 : List S157) (hn : x0.length ≤ 1048576) : Ev (fun k => laws_toPointS.f k x0) (x0.map convPoint) := by
  have h := laws_toPointS_l x0 hn x0.length 0 (List.replicate x0.length z32) (by simp) (by omega)
  refine Ev.congr (fun k => ?_) (by simpa using h)
  unfold laws_toPointS.f
  rw [if_pos (by omega), if_pos (by omega)]
  simp

/-! laws_eqPointS -/
theorem laws_eqPointS_l (x0 : List S32) (hn : x0.length ≤ 1048576) : ∀ (d i : Nat), i + d = x0.length → Ev (fun k => laws_eqPointS.l0 k x0 x0 (i : Int)) true := by
  intro d
  induction d with
  | zero =>
    intro i hi
    refine ev_done (fun k => ?_)
    simp only [laws_eqPointS.l0]
    rw [if_neg (by omega)]
  | succ d ih =>
    intro i hi
    have hi2 : i < x0.length := by omega
    refine Ev.step (fun k => ?_) (ih (i + 1) (by omega))
    simp only [laws_eqPointS.l0, laws_eqPoint.f]
    rw [if_pos (by omega), if_pos (by omega), if_pos (by omega), step64 hi2 (by omega)]
    simp
theorem laws_eqPointS_v (x0 : List S32) (hn : x0.length ≤ 1048576) : Ev (fun k => laws_eqPointS.f k x0 x0) true := by
  refine Ev.congr (fun k => ?_) (laws_eqPointS_l x0 hn x0.length 0 (by omega))
  unfold laws_eqPointS.f
  rw [if_pos rfl]
  rfl

/-! lists_PointSS -/
def totL (l : List (List S157)) : Int := match l with | [] => 0 | x :: xs => (x.length : Int) + totL xs
theorem totL_nonneg : ∀ l : List (List S157), 0 ≤ totL l
  | [] => by simp [totL]
  | x :: xs => by have := totL_nonneg xs; rw [totL]; omega
theorem totL_mem : ∀ (l : List (List S157)) (x : List S157), x ∈ l → (x.length : Int) ≤ totL l
  | y :: ys, x, h => by
    have := totL_nonneg ys
    rw [totL]
    rcases List.mem_cons.mp h with rfl | h
    · omega
    · have := totL_mem ys x h
      omega
theorem rd_laws_PointSS (xs : List (List S157)) (i : Nat) (h : i < xs.length) : rd_L2 xs (i : Int) = xs[i] := by
  unfold rd_L2
  simp [h]
theorem laws_toPointSS_l (x0 : List (List S157)) (hn : x0.length ≤ 1048576) (hm : ∀ x ∈ x0, x.length ≤ 1048576) : ∀ (d i : Nat) (x3 : List (List S32)), x3.length = x0.length → i + d = x0.length →
    Ev (fun k => laws_toPointSS.l0 k x0 x3 (i : Int)) (x3.take i ++ (x0.drop i).map (List.map convPoint)) := by
  intro d
  induction d with
  | zero =>
    intro i x3 hl hi
    refine ev_done (fun k => ?_)
    simp only [laws_toPointSS.l0]
    rw [if_neg (by omega), List.take_of_length_le (by omega), List.drop_of_length_le (by omega)]
    simp
  | succ d ih =>
    intro i x3 hl hi
    have hi2 : i < x0.length := by omega
    have h := ih (i + 1) (x3.set i (x0[i].map convPoint)) (by simpa using hl) (by omega)
    rw [take_set_succ _ _ _ (by omega)] at h
    rw [List.drop_eq_getElem_cons hi2]
    rw [List.append_assoc] at h
    refine Ev.step (f := fun k => (laws_toPointS.f k x0[i]).bind fun t => laws_toPointSS.l0 k x0 (x3.set i t) ((i + 1 : Nat) : Int)) (fun k => ?_) (Ev.bind (laws_toPointS_v _ (hm _ (List.getElem_mem hi2))) h)
    simp only [laws_toPointSS.l0]
    rw [if_pos (by omega), if_pos (by omega), step64 hi2 (by omega), rd_laws_PointSS _ _ hi2]
    simp only [if_pos (show (i : Int) < (x3.length : Int) by omega)]
    rfl
theorem laws_toPointSS_v (x0 : List (List S157)) (hn : x0.length ≤ 1048576) (hm : ∀ x ∈ x0, x.length ≤ 1048576) : Ev (fun k => laws_toPointSS.f k x0) (x0.map (List.map convPoint)) := by
  have h := laws_toPointSS_l x0 hn hm x0.length 0 (List.replicate x0.length []) (by simp) (by omega)
  refine Ev.congr (fun k => ?_) (by simpa using h)
  unfold laws_toPointSS.f
  rw [if_pos (by omega), if_pos (by omega)]
  simp
theorem laws_eqPointSS_l (x0 : List (List S32)) (hn : x0.length ≤ 1048576) (hm : ∀ x ∈ x0, x.length ≤ 1048576) : ∀ (d i : Nat), i + d = x0.length → Ev (fun k => laws_eqPointSS.l0 k x0 x0 (i : Int)) true := by
  intro d
  induction d with
  | zero =>
    intro i hi
    refine ev_done (fun k => ?_)
    simp only [laws_eqPointSS.l0]
    rw [if_neg (by omega)]
  | succ d ih =>
    intro i hi
    have hi2 : i < x0.length := by omega
    refine Ev.step (f := fun k => (laws_eqPointS.f k x0[i] x0[i]).bind fun t => if t = true then laws_eqPointSS.l0 k x0 x0 ((i + 1 : Nat) : Int) else some false) (fun k => ?_) (Ev.bind (laws_eqPointS_v _ (hm _ (List.getElem_mem hi2))) ?_)
    · simp only [laws_eqPointSS.l0]
      rw [if_pos (by omega), if_pos (by omega), if_pos (by omega), step64 hi2 (by omega), rd_impl_PointSS _ _ hi2]
    · simp only [if_true]
      exact ih (i + 1) (by omega)
theorem laws_eqPointSS_v (x0 : List (List S32)) (hn : x0.length ≤ 1048576) (hm : ∀ x ∈ x0, x.length ≤ 1048576) : Ev (fun k => laws_eqPointSS.f k x0 x0) true := by
  refine Ev.congr (fun k => ?_) (laws_eqPointSS_l x0 hn hm x0.length 0 (by omega))
  unfold laws_eqPointSS.f
  rw [if_pos rfl]
  rfl

/-! convLL -/
theorem convLL {x0 : List (List S157)} (hn : x0.length ≤ 1048576) (hm : ∀ x ∈ x0, x.length ≤ 1048576) : (x0.map (List.map convPoint)).length ≤ 1048576 ∧ ∀ x ∈ x0.map (List.map convPoint), x.length ≤ 1048576 := by
  refine ⟨by simpa using hn, fun x hx => ?_⟩
  obtain ⟨y, hy, rfl⟩ := List.mem_map.mp hx
  simpa using hm y hy

/-! laws_szPointSS -/
theorem laws_szPointSS_l (x0 : List (List S157)) (hn : x0.length ≤ 1048576) (hw : ∀ x ∈ x0, x.length ≤ maxLen) : ∀ (d i : Nat) (n : Int), i + d = x0.length → 0 ≤ n → n ≤ 1048576 →
    Ev (fun k => laws_szPointSS.l0 k x0 n (i : Int)) (if totL (x0.drop i) ≤ n then n - totL (x0.drop i) else -1) := by
  intro d
  induction d with
  | zero =>
    intro i n hi h0 h1
    refine ev_done (fun k => ?_)
    simp only [laws_szPointSS.l0]
    rw [if_neg (by omega), List.drop_of_length_le (by omega), totL, if_pos h0]
    simp
  | succ d ih =>
    intro i n hi h0 h1
    have hi2 : i < x0.length := by omega
    rw [List.drop_eq_getElem_cons hi2, totL]
    have hz := laws_szPointS_v x0[i] n h0 h1 (hw _ (List.getElem_mem hi2))
    have ht := totL_nonneg (x0.drop (i + 1))
    by_cases h : (x0[i].length : Int) ≤ n
    · rw [if_pos h] at hz
      have q := ih (i + 1) (n - (x0[i].length : Int)) (by omega) (by omega) (by omega)
      have e : (if (x0[i].length : Int) + totL (x0.drop (i + 1)) ≤ n then n - ((x0[i].length : Int) + totL (x0.drop (i + 1))) else -1) = (if totL (x0.drop (i + 1)) ≤ n - (x0[i].length : Int) then n - (x0[i].length : Int) - totL (x0.drop (i + 1)) else -1) := by
        split
        · rw [if_pos (by omega)]
          omega
        · rw [if_neg (by omega)]
      rw [e]
      refine Ev.step (fun k => ?_) q
      simp only [laws_szPointSS.l0]
      rw [if_pos (by omega), if_pos (by omega), rd_laws_PointSS _ _ hi2, hz, Option.bind_some, if_neg (by omega), step64 hi2 (by omega)]
    · rw [if_neg h] at hz
      rw [if_neg (by omega)]
      refine ev_done (fun k => ?_)
      simp only [laws_szPointSS.l0]
      rw [if_pos (by omega), if_pos (by omega), rd_laws_PointSS _ _ hi2, hz, Option.bind_some, if_pos (by decide)]
theorem laws_szPointSS_v (x0 : List (List S157)) (hl : x0.length ≤ maxLen) (hw : ∀ x ∈ x0, x.length ≤ maxLen) (n : Int) (h0 : 0 ≤ n) (h1 : n ≤ 1048576) :
    Ev (fun k => laws_szPointSS.f k x0 n) (if (x0.length : Int) + totL x0 ≤ n then n - (x0.length : Int) - totL x0 else -1) := by
  have ht := totL_nonneg x0
  have e0 : wrap64 (n - (x0.length : Int)) = n - (x0.length : Int) := by unfold maxLen at hl; exact w64 (by omega) (by omega)
  unfold laws_szPointSS.f
  rw [e0]
  by_cases h : (x0.length : Int) ≤ n
  · simp only [if_neg (show ¬ (n - (x0.length : Int) < 0) by omega)]
    have q := laws_szPointSS_l x0 (by omega) hw x0.length 0 (n - (x0.length : Int)) (by omega) (by omega) (by omega)
    have e : (if (x0.length : Int) + totL x0 ≤ n then n - (x0.length : Int) - totL x0 else -1) = (if totL x0 ≤ n - (x0.length : Int) then n - (x0.length : Int) - totL x0 else -1) := by
      split
      · rw [if_pos (by omega)]
      · rw [if_neg (by omega)]
    rw [e]
    exact q
  · simp only [if_pos (show n - (x0.length : Int) < 0 by omega)]
    rw [if_neg (by omega)]
    exact Ev.now _
/-- What a sum of sizes that is taken tells. -/
theorem sz_small {x0 : List (List S157)} (h : (x0.length : Int) + totL x0 ≤ 1048576) : x0.length ≤ 1048576 ∧ ∀ x ∈ x0, x.length ≤ 1048576 := by
  have := totL_nonneg x0
  refine ⟨by omega, fun x hx => ?_⟩
  have := totL_mem x0 x hx
  omega

/-! laws_eqIntS -/
theorem laws_eqIntS_l (x0 : List Int) (hn : x0.length ≤ 1048576) : ∀ (d i : Nat), i + d = x0.length → Ev (fun k => laws_eqIntS.l0 k x0 x0 (i : Int)) true := by
  intro d
  induction d with
  | zero =>
    intro i hi
    refine ev_done (fun k => ?_)
    simp only [laws_eqIntS.l0]
    rw [if_neg (by omega)]
  | succ d ih =>
    intro i hi
    have hi2 : i < x0.length := by omega
    refine Ev.step (fun k => ?_) (ih (i + 1) (by omega))
    simp only [laws_eqIntS.l0]
    rw [if_pos (by omega), if_pos (by omega), if_pos (by omega), step64 hi2 (by omega)]
    simp
theorem laws_eqIntS_v (x0 : List Int) (hn : x0.length ≤ 1048576) : Ev (fun k => laws_eqIntS.f k x0 x0) true := by
  refine Ev.congr (fun k => ?_) (laws_eqIntS_l x0 hn x0.length 0 (by omega))
  unfold laws_eqIntS.f
  rw [if_pos rfl]
  rfl

/-! marksInt -/
def marksInt : Nat → Int → List Int
  | 0, _ => []
  | n + 1, c => c :: marksInt n (c + 1)
theorem marksInt_length : ∀ (n : Nat) (c : Int), (marksInt n c).length = n
  | 0, _ => rfl
  | n + 1, c => by rw [marksInt, List.length_cons, marksInt_length n]

/-! laws_markIntS -/
theorem laws_markIntS_l : ∀ (d i : Nat) (x0 : List Int) (c : Int), x0.length ≤ 4194304 → i + d = x0.length → 0 ≤ c → c + 1 * (d : Int) ≤ 1152921504606846976 →
    Ev (fun k => laws_markIntS.l0 k x0 c (i : Int)) (c + 1 * (d : Int), x0.take i ++ marksInt d c) := by
  intro d
  induction d with
  | zero =>
    intro i x0 c hn hi h0 h1
    refine ev_done (fun k => ?_)
    simp only [laws_markIntS.l0]
    rw [if_neg (by omega), List.take_of_length_le (by omega)]
    simp [marksInt]
  | succ d ih =>
    intro i x0 c hn hi h0 h1
    have hi2 : i < x0.length := by omega
    have e1 : wrap64 (c + 1) = c + 1 := by rw [w64 (by omega) (by omega)] <;> omega
    refine Ev.step (f := fun k => laws_markIntS.l0 k (x0.set i c) (c + 1) ((i + 1 : Nat) : Int)) (fun k => ?_) ?_
    · simp only [laws_markIntS.l0, Option.bind_some, Int.toNat_natCast, List.set_set, e1, step64 hi2 (show x0.length ≤ 4611686018427387904 by omega)]
      rw [if_pos (by omega), if_pos (by omega)]
    · have h := ih (i + 1) (x0.set i c) (c + 1) (by simpa using hn) (by simp; omega) (by omega) (by omega)
      rw [take_set_succ _ _ _ (by omega), List.append_assoc] at h
      have e : c + 1 * ((d + 1 : Nat) : Int) = c + 1 + 1 * (d : Int) := by omega
      rw [e]
      exact h
theorem laws_markIntS_v (x0 : List Int) (c : Int) (hn : x0.length ≤ 4194304) (h0 : 0 ≤ c) (h1 : c ≤ 1125899906842624) : Ev (fun k => laws_markIntS.f k x0 c) (c + 1 * (x0.length : Int), marksInt x0.length c) := by
  have h := laws_markIntS_l x0.length 0 x0 c hn (by omega) h0 (by omega)
  exact h

/-! laws_heldIntS -/
theorem laws_heldIntS_l : ∀ (d i : Nat) (x0 : List Int) (c : Int), x0.length ≤ 4194304 → i + d = x0.length → 0 ≤ c → c + 1 * (d : Int) ≤ 1152921504606846976 → x0.drop i = marksInt d c →
    Ev (fun k => laws_heldIntS.l0 k x0 c (i : Int)) (c + 1 * (d : Int)) := by
  intro d
  induction d with
  | zero =>
    intro i x0 c hn hi h0 h1 hd
    refine ev_done (fun k => ?_)
    simp only [laws_heldIntS.l0]
    rw [if_neg (by omega)]
    simp
  | succ d ih =>
    intro i x0 c hn hi h0 h1 hd
    have hi2 : i < x0.length := by omega
    rw [List.drop_eq_getElem_cons hi2, marksInt] at hd
    obtain ⟨hx, hd⟩ := List.cons.inj hd
    have e1 : wrap64 (c + 1) = c + 1 := by rw [w64 (by omega) (by omega)] <;> omega
    have e : c + 1 * ((d + 1 : Nat) : Int) = c + 1 + 1 * (d : Int) := by omega
    rw [e]
    refine Ev.step (fun k => ?_) (ih (i + 1) x0 (c + 1) hn (by omega) (by omega) (by omega) hd)
    simp only [laws_heldIntS.l0, rd_int _ _ hi2, hx, e1, if_true, step64 hi2 (show x0.length ≤ 4611686018427387904 by omega)]
    rw [if_pos (by omega), if_pos (by omega)]
theorem laws_heldIntS_v (n : Nat) (c : Int) (hn : n ≤ 4194304) (h0 : 0 ≤ c) (h1 : c ≤ 1125899906842624) : Ev (fun k => laws_heldIntS.f k (marksInt n c) c) (c + 1 * (n : Int)) :=
  laws_heldIntS_l n 0 (marksInt n c) c (by rw [marksInt_length]; exact hn) (by rw [marksInt_length]; omega) h0 (by omega) rfl

/-! law_FnExactMaskOf -/
theorem markPointS_l : ∀ (d i : Nat) (x0 : List S32) (z : Int), i + d = x0.length → x0.length ≤ 1048576 → 0 ≤ z → z + 2 * d ≤ 1152921504606846976 → ∃ R, Ev (fun k => laws_markPointS.l0 k x0 z (i : Int)) (z + 2 * (d : Int), R) := by
  intro d
  induction d with
  | zero =>
    intro i x0 z hi _ _ _
    refine ⟨x0, ev_done (fun k => ?_)⟩
    simp only [laws_markPointS.l0]
    rw [if_neg (by omega)]
    simp
  | succ d ih =>
    intro i x0 z hi hn h0 h1
    have hi2 : i < x0.length := by omega
    have e1 : wrap64 (z + 1) = z + 1 := w64 (by omega) (by omega)
    have e2 : wrap64 (z + 1 + 1) = z + 2 := by rw [w64 (by omega) (by omega)]; omega
    have e3 : z + 2 * ((d + 1 : Nat) : Int) = z + 2 + 2 * (d : Int) := by omega
    obtain ⟨R, h⟩ := ih (i + 1) ((x0.set i ⟨z, (rd_T32 x0 (i : Int)).f1⟩).set i ⟨(rd_T32 (x0.set i ⟨z, (rd_T32 x0 (i : Int)).f1⟩) (i : Int)).f0, z + 1⟩) (z + 2) (by simp; omega) (by simpa using hn) (by omega) (by omega)
    refine ⟨R, ?_⟩
    rw [e3]
    refine Ev.step (fun k => ?_) h
    simp only [laws_markPointS.l0]
    rw [if_pos (by omega), if_pos (by omega), Option.bind_some, e1, e2, step64 hi2 (by omega)]
    rfl
theorem markPointSS_l : ∀ (d i : Nat) (x0 : List (List S32)) (z : Int), i + d = x0.length → x0.length ≤ 1048576 → (∀ (j : Nat) (h : j < x0.length), i ≤ j → x0[j].length ≤ 1048576) → 0 ≤ z → z + 2097152 * d ≤ 1152921504606846976 → ∃ K R, Ev (fun k => laws_markPointSS.l0 k x0 z (i : Int)) (K, R) ∧ 0 ≤ K := by
  intro d
  induction d with
  | zero =>
    intro i x0 z hi _ _ h0 _
    refine ⟨z, x0, ev_done (fun k => ?_), h0⟩
    simp only [laws_markPointSS.l0]
    rw [if_neg (by omega)]
  | succ d ih =>
    intro i x0 z hi hn hm h0 h1
    have hi2 : i < x0.length := by omega
    have hl := hm i hi2 (Nat.le_refl _)
    obtain ⟨R, hR⟩ := markPointS_l x0[i].length 0 x0[i] z (by omega) hl h0 (by omega)
    obtain ⟨K, R2, h, hK⟩ := ih (i + 1) (x0.set i R) (z + 2 * (x0[i].length : Int)) (by simp; omega) (by simpa using hn) (fun j hj hij => by
      rw [List.getElem_set_ne (by omega)]
      exact hm j (by simpa using hj) (by omega)) (by omega) (by omega)
    refine ⟨K, R2, ?_, hK⟩
    refine Ev.step (f := fun k => (laws_markPointS.f k x0[i] z).bind fun bt => laws_markPointSS.l0 k (x0.set i bt.2) bt.1 ((i + 1 : Nat) : Int)) (fun k => ?_) (Ev.bind hR h)
    simp only [laws_markPointSS.l0]
    rw [if_pos (by omega), if_pos (by omega), rd_impl_PointSS _ _ hi2, step64 hi2 (by omega)]
    rfl
theorem eqMask_w (a b c d : Int) (l : List Int) (hn : l.length ≤ 1048576) : Ev (fun k => laws_eqMask.f k a b c d l a b c d l) true := by
  unfold laws_eqMask.f
  simp only [laws_eqBox.f, if_true, Option.bind_some]
  refine Ev.bind (laws_eqIntS_v l hn) ?_
  simp only [if_true]
  exact Ev.now true
theorem markMask_w (a b c d : Int) (l : List Int) (z : Int) (hn : l.length ≤ 1048576) (h0 : 0 ≤ z) (h1 : z ≤ 1048577) : Ev (fun k => laws_markMask.f k a b c d l z) (z + 1 * (l.length : Int), marksInt l.length z) := by
  unfold laws_markMask.f
  exact Ev.bind (laws_markIntS_v l z (by omega) (by omega) (by omega)) (Ev.now _)
theorem heldMask_w (a b c d : Int) (n : Nat) (hn : n ≤ 1048576) : Ev (fun k => laws_heldMask.f k a b c d (marksInt n 1) 1) (1 + 1 * (n : Int)) := by
  unfold laws_heldMask.f
  refine Ev.bind (laws_heldIntS_v n 1 (by omega) (by omega) (by omega)) ?_
  refine Ev.congr (fun k => ?_) (Ev.now _)
  rw [if_neg (by omega)]
theorem MaskOf_v (ls : List (List S32)) (e : Bool) (hn : ls.length ≤ 1048576) (hm : ∀ x ∈ ls, x.length ≤ 1048576) {a b c d : Int} (ra : -9223372036854775808 ≤ a ∧ a ≤ 9223372036854775807) (rb : -9223372036854775808 ≤ b ∧ b ≤ 9223372036854775807) (rc : -9223372036854775808 ≤ c ∧ c ≤ 9223372036854775807) (rd' : -9223372036854775808 ≤ d ∧ d ≤ 9223372036854775807) :
    ∃ r0 r1 r2 r3 R, Ev (fun k => spec_MaskOf.f k ls e a b c d) (r0, r1, r2, r3, R) ∧ Ev (fun k => impl_MaskOf.f k ls e a b c d) (r0, r1, r2, r3, R) ∧ R.length ≤ 3600 := by
  let B : Int → Int → Int := fun x y => Classical.choose (MaskAt_v ls e hn hm x y)
  have hB : ∀ x y, (Ev (fun k => spec_MaskAt.f k ls e x y) (B x y) ∧ Ev (fun k => impl_MaskAt.f k ls e x y) (B x y)) ∧ 0 ≤ B x y ∧ B x y ≤ 15 := fun x y => by
    obtain ⟨q0, q1, q2, q3⟩ := Classical.choose_spec (MaskAt_v ls e hn hm x y)
    exact ⟨⟨q2, q3⟩, q0, q1⟩
  by_cases hbx : maskBoxP a b c d
  · obtain ⟨p1, p2, p3, p4, p5, p6, p7, p8⟩ := id hbx
    obtain ⟨w, hw⟩ : ∃ w : Nat, (w : Int) = c - a := ⟨(c - a).toNat, by omega⟩
    obtain ⟨m, hm2⟩ : ∃ m : Nat, (m : Int) = d - b := ⟨(d - b).toNat, by omega⟩
    obtain ⟨s1, s2⟩ := maskOf_rows ls e B hB a b c d w (by omega) (by omega) (by omega) hw (by omega) m b [] (by omega) (by omega) (by simp; omega)
    rw [List.nil_append] at s1 s2
    have q := area_bd hbx
    have hL : ((gridL B a w b m).length : Int) = (c - a) * (d - b) := by
      rw [gridL_len, Int.natCast_mul, hw, hm2, Int.mul_comm]
    refine ⟨a, b, c, d, gridL B a w b m, ?_, ?_, by omega⟩
    · simp only [spec_MaskOf.f, spec_l11Box_v, decide_eq_true hbx, Option.bind_some, if_true]
      exact s1
    · simp only [impl_MaskOf.f, impl_isMaskBox_v ra rb rc rd', decide_eq_true hbx, Option.bind_some, if_true, impl_maskOver_MaskOf_1.f, Option.bind_assoc]
      exact Ev.bind s2 (Ev.now _)
  · refine ⟨0, 0, 0, 0, [], ?_, ?_, by simp⟩
    · simp only [spec_MaskOf.f, spec_l11Box_v, decide_eq_false hbx, Option.bind_some, Bool.false_eq_true, if_false]
      exact Ev.now _
    · simp only [impl_MaskOf.f, impl_isMaskBox_v ra rb rc rd', decide_eq_false hbx, Option.bind_some, Bool.false_eq_true, if_false]
      exact Ev.now _
theorem pure : PureS := by
  intro l e a b c d hl wa wb wc wd
  have hz := laws_szPointSS_v l hl.1 (fun x hx => (hl.2 x hx).1) 1048576 (by omega) (by omega)
  by_cases h : (l.length : Int) + totL l ≤ 1048576
  · rw [if_pos h] at hz
    obtain ⟨hn, hm⟩ := sz_small h
    obtain ⟨hn2, hm2⟩ := convLL hn hm
    have ht := laws_toPointSS_v l hn hm
    have e0 : ¬ (1048576 - (l.length : Int) - totL l < 0) := by omega
    obtain ⟨r0, r1, r2, r3, R, k1, k2, k3⟩ := MaskOf_v _ e hn2 hm2 (wf64 wa) (wf64 wb) (wf64 wc) (wf64 wd)
    have he := eqMask_w r0 r1 r2 r3 R (by omega)
    have hM := markMask_w r0 r1 r2 r3 R 1 (by omega) (by omega) (by omega)
    have hH := heldMask_w r0 r1 r2 r3 R.length (by omega)
    obtain ⟨K, R2, hmk, hK⟩ := markPointSS_l (l.map (List.map convPoint)).length 0 (l.map (List.map convPoint)) 1 (by omega) hn2 (fun j hj _ => hm2 _ (List.getElem_mem hj)) (by omega) (by omega)
    refine Ev.rounds ?_
    simp only [laws_FnExactMaskOf.f, laws_toBox.f, Option.bind_some]
    refine Ev.bind hz ?_
    simp only [if_neg e0]
    refine Ev.bind ht (Ev.bind k1 (Ev.bind ht (Ev.bind k2 (Ev.bind he ?_))))
    simp only [if_true]
    refine Ev.bind ht (Ev.bind (laws_eqPointSS_v _ hn2 hm2) ?_)
    simp only [if_true]
    refine Ev.bind (show Ev (fun k => laws_markPointSS.f k (l.map (List.map convPoint)) 1) (K, R2) from hmk) ?_
    simp only [if_neg (show ¬ K < 0 by omega)]
    refine Ev.bind he ?_
    simp only [Bool.not_true]
    refine Ev.step (fun k => rfl) ?_
    simp only [laws_FnExactMaskOf.j0, Bool.false_eq_true, if_false, laws_toBox.f, Option.bind_some]
    refine Ev.bind hM (Ev.bind hH ?_)
    simp only [if_neg (show ¬ (1 + 1 * (R.length : Int) < 0) by omega), if_true]
    refine Ev.bind ht (Ev.bind k2 (Ev.bind he ?_))
    simp only [if_true]
    refine Ev.bind hH ?_
    simp only [if_neg (show ¬ (1 + 1 * (R.length : Int) < 0) by omega), if_true]
    exact Ev.now true
  · rw [if_neg h] at hz
    refine Ev.rounds ?_
    simp only [laws_FnExactMaskOf.f]
    refine Ev.bind hz ?_
    exact Ev.now true

end Go.Proofs.Ytgdlbilpfmjeaaa.QFnExactMaskOf
