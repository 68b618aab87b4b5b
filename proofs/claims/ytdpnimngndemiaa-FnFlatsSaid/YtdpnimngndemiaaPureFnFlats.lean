/- The pure statement of the law FnFlats, for every input: what the printed functions compute makes the law answer true. No conditions beyond what the row reads. -/
import Derived.Test.YtdpnimngndemiaaMFnFlatsx14
namespace Go.Proofs.Ytdpnimngndemiaa.Pure
open Go.RowKit Go.Proofs.Ytdpnimngndemiaa.MFnFlats Go.Proofs.YtdpnimngndemiaaW.PrintWords Go.Proofs.YtdpnimngndemiaaW.PrintLast
set_option linter.unusedVariables false
set_option linter.unusedSimpArgs false

/-! base -/
theorem w64 {x : Int} (h1 : -9223372036854775808 ≤ x) (h2 : x ≤ 9223372036854775807) : wrap64 x = x := by
  unfold wrap64
  omega

theorem wf64 {x : Int} (h : (Lit.int .i64 x).wf = true) : -9223372036854775808 ≤ x ∧ x ≤ 9223372036854775807 := by
  have h2 : (decide (IntKind.i64.min ≤ x) && decide (x ≤ IntKind.i64.max)) = true := h
  rw [Bool.and_eq_true, decide_eq_true_eq, decide_eq_true_eq] at h2
  exact ⟨h2.1, h2.2⟩

theorem take_set_succ {α : Type} (xs : List α) (i : Nat) (v : α) (h : i < xs.length) : (xs.set i v).take (i + 1) = xs.take i ++ [v] := by
  rw [List.take_succ_eq_append_getElem (by simpa using h), List.take_set_of_le (Nat.le_refl i), List.getElem_set_self]

theorem step64 {i n : Nat} (h : i < n) (hn : n ≤ 4611686018427387904) : wrap64 ((i : Int) + 1) = ((i + 1 : Nat) : Int) := by
  rw [w64 (by omega) (by omega)]
  omega

theorem ev_done {α : Type} {g : Nat → Option α} {r : α} (h : ∀ k, g (k + 1) = some r) : Ev g r := Ev.step (f := fun _ => some r) h (Ev.now r)

theorem ev_const {α : Type} {o : Option α} {r : α} (h : o = some r) : Ev (fun _ => o) r := by
  subst h
  exact Ev.now r

/-! DrawB -/
theorem and255 (n : Int) : Go.bits .and .i64 n 255 = n % 256 := by
  have h255 : (BitVec.ofInt 64 255).toNat = 2 ^ 8 - 1 := by decide
  have key : (BitVec.ofInt 64 n &&& BitVec.ofInt 64 255).toNat = (n % ((2 ^ 64 : Nat) : Int)).toNat % 2 ^ 8 := by
    rw [BitVec.toNat_and, BitVec.toNat_ofInt, h255, Nat.and_two_pow_sub_one_eq_mod]
  show IntKind.i64.wrap ((BitVec.ofInt 64 n &&& BitVec.ofInt 64 255).toNat : Nat) = n % 256
  rw [key, IntKind.wrap_i64]
  omega
theorem byte_r (l : List Int) (p s : Int) (hp : 0 ≤ p) (hl : p ≤ l.length) (hn : l.length ≤ 1048576) : ∃ b q t : Int, spec_l01Byte.f l p s = some (b, q, t) ∧ 0 ≤ b ∧ b ≤ 255 ∧ 0 ≤ q ∧ q ≤ l.length := by
  unfold spec_l01Byte.f
  by_cases h : p < (l.length : Int)
  · rw [if_pos h, if_pos hp]
    refine ⟨_, _, _, rfl, ?_, ?_, ?_, ?_⟩
    · rw [and255]
      omega
    · rw [and255]
      omega
    · rw [w64 (by omega) (by omega)]
      omega
    · rw [w64 (by omega) (by omega)]
      omega
  · rw [if_neg h]
    refine ⟨_, _, _, rfl, ?_, ?_, hp, hl⟩
    · rw [and255]
      omega
    · rw [and255]
      omega
theorem below_r (l : List Int) (p s n : Int) (hp : 0 ≤ p) (hl : p ≤ l.length) (hn : l.length ≤ 1048576) (h0 : 0 < n) (h1 : n ≤ 9223372036854775807) : ∃ b q t : Int, spec_l01Below.f l p s n = some (b, q, t) ∧ 0 ≤ b ∧ b < n ∧ 0 ≤ q ∧ q ≤ l.length := by
  unfold spec_l01Below.f
  rw [if_neg (by omega)]
  by_cases h : n ≤ 256
  · obtain ⟨b, q, t, e, b0, b1, q0, q1⟩ := byte_r l p s hp hl hn
    rw [if_pos h, e]
    simp only [Option.bind_some]
    rw [if_neg (by omega)]
    refine ⟨_, _, _, rfl, ?_, ?_, q0, q1⟩
    · exact Int.tmod_nonneg _ b0
    · exact Int.tmod_lt_of_pos _ h0
  · obtain ⟨b, q, t, e, b0, b1, q0, q1⟩ := byte_r l p s hp hl hn
    obtain ⟨b', q', t', e', b0', b1', q0', q1'⟩ := byte_r l q t q0 q1 hn
    obtain ⟨b2, q2, t2, e2, b02, b12, q02, q12⟩ := byte_r l q' t' q0' q1' hn
    obtain ⟨b3, q3, t3, e3, b03, b13, q03, q13⟩ := byte_r l q2 t2 q02 q12 hn
    rw [if_neg h, e]
    simp only [Option.bind_some, e', e2, e3]
    rw [if_neg (by omega)]
    refine ⟨_, _, _, rfl, ?_, ?_, q03, q13⟩
    · refine Int.tmod_nonneg _ ?_
      rw [w64 (x := b * 16777216) (by omega) (by omega), w64 (x := b' * 65536) (by omega) (by omega), w64 (x := b2 * 256) (by omega) (by omega), w64 (x := b * 16777216 + b' * 65536) (by omega) (by omega), w64 (x := b * 16777216 + b' * 65536 + b2 * 256) (by omega) (by omega), w64 (by omega) (by omega)]
      omega
    · exact Int.tmod_lt_of_pos _ h0
theorem new_l (l : List Int) (hn : l.length ≤ 1048576) : ∀ (d : Nat) (i : Int) (x3 : Int), i + d = 4000 → 0 ≤ i → ∃ s, Ev (fun k => spec_l01New.l0 k l x3 i) (l, 0, s) := by
  intro d
  induction d with
  | zero =>
    intro i x3 hi h0
    refine ⟨x3, ev_done (fun k => ?_)⟩
    simp only [spec_l01New.l0]
    by_cases h : i < (l.length : Int)
    · rw [if_pos h, if_neg (by omega)]
    · rw [if_neg h]
  | succ d ih =>
    intro i x3 hi h0
    by_cases h : i < (l.length : Int)
    · obtain ⟨s, hs⟩ := ih (i + 1) (Go.bits .and .i64 (wrap64 ((wrap64 ((wrap64 (x3 * 131)) + (wrap64 (rd l i)))) + 7)) 1073741823) (by omega) (by omega)
      refine ⟨s, Ev.step (fun k => ?_) hs⟩
      simp only [spec_l01New.l0]
      rw [if_pos h, if_pos (by omega), if_pos h0, w64 (x := i + 1) (by omega) (by omega)]
    · refine ⟨x3, ev_done (fun k => ?_)⟩
      simp only [spec_l01New.l0]
      rw [if_neg h]
theorem new_v (l : List Int) (hn : l.length ≤ 1048576) : ∃ s, Ev (fun k => spec_l01New.f k l) (l, 0, s) := by
  obtain ⟨s, hs⟩ := new_l l hn 4000 0 (wrap64 (28001 + (l.length : Int))) (by omega) (by omega)
  exact ⟨s, hs⟩

/-! DrawPick -/
theorem pick_r (l : List Int) (p s : Int) (xs : List Int) (hp : 0 ≤ p) (hl : p ≤ l.length) (hn : l.length ≤ 1048576) (h0 : 0 < xs.length) (h1 : xs.length ≤ 1048576) : ∃ (i : Nat) (q t : Int), spec_l01PickInt.f l p s xs = some (rd xs (i : Int), q, t) ∧ i < xs.length ∧ 0 ≤ q ∧ q ≤ l.length := by
  obtain ⟨b, q, t, e, b0, b1, q0, q1⟩ := below_r l p s (xs.length : Int) hp hl hn (by omega) (by omega)
  unfold spec_l01PickInt.f
  rw [e]
  simp only [Option.bind_some]
  rw [if_pos b0, if_pos b1]
  refine ⟨b.toNat, q, t, ?_, by omega, q0, q1⟩
  rw [Int.toNat_of_nonneg b0]

/-! spec_l01In -/
theorem spec_l01In_v (a b c : Int) : spec_l01In.f a b c = some (decide (b ≤ a ∧ a ≤ c)) := by
  unfold spec_l01In.f
  by_cases h : a ≥ b
  · rw [if_pos h]
    simp [h]
  · rw [if_neg h]
    simp
    omega

/-! spec_PointOk -/
def pointOkP (a b : Int) : Prop := (-8388608 ≤ a ∧ a ≤ 8388608) ∧ (-8388608 ≤ b ∧ b ≤ 8388608)
instance (a b : Int) : Decidable (pointOkP a b) := by unfold pointOkP; infer_instance
theorem spec_PointOk_v (a b : Int) : spec_PointOk.f a b = some (decide (pointOkP a b)) := by
  unfold spec_PointOk.f pointOkP
  simp only [spec_l01In_v, Option.bind_some, decide_eq_true_eq]
  repeat' split
  all_goals first | (refine congrArg some (decide_eq_decide.mpr ?_); omega) | (refine congrArg some (Eq.symm (decide_eq_false ?_)); omega)

/-! PathB -/
def needB (v : Int) : Int := if v = 1 ∨ v = 2 then 1 else if v = 3 then 2 else if v = 4 then 3 else if v = 5 then 0 else -1
theorem needB_bd (v : Int) : -1 ≤ needB v ∧ needB v ≤ 3 := by
  unfold needB
  repeat' split
  all_goals omega
def prevB (l : List Int) : Nat → Int
  | 0 => 5
  | i + 1 => rd l (i : Int)
def verbsB : Int → List Int → Int → Option Int
  | _, [], n => some n
  | p, v :: vs, n => if needB v < 0 then none else if p = 5 ∧ v ≠ 1 then none else verbsB v vs (n + needB v)
def pointsB (l : List S46) : Bool := l.all (fun p => decide (pointOkP p.f0 p.f1))
def endB (pts : List S46) : Option Int → Bool
  | none => false
  | some m => m == (pts.length : Int)
def pathB (l : List Int) (pts : List S46) : Bool := decide (pts.length ≤ 24) && (decide (l.length ≤ 24) && (pointsB pts && endB pts (verbsB 5 l 0)))

/-! rd_int -/
theorem rd_int (xs : List Int) (i : Nat) (h : i < xs.length) : rd xs (i : Int) = xs[i] := by
  unfold rd
  simp [h]

/-! rd_impl_Point -/
theorem rd_impl_Point (xs : List S46) (i : Nat) (h : i < xs.length) : rd_T46 xs (i : Int) = xs[i] := by
  unfold rd_T46
  simp [h]

/-! PathOk_spec -/
theorem spec_NeedOf_v (v : Int) : spec_NeedOf.f v = some (needB v) := by
  unfold spec_NeedOf.f
  simp only [spec_l01In_v, Option.bind_some]
  by_cases h : 1 ≤ v ∧ v ≤ 5
  · rw [decide_eq_true h, if_pos rfl]
    have h5 : v = 1 ∨ v = 2 ∨ v = 3 ∨ v = 4 ∨ v = 5 := by omega
    rcases h5 with rfl | rfl | rfl | rfl | rfl <;> simp [wrap64, rd, needB]
  · rw [decide_eq_false h, if_neg (by simp)]
    unfold needB
    rw [if_neg (by omega), if_neg (by omega), if_neg (by omega), if_neg (by omega)]
theorem spec_points_l (l : List Int) (pts : List S46) (n : Int) (hn : pts.length ≤ 1048576) : ∀ (d i : Nat), i + d = pts.length → Ev (fun k => spec_PathOk.l1 k n (i : Int) l pts) (pointsB (pts.drop i) && (n == (pts.length : Int))) := by
  intro d
  induction d with
  | zero =>
    intro i hi
    refine ev_done (fun k => ?_)
    simp only [spec_PathOk.l1]
    rw [if_neg (by omega), List.drop_of_length_le (by omega)]
    rfl
  | succ d ih =>
    intro i hi
    have hi2 : i < pts.length := by omega
    rw [List.drop_eq_getElem_cons hi2, pointsB, List.all_cons]
    by_cases hx : pointOkP pts[i].f0 pts[i].f1
    · rw [decide_eq_true hx, Bool.true_and]
      refine Ev.step (fun k => ?_) (ih (i + 1) (by omega))
      simp only [spec_PathOk.l1, spec_PointOk_v, Option.bind_some]
      rw [if_pos (by omega), if_pos (by omega), rd_impl_Point _ _ hi2, step64 hi2 (by omega), if_pos (by simpa using hx)]
    · rw [decide_eq_false hx, Bool.false_and, Bool.false_and]
      refine ev_done (fun k => ?_)
      simp only [spec_PathOk.l1, spec_PointOk_v, Option.bind_some]
      rw [if_pos (by omega), if_pos (by omega), rd_impl_Point _ _ hi2, if_neg (by simpa using hx)]
theorem spec_path_l (l : List Int) (pts : List S46) (hn : l.length ≤ 24) (hp : pts.length ≤ 24) : ∀ (d i : Nat) (n : Int), i + d = l.length → 0 ≤ n → n ≤ 3 * (i : Int) →
    Ev (fun k => spec_PathOk.l0 k n (i : Int) l pts) (pointsB pts && endB pts (verbsB (prevB l i) (l.drop i) n)) := by
  intro d
  induction d with
  | zero =>
    intro i n hi h0 h1
    rw [List.drop_of_length_le (by omega)]
    refine Ev.step (fun k => ?_) (spec_points_l l pts n (by omega) pts.length 0 (by omega))
    simp only [spec_PathOk.l0]
    rw [if_neg (by omega)]
    rfl
  | succ d ih =>
    intro i n hi h0 h1
    have hi2 : i < l.length := by omega
    have hb := needB_bd l[i]
    have hno : (pointsB pts && false) = false := Bool.and_false _
    rw [List.drop_eq_getElem_cons hi2, verbsB]
    by_cases hneg : needB l[i] < 0
    · rw [if_pos hneg]
      show Ev _ (pointsB pts && false)
      rw [hno]
      refine ev_done (fun k => ?_)
      simp only [spec_PathOk.l0, rd_int _ _ hi2, spec_NeedOf_v, Option.bind_some]
      rw [if_pos (by omega), if_pos (by omega), if_pos hneg]
    · rw [if_neg hneg]
      have hr := ih (i + 1) (n + needB l[i]) (by omega) (by omega) (by omega)
      rw [show prevB l (i + 1) = l[i] from rd_int l i hi2] at hr
      cases i with
      | zero =>
        by_cases hv : l[0] = 1
        · rw [if_neg (fun h => h.2 hv)]
          refine Ev.step (fun k => ?_) hr
          simp only [spec_PathOk.l0, rd_int _ _ hi2, spec_NeedOf_v, Option.bind_some]
          rw [if_pos (by omega), if_pos (by omega), if_neg hneg, if_pos (by omega), if_pos hv, w64 (x := n + needB l[0]) (by omega) (by omega), step64 hi2 (by omega)]
        · rw [if_pos ⟨rfl, hv⟩]
          show Ev _ (pointsB pts && false)
          rw [hno]
          refine ev_done (fun k => ?_)
          simp only [spec_PathOk.l0, rd_int _ _ hi2, spec_NeedOf_v, Option.bind_some]
          rw [if_pos (by omega), if_pos (by omega), if_neg hneg, if_pos (by omega), if_neg hv]
      | succ j =>
        have ej : wrap64 (((j + 1 : Nat) : Int) - 1) = (j : Int) := by rw [w64 (by omega) (by omega)]; omega
        show Ev _ (pointsB pts && endB pts (if rd l (j : Int) = 5 ∧ l[j + 1] ≠ 1 then none else _))
        by_cases hp5 : rd l (j : Int) = 5
        · by_cases hv : l[j + 1] = 1
          · rw [if_neg (fun h => h.2 hv)]
            refine Ev.step (fun k => ?_) hr
            simp only [spec_PathOk.l0, rd_int _ _ hi2, spec_NeedOf_v, Option.bind_some, ej]
            rw [if_pos (by omega), if_pos (by omega), if_neg hneg, if_neg (by omega), if_pos (by omega), if_pos (by omega), if_pos hp5, if_pos hv, w64 (x := n + needB l[j + 1]) (by omega) (by omega), step64 hi2 (by omega)]
          · rw [if_pos ⟨hp5, hv⟩]
            show Ev _ (pointsB pts && false)
            rw [hno]
            refine ev_done (fun k => ?_)
            simp only [spec_PathOk.l0, rd_int _ _ hi2, spec_NeedOf_v, Option.bind_some, ej]
            rw [if_pos (by omega), if_pos (by omega), if_neg hneg, if_neg (by omega), if_pos (by omega), if_pos (by omega), if_pos hp5, if_neg hv]
        · rw [if_neg (fun h => hp5 h.1)]
          refine Ev.step (fun k => ?_) hr
          simp only [spec_PathOk.l0, rd_int _ _ hi2, spec_NeedOf_v, Option.bind_some, ej]
          rw [if_pos (by omega), if_pos (by omega), if_neg hneg, if_neg (by omega), if_pos (by omega), if_pos (by omega), if_neg hp5, w64 (x := n + needB l[j + 1]) (by omega) (by omega), step64 hi2 (by omega)]
theorem spec_PathOk_v (l : List Int) (pts : List S46) : Ev (fun k => spec_PathOk.f k l pts) (pathB l pts) := by
  unfold spec_PathOk.f pathB
  have hno : Ev (fun k => spec_PathOk.j0 k true l pts) false := ev_done (fun k => rfl)
  by_cases h1 : pts.length ≤ 24
  · rw [decide_eq_true h1, Bool.true_and]
    simp only [if_neg (show ¬ (pts.length : Int) > 24 by omega)]
    by_cases h2 : l.length ≤ 24
    · rw [decide_eq_true h2, Bool.true_and, decide_eq_false (show ¬ (l.length : Int) > 24 by omega)]
      exact Ev.step (fun k => rfl) (spec_path_l l pts h2 h1 l.length 0 0 (by omega) (by omega) (by omega))
    · rw [decide_eq_false h2, Bool.false_and, decide_eq_true (show (l.length : Int) > 24 by omega)]
      exact hno
  · rw [decide_eq_false h1, Bool.false_and]
    simp only [if_pos (show (pts.length : Int) > 24 by omega)]
    exact hno

/-! impl_inRange -/
theorem impl_inRange_v (a b c : Int) : impl_inRange.f a b c = some (decide (b ≤ a ∧ a ≤ c)) := by
  unfold impl_inRange.f
  by_cases h : a ≥ b
  · rw [if_pos h]
    simp [h]
  · rw [if_neg h]
    simp
    omega

/-! impl_isFar -/
theorem impl_isFar_v (a : Int) : impl_isFar.f a = some (decide (-8388608 ≤ a ∧ a ≤ 8388608)) := by
  unfold impl_isFar.f
  simp only [impl_inRange_v, Option.bind_some]

/-! impl_PointOk -/
theorem impl_PointOk_v (a b : Int) : impl_PointOk.f a b = some (decide (pointOkP a b)) := by
  unfold impl_PointOk.f pointOkP
  simp only [impl_isFar_v, Option.bind_some, decide_eq_true_eq]
  repeat' split
  all_goals first | (refine congrArg some (decide_eq_decide.mpr ?_); omega) | (refine congrArg some (Eq.symm (decide_eq_false ?_)); omega)

/-! PathOk -/
theorem impl_NeedOf_v (v : Int) : Ev (fun k => impl_NeedOf.f k v) (needB v) := by
  unfold impl_NeedOf.f needB
  by_cases h1 : v = 1
  · subst h1
    exact ev_done (fun k => rfl)
  · simp only [if_neg h1]
    by_cases h2 : v = 2
    · subst h2
      exact ev_done (fun k => rfl)
    · refine ev_done (fun k => ?_)
      simp only [impl_NeedOf.j0]
      have e : (v == 2) = false := beq_eq_false_iff_ne.mpr h2
      rw [if_neg (by simp [e]), if_neg (show ¬ (v = 1 ∨ v = 2) by omega)]
      repeat' split
      all_goals rfl
theorem impl_pointsOk_l (l : List S46) (hn : l.length ≤ 1048576) : ∀ (d i : Nat), i + d = l.length → Ev (fun k => impl_pointsOk.l0 k l (l.length : Int) (i : Int)) (pointsB (l.drop i)) := by
  intro d
  induction d with
  | zero =>
    intro i hi
    refine ev_done (fun k => ?_)
    simp only [impl_pointsOk.l0]
    rw [if_neg (by omega), List.drop_of_length_le (by omega)]
    rfl
  | succ d ih =>
    intro i hi
    have hi2 : i < l.length := by omega
    rw [List.drop_eq_getElem_cons hi2, pointsB, List.all_cons]
    by_cases hx : pointOkP l[i].f0 l[i].f1
    · rw [decide_eq_true hx, Bool.true_and]
      refine Ev.step (fun k => ?_) (ih (i + 1) (by omega))
      simp only [impl_pointsOk.l0, impl_PointOk_v, Option.bind_some]
      rw [if_pos (by omega), if_pos (by omega), if_pos (by omega), rd_impl_Point _ _ hi2, step64 hi2 (by omega), if_pos (by simpa using hx)]
    · rw [decide_eq_false hx, Bool.false_and]
      refine ev_done (fun k => ?_)
      simp only [impl_pointsOk.l0, impl_PointOk_v, Option.bind_some]
      rw [if_pos (by omega), if_pos (by omega), if_pos (by omega), rd_impl_Point _ _ hi2, if_neg (by simpa using hx)]
theorem impl_path_l (l : List Int) (pts : List S46) (hn : l.length ≤ 24) : ∀ (d i : Nat) (n : Int), i + d = l.length → 0 ≤ n → n ≤ 3 * (i : Int) →
    Ev (fun k => impl_PathOk.l0 k n l (l.length : Int) (i : Int) l pts) (endB pts (verbsB (prevB l i) (l.drop i) n)) := by
  intro d
  induction d with
  | zero =>
    intro i n hi h0 h1
    refine ev_done (fun k => ?_)
    simp only [impl_PathOk.l0]
    rw [if_neg (by omega), List.drop_of_length_le (by omega)]
    rfl
  | succ d ih =>
    intro i n hi h0 h1
    have hi2 : i < l.length := by omega
    have hb := needB_bd l[i]
    rw [List.drop_eq_getElem_cons hi2, verbsB]
    refine Ev.step (fun k => rfl) ?_
    simp only [impl_PathOk.l0, if_pos (show (i : Int) < (l.length : Int) by omega), if_pos (show (0 : Int) ≤ (i : Int) by omega), rd_int _ _ hi2]
    refine Ev.bind (impl_NeedOf_v _) ?_
    by_cases hneg : needB l[i] < 0
    · rw [if_pos hneg]
      simp only [if_pos hneg]
      cases i with
      | zero => exact Ev.now _
      | succ j =>
        simp only [if_neg (show ¬ ((j + 1 : Nat) : Int) = 0 by omega), w64 (x := ((j + 1 : Nat) : Int) - 1) (by omega) (by omega)]
        rw [if_pos (by omega), if_pos (by omega)]
        exact Ev.now _
    · rw [if_neg hneg]
      simp only [if_neg hneg, w64 (x := n + needB l[i]) (by omega) (by omega), step64 hi2 (show l.length ≤ 4611686018427387904 by omega)]
      have hr := ih (i + 1) (n + needB l[i]) (by omega) (by omega) (by omega)
      rw [show prevB l (i + 1) = l[i] from rd_int l i hi2] at hr
      cases i with
      | zero =>
        simp only [if_pos (show ((0 : Nat) : Int) = 0 from rfl)]
        by_cases hv : l[0] = 1
        · rw [if_neg (fun h => h.2 hv)]
          simp only [if_pos hv]
          exact hr
        · rw [if_pos ⟨rfl, hv⟩]
          simp only [if_neg hv]
          exact Ev.now _
      | succ j =>
        simp only [if_neg (show ¬ ((j + 1 : Nat) : Int) = 0 by omega), w64 (x := ((j + 1 : Nat) : Int) - 1) (by omega) (by omega)]
        simp only [show ((j + 1 : Nat) : Int) - 1 = (j : Int) by omega, if_pos (show (0 : Int) ≤ (j : Int) by omega), if_pos (show (j : Int) < (l.length : Int) by omega)]
        show Ev _ (endB pts (if rd l (j : Int) = 5 ∧ l[j + 1] ≠ 1 then none else _))
        by_cases hp : rd l (j : Int) = 5
        · simp only [if_pos hp]
          by_cases hv : l[j + 1] = 1
          · rw [if_neg (fun h => h.2 hv)]
            simp only [if_pos hv]
            exact hr
          · rw [if_pos ⟨hp, hv⟩]
            simp only [if_neg hv]
            exact Ev.now _
        · rw [if_neg (fun h => hp h.1)]
          simp only [if_neg hp]
          exact hr
theorem impl_PathOk_v (l : List Int) (pts : List S46) : Ev (fun k => impl_PathOk.f k l pts) (pathB l pts) := by
  unfold impl_PathOk.f pathB
  have hno : Ev (fun k => impl_PathOk.j0 k true l pts) false := ev_done (fun k => rfl)
  by_cases h1 : pts.length ≤ 24
  · rw [decide_eq_true h1, Bool.true_and]
    simp only [if_neg (show ¬ (pts.length : Int) > 24 by omega)]
    by_cases h2 : l.length ≤ 24
    · rw [decide_eq_true h2, Bool.true_and]
      simp only [if_neg (show ¬ (l.length : Int) > 24 by omega)]
      have hp : Ev (fun k => impl_pointsOk.f k pts) (pointsB pts) := impl_pointsOk_l pts (by omega) pts.length 0 (by omega)
      refine Ev.bind hp ?_
      cases pointsB pts with
      | true => exact Ev.step (fun k => rfl) (impl_path_l l pts h2 l.length 0 0 (by omega) (by omega) (by omega))
      | false => exact hno
    · rw [decide_eq_false h2, Bool.false_and]
      simp only [if_pos (show (l.length : Int) > 24 by omega)]
      exact hno
  · rw [decide_eq_false h1, Bool.false_and]
    simp only [if_pos (show (pts.length : Int) > 24 by omega)]
    exact hno

/-! spec_FloorDiv -/
theorem spec_FloorDiv_tot (a b : Int) : ∃ q, spec_FloorDiv.f a b = some q := by
  unfold spec_FloorDiv.f
  by_cases h : b < 1
  · exact ⟨0, by rw [if_pos h]⟩
  · rw [if_neg h, if_neg (by omega)]
    split <;> exact ⟨_, rfl⟩
theorem spec_FloorDiv_v {a b : Int} (ha : -9223372036854775808 ≤ a) (ha2 : a ≤ 9223372036854775807) (hb : 1 ≤ b) (hb2 : b ≤ 9223372036854775807) : spec_FloorDiv.f a b = some (a / b) := by
  have hq : -9223372036854775808 ≤ a / b ∧ a / b ≤ 9223372036854775807 := by
    refine ⟨(Int.le_ediv_iff_mul_le (by omega)).mpr ?_, ?_⟩
    · have : 9223372036854775808 * 1 ≤ 9223372036854775808 * b := Int.mul_le_mul_of_nonneg_left hb (by omega)
      rw [Int.neg_mul]
      omega
    · rcases Int.le_total 0 a with h | h
      · exact Int.le_trans (Int.ediv_le_self b h) ha2
      · have : a / b ≤ 0 := Int.ediv_le_of_le_mul (by omega) (by omega)
        omega
  have hm := Int.emod_nonneg a (show b ≠ 0 by omega)
  have hml := Int.emod_lt_of_pos a (show 0 < b by omega)
  have hd := Int.mul_ediv_add_emod a b
  unfold spec_FloorDiv.f
  rw [if_neg (by omega), if_neg (by omega)]
  by_cases h0 : 0 ≤ a
  · rw [Int.tmod_eq_emod_of_nonneg h0, if_neg (by omega), Int.tdiv_eq_ediv_of_nonneg h0, w64 hq.1 hq.2]
  · have e1 : Int.tdiv a b = if a % b = 0 then a / b else a / b + 1 := by
      rw [Int.tdiv_eq_ediv]
      have hs : b.sign = 1 := Int.sign_eq_one_of_pos (by omega)
      by_cases hz : a % b = 0
      · rw [if_pos hz, if_pos (.inr (Int.dvd_of_emod_eq_zero hz))]
        omega
      · rw [if_neg hz, if_neg (by
          rintro (h | h)
          · omega
          · exact hz (Int.emod_eq_zero_of_dvd h)), hs]
    have e2 : Int.tmod a b = a - b * Int.tdiv a b := by have := Int.mul_tdiv_add_tmod a b; omega
    by_cases hz : a % b = 0
    · rw [if_pos hz] at e1
      rw [if_neg (by rw [e2, e1]; omega), e1, w64 hq.1 hq.2]
    · rw [if_neg hz] at e1
      have hlt : a / b + 1 ≤ 0 := by
        have : a / b < 0 := Int.ediv_neg_of_neg_of_pos (by omega) (by omega)
        omega
      rw [if_pos (by rw [e2, e1, Int.mul_add]; omega), e1, w64 (x := a / b + 1) (by omega) (by omega), w64 (by omega) (by omega)]
      congr 1
      omega

/-! spec_RoundDiv -/
theorem spec_RoundDiv_tot (a b : Int) : ∃ q, spec_RoundDiv.f a b = some q := by
  obtain ⟨q, hq⟩ := spec_FloorDiv_tot a b
  unfold spec_RoundDiv.f
  rw [hq, Option.bind_some]
  split
  · exact ⟨_, rfl⟩
  · split <;> exact ⟨_, rfl⟩

/-! impl_FloorDiv -/
theorem impl_FloorDiv_s (a b : Int) : impl_FloorDiv.f a b = spec_FloorDiv.f a b := rfl

/-! impl_RoundDiv -/
theorem impl_RoundDiv_s (a b : Int) : impl_RoundDiv.f a b = spec_RoundDiv.f a b := rfl

/-! Clamp -/
def clampI (x low high : Int) : Int := if x < low then low else if x > high then high else x
theorem spec_Clamp_v (x low high : Int) : spec_Clamp.f x low high = some (clampI x low high) := by
  unfold spec_Clamp.f clampI
  split
  · rfl
  · split <;> rfl
theorem impl_Clamp_v (x low high : Int) : impl_Clamp.f x low high = some (clampI x low high) := by
  unfold impl_Clamp.f clampI
  split
  · rfl
  · split <;> rfl

/-! FlatQ -/
abbrev Pt := S46
theorem ww (x : Int) : wrap64 (wrap64 x) = wrap64 x := by
  unfold wrap64
  omega
def rdV (x b : Int) : Int := (spec_RoundDiv.f x b).getD 0
theorem spec_rd_v (x b : Int) : spec_RoundDiv.f x b = some (rdV x b) := by
  obtain ⟨q, h⟩ := spec_RoundDiv_tot x b
  unfold rdV
  rw [h]
  rfl
theorem impl_rd_v (x b : Int) : impl_RoundDiv.f x b = some (rdV x b) := by
  rw [impl_RoundDiv_s, spec_rd_v]
def q0 (t : Int) : Int := wrap64 ((wrap64 (4 - t)) * (wrap64 (4 - t)))
def q1 (t : Int) : Int := wrap64 ((wrap64 (2 * t)) * (wrap64 (4 - t)))
def q2 (t : Int) : Int := wrap64 (t * t)
def quadV (a c e t : Int) : Int := rdV (wrap64 ((wrap64 ((wrap64 (q0 t * a)) + (wrap64 (q1 t * c)))) + (wrap64 (q2 t * e)))) 16
def c0 (t : Int) : Int := wrap64 ((wrap64 ((wrap64 (8 - t)) * (wrap64 (8 - t)))) * (wrap64 (8 - t)))
def c1 (t : Int) : Int := wrap64 ((wrap64 ((wrap64 (3 * t)) * (wrap64 (8 - t)))) * (wrap64 (8 - t)))
def c2 (t : Int) : Int := wrap64 ((wrap64 ((wrap64 (3 * t)) * t)) * (wrap64 (8 - t)))
def c3 (t : Int) : Int := wrap64 ((wrap64 (t * t)) * t)
def cubV (a c e g t : Int) : Int := rdV (wrap64 ((wrap64 ((wrap64 ((wrap64 (c0 t * a)) + (wrap64 (c1 t * c)))) + (wrap64 (c2 t * e)))) + (wrap64 (c3 t * g)))) 512
def okPt (p : Pt) : Bool := decide (pointOkP p.f0 p.f1)
def quadP (a b c : Pt) (i : Int) : Pt := if okPt a = true ∧ okPt b = true ∧ okPt c = true then ⟨quadV a.f0 b.f0 c.f0 (clampI i 0 4), quadV a.f1 b.f1 c.f1 (clampI i 0 4)⟩ else ⟨0, 0⟩
def cubP (a b c d : Pt) (i : Int) : Pt := if okPt a = true ∧ okPt b = true ∧ okPt c = true ∧ okPt d = true then ⟨cubV a.f0 b.f0 c.f0 d.f0 (clampI i 0 8), cubV a.f1 b.f1 c.f1 d.f1 (clampI i 0 8)⟩ else ⟨0, 0⟩
theorem spec_quad_v (a b c : Pt) (i : Int) : Ev (fun k => spec_QuadAt.f k a.f0 a.f1 b.f0 b.f1 c.f0 c.f1 i) ((quadP a b c i).f0, (quadP a b c i).f1) := by
  have h0 : Ev (fun k => spec_QuadAt.j0 k i true a.f0 a.f1 b.f0 b.f1 c.f0 c.f1) (0, 0) := ev_done (fun k => rfl)
  have h1 : Ev (fun k => spec_QuadAt.j0 k i false a.f0 a.f1 b.f0 b.f1 c.f0 c.f1) (quadV a.f0 b.f0 c.f0 (clampI i 0 4), quadV a.f1 b.f1 c.f1 (clampI i 0 4)) := ev_done (fun k => by
    simp only [spec_QuadAt.j0, Bool.false_eq_true, if_false, spec_Clamp_v, spec_rd_v, Option.bind_some]
    rfl)
  unfold spec_QuadAt.f quadP okPt
  simp only [spec_PointOk_v, Option.bind_some]
  cases decide (pointOkP a.f0 a.f1) with
  | false => exact h0
  | true =>
    cases decide (pointOkP b.f0 b.f1) with
    | false => exact h0
    | true =>
      cases decide (pointOkP c.f0 c.f1) with
      | false => exact h0
      | true => exact h1
theorem spec_cubic_v (a b c d : Pt) (i : Int) : Ev (fun k => spec_CubicAt.f k a.f0 a.f1 b.f0 b.f1 c.f0 c.f1 d.f0 d.f1 i) ((cubP a b c d i).f0, (cubP a b c d i).f1) := by
  have h0 : Ev (fun k => spec_CubicAt.j0 k i true a.f0 a.f1 b.f0 b.f1 c.f0 c.f1 d.f0 d.f1) (0, 0) := ev_done (fun k => rfl)
  have h1 : Ev (fun k => spec_CubicAt.j0 k i false a.f0 a.f1 b.f0 b.f1 c.f0 c.f1 d.f0 d.f1) (cubV a.f0 b.f0 c.f0 d.f0 (clampI i 0 8), cubV a.f1 b.f1 c.f1 d.f1 (clampI i 0 8)) := ev_done (fun k => by
    simp only [spec_CubicAt.j0, Bool.false_eq_true, if_false, spec_Clamp_v, spec_rd_v, Option.bind_some]
    rfl)
  unfold spec_CubicAt.f cubP okPt
  simp only [spec_PointOk_v, Option.bind_some]
  cases decide (pointOkP a.f0 a.f1) with
  | false => exact h0
  | true =>
    cases decide (pointOkP b.f0 b.f1) with
    | false => exact h0
    | true =>
      cases decide (pointOkP c.f0 c.f1) with
      | false => exact h0
      | true =>
        cases decide (pointOkP d.f0 d.f1) with
        | false => exact h0
        | true => exact h1
theorem impl_points_v (l : List Pt) (hn : l.length ≤ 1048576) : Ev (fun k => impl_pointsOk.f k l) (pointsB l) := impl_pointsOk_l l hn l.length 0 (by omega)
theorem weighed_s (ps : List Pt) (ws : List Int) (by_ : Int) (hn : ps.length ≤ 1048576) (hw : ws.length = ps.length) (i : Nat) (hi : i < ps.length) (x y : Int) (k : Nat) : impl_weighed.l0 (k + 1) ws by_ x y ps (ps.length : Int) (i : Int) = impl_weighed.l0 k ws by_ (wrap64 (x + wrap64 (ps[i].f0 * ws[i]))) (wrap64 (y + wrap64 (ps[i].f1 * ws[i]))) ps (ps.length : Int) ((i + 1 : Nat) : Int) := by
  simp only [impl_weighed.l0]
  rw [if_pos (by omega), if_pos (by omega), if_pos (by omega), if_pos (by omega), rd_impl_Point ps i hi, rd_int ws i (by omega), step64 hi (by omega)]
theorem weighed_e (ps : List Pt) (ws : List Int) (by_ : Int) (i : Nat) (hi : i = ps.length) (x y : Int) (k : Nat) : impl_weighed.l0 (k + 1) ws by_ x y ps (ps.length : Int) (i : Int) = some (rdV x by_, rdV y by_) := by
  simp only [impl_weighed.l0]
  rw [if_neg (by omega), impl_rd_v, impl_rd_v]
  rfl
theorem impl_quad_v (a b c : Pt) (i : Int) : Ev (fun k => impl_QuadAt.f k a.f0 a.f1 b.f0 b.f1 c.f0 c.f1 i) ((quadP a b c i).f0, (quadP a b c i).f1) := by
  unfold impl_QuadAt.f
  simp only [impl_Clamp_v, Option.bind_some]
  generalize ht : clampI i 0 4 = t
  refine Ev.bind (?_ : Ev _ ((quadP a b c i).f0, (quadP a b c i).f1)) (Ev.now _)
  unfold impl_weighed.f
  refine Ev.bind (impl_points_v [a, b, c] (by simp)) ?_
  have e : pointsB [a, b, c] = (okPt a && (okPt b && okPt c)) := by simp [pointsB, okPt]
  rw [e]
  by_cases h : okPt a = true ∧ okPt b = true ∧ okPt c = true
  · unfold quadP
    rw [if_pos h, h.1, h.2.1, h.2.2, ht]
    simp only [Bool.and_self, if_true]
    have hs := weighed_s [a, b, c] [q0 t, q1 t, q2 t] 16 (by simp) rfl
    refine Ev.step (fun k => hs 0 (by simp) 0 0 k) (Ev.step (fun k => hs 1 (by simp) _ _ k) (Ev.step (fun k => hs 2 (by simp) _ _ k) (ev_done (fun k => ?_))))
    rw [weighed_e [a, b, c] [q0 t, q1 t, q2 t] 16 3 rfl]
    simp only [List.getElem_cons_zero, List.getElem_cons_succ, Int.zero_add, ww, Int.mul_comm _ (q0 t), Int.mul_comm _ (q1 t), Int.mul_comm _ (q2 t)]
    rfl
  · unfold quadP
    rw [if_neg h]
    have e2 : (okPt a && (okPt b && okPt c)) = false := by
      cases h1 : okPt a <;> cases h2 : okPt b <;> cases h3 : okPt c <;> simp_all
    rw [e2]
    exact Ev.now _
theorem impl_cubic_v (a b c d : Pt) (i : Int) : Ev (fun k => impl_CubicAt.f k a.f0 a.f1 b.f0 b.f1 c.f0 c.f1 d.f0 d.f1 i) ((cubP a b c d i).f0, (cubP a b c d i).f1) := by
  unfold impl_CubicAt.f
  simp only [impl_Clamp_v, Option.bind_some]
  generalize ht : clampI i 0 8 = t
  refine Ev.bind (?_ : Ev _ ((cubP a b c d i).f0, (cubP a b c d i).f1)) (Ev.now _)
  unfold impl_weighed.f
  refine Ev.bind (impl_points_v [a, b, c, d] (by simp)) ?_
  have e : pointsB [a, b, c, d] = (okPt a && (okPt b && (okPt c && okPt d))) := by simp [pointsB, okPt]
  rw [e]
  by_cases h : okPt a = true ∧ okPt b = true ∧ okPt c = true ∧ okPt d = true
  · unfold cubP
    rw [if_pos h, h.1, h.2.1, h.2.2.1, h.2.2.2, ht]
    simp only [Bool.and_self, if_true]
    have hs := weighed_s [a, b, c, d] [c0 t, c1 t, c2 t, c3 t] 512 (by simp) rfl
    refine Ev.step (fun k => hs 0 (by simp) 0 0 k) (Ev.step (fun k => hs 1 (by simp) _ _ k) (Ev.step (fun k => hs 2 (by simp) _ _ k) (Ev.step (fun k => hs 3 (by simp) _ _ k) (ev_done (fun k => ?_)))))
    rw [weighed_e [a, b, c, d] [c0 t, c1 t, c2 t, c3 t] 512 4 rfl]
    simp only [List.getElem_cons_zero, List.getElem_cons_succ, Int.zero_add, ww, Int.mul_comm _ (c0 t), Int.mul_comm _ (c1 t), Int.mul_comm _ (c2 t), Int.mul_comm _ (c3 t)]
    rfl
  · unfold cubP
    rw [if_neg h]
    have e2 : (okPt a && (okPt b && (okPt c && okPt d))) = false := by
      cases h1 : okPt a <;> cases h2 : okPt b <;> cases h3 : okPt c <;> cases h4 : okPt d <;> simp_all
    rw [e2]
    exact Ev.now _

/-! rd_impl_PointSS -/
theorem rd_impl_PointSS (xs : List (List S46)) (i : Nat) (h : i < xs.length) : rd_L2 xs (i : Int) = xs[i] := by
  unfold rd_L2
  simp [h]

/-! FlatMain -/
def qFrom (a b c : Pt) : Nat → List Pt
  | 0 => []
  | m + 1 => quadP a b c (4 - (m : Int)) :: qFrom a b c m
def cFrom (a b c d : Pt) : Nat → List Pt
  | 0 => []
  | m + 1 => cubP a b c d (8 - (m : Int)) :: cFrom a b c d m
theorem qFrom_length (a b c : Pt) : ∀ m, (qFrom a b c m).length = m
  | 0 => rfl
  | m + 1 => by rw [qFrom, List.length_cons, qFrom_length a b c m]
theorem cFrom_length (a b c d : Pt) : ∀ m, (cFrom a b c d m).length = m
  | 0 => rfl
  | m + 1 => by rw [cFrom, List.length_cons, cFrom_length a b c d m]
abbrev pAt (l : List Pt) (i : Int) : Pt := rd_T46 l i
def lastP (now : List Pt) : Pt := pAt now ((now.length : Int) - 1)
def neP (a b : Pt) : Bool := !(a.f0 == b.f0) || !(a.f1 == b.f1)
def addF (v : Int) (ps now : List Pt) : List Pt :=
  if v = 2 then [pAt ps 0] else if v = 3 then qFrom (lastP now) (pAt ps 0) (pAt ps 1) 4 else if v = 4 then cFrom (lastP now) (pAt ps 0) (pAt ps 1) (pAt ps 2) 8 else if neP (pAt now 0) (lastP now) = true then [pAt now 0] else []
def closed (out : List (List Pt)) (now : List Pt) : List (List Pt) := if 0 < now.length then out ++ [now] else out
def flatF : List Int → List Pt → List (List Pt) → List Pt → List (List Pt)
  | [], _, out, now => closed out now
  | v :: vs, ps, out, now => if v = 1 then flatF vs (ps.drop 1) (closed out now) [pAt ps 0] else flatF vs (ps.drop (needB v).toNat) out (now ++ addF v ps now)
theorem addF_length (v : Int) (ps now : List Pt) : (addF v ps now).length ≤ 8 := by
  unfold addF
  repeat' split
  all_goals simp [qFrom_length, cFrom_length]
theorem flatten_one (v a b : Int) (ps : List Pt) (hv : v = 1 ∨ v = 2) (hp : 0 < ps.length) : Ev (fun k => impl_flatten.f k v a b ps) [pAt ps 0] := by
  unfold impl_flatten.f
  rcases hv with rfl | rfl
  · refine ev_done (fun k => ?_)
    simp only [impl_flatten.j0, if_pos]
    rw [if_pos (by decide), if_pos (by omega), if_pos (by simp)]
    rfl
  · refine ev_done (fun k => ?_)
    simp only [impl_flatten.j0]
    rw [if_neg (by omega), if_pos (by decide), if_pos (by omega), if_pos (by simp)]
    rfl
theorem flatten_none (v a b : Int) (ps : List Pt) (hv : v = 5) : Ev (fun k => impl_flatten.f k v a b ps) [] := by
  subst hv
  unfold impl_flatten.f
  refine ev_done (fun k => ?_)
  simp only [impl_flatten.j0]
  rw [if_neg (by omega), if_neg (by decide), if_neg (by omega), if_neg (by omega)]
theorem flatten_q (p : Pt) (ps : List Pt) (hp : 2 ≤ ps.length) : ∀ (m : Nat) (acc : List Pt), m ≤ 4 → acc.length + m ≤ 100 → Ev (fun k => impl_flatten.l0 k ps acc (5 - (m : Int)) p.f0 p.f1) (acc ++ qFrom p (pAt ps 0) (pAt ps 1) m) := by
  intro m
  induction m with
  | zero =>
    intro acc _ _
    refine ev_done (fun k => ?_)
    simp only [impl_flatten.l0]
    rw [if_neg (by omega), qFrom, List.append_nil]
  | succ m ih =>
    intro acc hm hl
    have e : (5 : Int) - ((m + 1 : Nat) : Int) = 4 - (m : Int) := by omega
    rw [e, qFrom]
    have h := ih (acc ++ [quadP p (pAt ps 0) (pAt ps 1) (4 - (m : Int))]) (by omega) (by simp; omega)
    rw [List.append_assoc, List.singleton_append] at h
    refine Ev.step (fun k => rfl) ?_
    simp only [impl_flatten.l0, if_pos (show 4 - (m : Int) ≤ 4 by omega), if_pos (show (0 : Int) < (ps.length : Int) by omega), if_pos (show (1 : Int) < (ps.length : Int) by omega)]
    refine Ev.bind (impl_quad_v p (pAt ps 0) (pAt ps 1) (4 - (m : Int))) ?_
    simp only [if_pos (show acc.length < 8796093022208 by omega), show (4 : Int) - (m : Int) + 1 = 5 - (m : Int) by omega, w64 (x := 5 - (m : Int)) (by omega) (by omega)]
    exact h
theorem flatten_c (p : Pt) (ps : List Pt) (hp : 3 ≤ ps.length) : ∀ (m : Nat) (acc : List Pt), m ≤ 8 → acc.length + m ≤ 100 → Ev (fun k => impl_flatten.l1 k ps acc (9 - (m : Int)) p.f0 p.f1) (acc ++ cFrom p (pAt ps 0) (pAt ps 1) (pAt ps 2) m) := by
  intro m
  induction m with
  | zero =>
    intro acc _ _
    refine ev_done (fun k => ?_)
    simp only [impl_flatten.l1]
    rw [if_neg (by omega), cFrom, List.append_nil]
  | succ m ih =>
    intro acc hm hl
    have e : (9 : Int) - ((m + 1 : Nat) : Int) = 8 - (m : Int) := by omega
    rw [e, cFrom]
    have h := ih (acc ++ [cubP p (pAt ps 0) (pAt ps 1) (pAt ps 2) (8 - (m : Int))]) (by omega) (by simp; omega)
    rw [List.append_assoc, List.singleton_append] at h
    refine Ev.step (fun k => rfl) ?_
    simp only [impl_flatten.l1, if_pos (show 8 - (m : Int) ≤ 8 by omega), if_pos (show (0 : Int) < (ps.length : Int) by omega), if_pos (show (1 : Int) < (ps.length : Int) by omega), if_pos (show (2 : Int) < (ps.length : Int) by omega)]
    refine Ev.bind (impl_cubic_v p (pAt ps 0) (pAt ps 1) (pAt ps 2) (8 - (m : Int))) ?_
    simp only [if_pos (show acc.length < 8796093022208 by omega), show (8 : Int) - (m : Int) + 1 = 9 - (m : Int) by omega, w64 (x := 9 - (m : Int)) (by omega) (by omega)]
    exact h
theorem flatten_v (v : Int) (hv : v = 2 ∨ v = 3 ∨ v = 4) (now ps : List Pt) (hp : needB v ≤ (ps.length : Int)) : Ev (fun k => impl_flatten.f k v (lastP now).f0 (lastP now).f1 ps) (addF v ps now) := by
  rcases hv with rfl | rfl | rfl
  · exact flatten_one 2 _ _ ps (.inr rfl) (by have : needB 2 = 1 := rfl; omega)
  · have h := flatten_q (lastP now) ps (by have : needB 3 = 2 := rfl; omega) 4 [] (by omega) (by simp)
    unfold impl_flatten.f
    exact Ev.step (fun k => rfl) h
  · have h := flatten_c (lastP now) ps (by have : needB 4 = 3 := rfl; omega) 8 [] (by omega) (by simp)
    unfold impl_flatten.f
    exact Ev.step (fun k => rfl) h
section
variable (l : List Int) (pts : List Pt) (hp : pts.length ≤ 24)
include hp
theorem spec_q (out : List (List Pt)) (i n : Nat) (hi : i < l.length) (p : Pt) (h1 : n + 2 ≤ pts.length) (r : List (List Pt)) : ∀ (m : Nat) (now : List Pt), m ≤ 4 → now.length + m ≤ 1000 →
    Ev (fun k => spec_FlatOf.l0 k out (now ++ qFrom p (pAt pts n) (pAt pts ((n + 1 : Nat) : Int)) m) (wrap64 ((n : Int) + needB l[i])) (wrap64 ((i : Int) + 1)) l pts) r → Ev (fun k => spec_FlatOf.l1 k out now n (i : Int) (5 - (m : Int)) l pts p.f0 p.f1) r := by
  intro m
  induction m with
  | zero =>
    intro now _ _ h
    rw [qFrom, List.append_nil] at h
    refine Ev.step (fun k => ?_) h
    simp only [spec_FlatOf.l1, rd_int _ _ hi, spec_NeedOf_v, Option.bind_some]
    rw [if_neg (by omega), if_pos (by omega), if_pos (by omega)]
  | succ m ih =>
    intro now hm hl h
    have e : (5 : Int) - ((m + 1 : Nat) : Int) = 4 - (m : Int) := by omega
    have e1 : wrap64 ((n : Int) + 1) = ((n + 1 : Nat) : Int) := step64 (n := n + 1) (by omega) (by omega)
    rw [qFrom, ← List.singleton_append, ← List.append_assoc] at h
    rw [e]
    have hh := ih _ (by omega) (by simp; omega) h
    refine Ev.step (fun k => rfl) ?_
    simp only [spec_FlatOf.l1, e1, if_pos (show 4 - (m : Int) ≤ 4 by omega), if_pos (show (0 : Int) ≤ (n : Int) by omega), if_pos (show (n : Int) < (pts.length : Int) by omega), if_pos (show (0 : Int) ≤ ((n + 1 : Nat) : Int) by omega), if_pos (show ((n + 1 : Nat) : Int) < (pts.length : Int) by omega)]
    refine Ev.bind (spec_quad_v p (pAt pts n) (pAt pts ((n + 1 : Nat) : Int)) (4 - (m : Int))) ?_
    simp only [if_pos (show now.length < 8796093022208 by omega), show (4 : Int) - (m : Int) + 1 = 5 - (m : Int) by omega, w64 (x := 5 - (m : Int)) (by omega) (by omega)]
    exact hh
theorem spec_c (out : List (List Pt)) (i n : Nat) (hi : i < l.length) (p : Pt) (h1 : n + 3 ≤ pts.length) (r : List (List Pt)) : ∀ (m : Nat) (now : List Pt), m ≤ 8 → now.length + m ≤ 1000 →
    Ev (fun k => spec_FlatOf.l0 k out (now ++ cFrom p (pAt pts n) (pAt pts ((n + 1 : Nat) : Int)) (pAt pts ((n + 2 : Nat) : Int)) m) (wrap64 ((n : Int) + needB l[i])) (wrap64 ((i : Int) + 1)) l pts) r → Ev (fun k => spec_FlatOf.l2 k out now n (i : Int) (9 - (m : Int)) l pts p.f0 p.f1) r := by
  intro m
  induction m with
  | zero =>
    intro now _ _ h
    rw [cFrom, List.append_nil] at h
    refine Ev.step (fun k => ?_) h
    simp only [spec_FlatOf.l2, rd_int _ _ hi, spec_NeedOf_v, Option.bind_some]
    rw [if_neg (by omega), if_pos (by omega), if_pos (by omega)]
  | succ m ih =>
    intro now hm hl h
    have e : (9 : Int) - ((m + 1 : Nat) : Int) = 8 - (m : Int) := by omega
    have e1 : wrap64 ((n : Int) + 1) = ((n + 1 : Nat) : Int) := step64 (n := n + 1) (by omega) (by omega)
    have e2 : wrap64 ((n : Int) + 2) = ((n + 2 : Nat) : Int) := by
      rw [w64 (by omega) (by omega)]
      omega
    rw [cFrom, ← List.singleton_append, ← List.append_assoc] at h
    rw [e]
    have hh := ih _ (by omega) (by simp; omega) h
    refine Ev.step (fun k => rfl) ?_
    simp only [spec_FlatOf.l2, e1, e2, if_pos (show 8 - (m : Int) ≤ 8 by omega), if_pos (show (0 : Int) ≤ (n : Int) by omega), if_pos (show (n : Int) < (pts.length : Int) by omega), if_pos (show (0 : Int) ≤ ((n + 1 : Nat) : Int) by omega), if_pos (show ((n + 1 : Nat) : Int) < (pts.length : Int) by omega), if_pos (show (0 : Int) ≤ ((n + 2 : Nat) : Int) by omega), if_pos (show ((n + 2 : Nat) : Int) < (pts.length : Int) by omega)]
    refine Ev.bind (spec_cubic_v p (pAt pts n) (pAt pts ((n + 1 : Nat) : Int)) (pAt pts ((n + 2 : Nat) : Int)) (8 - (m : Int))) ?_
    simp only [if_pos (show now.length < 8796093022208 by omega), show (8 : Int) - (m : Int) + 1 = 9 - (m : Int) by omega, w64 (x := 9 - (m : Int)) (by omega) (by omega)]
    exact hh
end
theorem pAt_drop (pts : List Pt) (n j : Nat) (h : n + j < pts.length) : pAt (pts.drop n) (j : Int) = pAt pts ((n + j : Nat) : Int) := by
  show rd_T46 _ _ = rd_T46 _ _
  rw [rd_impl_Point _ _ (by simp; omega), rd_impl_Point _ _ h, List.getElem_drop]
theorem pAt_take (ps : List Pt) (m j : Nat) (hj : j < m) (h : m ≤ ps.length) : pAt (ps.take m) (j : Int) = pAt ps (j : Int) := by
  show rd_T46 _ _ = rd_T46 _ _
  rw [rd_impl_Point _ _ (by simp; omega), rd_impl_Point _ _ (by omega), List.getElem_take]
theorem addF_take (v : Int) (ps now : List Pt) (m : Nat) (hm : needB v = (m : Int)) (h : m ≤ ps.length) : addF v (ps.take m) now = addF v ps now := by
  unfold addF
  by_cases h2 : v = 2
  · subst h2
    have e : needB 2 = 1 := rfl
    have a0 : pAt (ps.take m) 0 = pAt ps 0 := pAt_take ps m 0 (by omega) h
    rw [if_pos rfl, if_pos rfl, a0]
  · rw [if_neg h2, if_neg h2]
    by_cases h3 : v = 3
    · subst h3
      have e : needB 3 = 2 := rfl
      have a0 : pAt (ps.take m) 0 = pAt ps 0 := pAt_take ps m 0 (by omega) h
      have a1 : pAt (ps.take m) 1 = pAt ps 1 := pAt_take ps m 1 (by omega) h
      rw [if_pos rfl, if_pos rfl, a0, a1]
    · rw [if_neg h3, if_neg h3]
      by_cases h4 : v = 4
      · subst h4
        have e : needB 4 = 3 := rfl
        have a0 : pAt (ps.take m) 0 = pAt ps 0 := pAt_take ps m 0 (by omega) h
        have a1 : pAt (ps.take m) 1 = pAt ps 1 := pAt_take ps m 1 (by omega) h
        have a2 : pAt (ps.take m) 2 = pAt ps 2 := pAt_take ps m 2 (by omega) h
        rw [if_pos rfl, if_pos rfl, a0, a1, a2]
      · rw [if_neg h4, if_neg h4]
theorem verbsB_le : ∀ (vs : List Int) (p n m : Int), verbsB p vs n = some m → n ≤ m
  | [], _, n, m, h => by
    obtain rfl := Option.some.inj h
    omega
  | v :: vs, p, n, m, h => by
    rw [verbsB] at h
    split at h
    · cases h
    · split at h
      · cases h
      · have := verbsB_le vs v _ m h
        omega
theorem last_set {α : Type} (out : List α) (a b : α) : (out ++ [a]).set out.length b = out ++ [b] := by simp
section
variable (l : List Int) (pts : List Pt) (hn : l.length ≤ 24)
include hn
/-- One verb that is no move, as the program takes it. -/
theorem impl_step (out : List (List Pt)) (now : List Pt) (i n nd : Nat) (hi : i < l.length) (hv : l[i] = 2 ∨ l[i] = 3 ∨ l[i] = 4 ∨ l[i] = 5) (hnd : needB l[i] = (nd : Int)) (hnn : n + nd ≤ pts.length) (ho : out.length ≤ 100) (hw : 0 < now.length) (hw2 : now.length ≤ 1000) (r : List (List Pt))
    (h : Ev (fun k => impl_FlatOf.l0 k (out ++ [now ++ addF l[i] (pts.drop n) now]) (pts.drop (n + nd)) l (l.length : Int) ((i + 1 : Nat) : Int)) r) : Ev (fun k => impl_FlatOf.l0 k (out ++ [now]) (pts.drop n) l (l.length : Int) (i : Int)) r := by
  have idx : wrap64 (((out ++ [now]).length : Int) - 1) = (out.length : Int) := by
    rw [List.length_append, List.length_singleton, w64 (by omega) (by omega)]
    omega
  have rl : ∀ x : List Pt, rd_L2 (out ++ [x]) (out.length : Int) = x := fun x => by
    rw [rd_impl_PointSS _ _ (by simp)]
    simp
  have hlast : wrap64 ((now.length : Int) - 1) = (now.length : Int) - 1 := w64 (by omega) (by omega)
  have q1 : (0 : Int) ≤ (out.length : Int) := by omega
  have q2 : (out.length : Int) < ((out ++ [now]).length : Int) := by
    rw [List.length_append, List.length_singleton]
    omega
  have q3 : (0 : Int) < (now.length : Int) := by omega
  have q4 : (0 : Int) ≤ (now.length : Int) - 1 := by omega
  have q5 : (now.length : Int) - 1 < (now.length : Int) := by omega
  have hl8 := addF_length l[i] (pts.drop n) now
  have hn1 : l[i] ≠ 1 := by omega
  have hlp : (nd : Int) ≤ ((pts.drop n).length : Int) := by
    rw [List.length_drop]
    omega
  refine Ev.step (fun k => rfl) ?_
  simp only [impl_FlatOf.l0, if_pos (show (i : Int) < (l.length : Int) by omega), if_pos (show (0 : Int) ≤ (i : Int) by omega), rd_int _ _ hi]
  refine Ev.bind (impl_NeedOf_v _) ?_
  simp only [hnd, if_pos (show (0 : Int) ≤ (nd : Int) by omega), if_pos hlp, Int.toNat_natCast, Option.bind_some, if_neg hn1, List.drop_drop, idx, rl, if_pos q1, if_pos q2, if_pos q3, hlast, if_pos q4, if_pos q5, last_set, step64 hi (show l.length ≤ 4611686018427387904 by omega)]
  have ha := addF_take l[i] (pts.drop n) now nd hnd (by rw [List.length_drop]; omega)
  by_cases h5 : l[i] = 5
  · simp only [if_pos h5]
    have hf := flatten_none l[i] (lastP now).f0 (lastP now).f1 ((pts.drop n).take nd) h5
    unfold addF at h
    rw [if_neg (by omega), if_neg (by omega), if_neg (by omega)] at h
    by_cases hne : neP (pAt now 0) (lastP now) = true
    · rw [if_pos hne] at h
      have hne2 : (!(((rd_T46 now 0).f0) == ((rd_T46 now ((now.length : Int) - 1)).f0)) || (!(((rd_T46 now 0).f1) == ((rd_T46 now ((now.length : Int) - 1)).f1)))) = true := hne
      simp only [if_pos hne2, if_pos (show now.length < 8796093022208 by omega)]
      refine Ev.bind hf ?_
      simp only [List.append_nil, List.length_nil, if_pos (show (now ++ [(⟨(rd_T46 now 0).f0, (rd_T46 now 0).f1⟩ : Pt)]).length + 0 < 8796093022208 by simp; omega)]
      exact h
    · rw [if_neg hne, List.append_nil] at h
      have hne2 : ¬ (!(((rd_T46 now 0).f0) == ((rd_T46 now ((now.length : Int) - 1)).f0)) || (!(((rd_T46 now 0).f1) == ((rd_T46 now ((now.length : Int) - 1)).f1)))) = true := hne
      simp only [if_neg hne2]
      refine Ev.bind hf ?_
      simp only [List.append_nil, List.length_nil, if_pos (show now.length + 0 < 8796093022208 by omega)]
      exact h
  · simp only [if_neg h5]
    have hf := flatten_v l[i] (by omega) now ((pts.drop n).take nd) (by rw [hnd, List.length_take, List.length_drop]; omega)
    rw [ha] at hf
    refine Ev.bind hf ?_
    simp only [if_pos (show now.length + (addF l[i] (pts.drop n) now).length < 8796093022208 by omega)]
    exact h
end
section
variable (l : List Int) (pts : List Pt) (hn : l.length ≤ 24) (hp : pts.length ≤ 24)
include hn hp
theorem flat_main : ∀ (d i n : Nat) (out : List (List Pt)) (now : List Pt), i + d = l.length → verbsB (prevB l i) (l.drop i) (n : Int) = some (pts.length : Int) → (0 < i → 0 < now.length) → (i = 0 → out = [] ∧ now = []) → out.length ≤ i → now.length ≤ 9 * i →
    Ev (fun k => spec_FlatOf.l0 k out now (n : Int) (i : Int) l pts) (flatF (l.drop i) (pts.drop n) out now) ∧ Ev (fun k => impl_FlatOf.l0 k (closed out now) (pts.drop n) l (l.length : Int) (i : Int)) (flatF (l.drop i) (pts.drop n) out now) := by
  intro d
  induction d with
  | zero =>
    intro i n out now hi hv hw hz ho hl
    rw [List.drop_of_length_le (show l.length ≤ i by omega), flatF]
    refine ⟨?_, ev_done (fun k => ?_)⟩
    · unfold closed
      by_cases hc : 0 < now.length
      · rw [if_pos hc]
        refine ev_done (fun k => ?_)
        simp only [spec_FlatOf.l0]
        rw [if_neg (by omega), if_pos (by omega), if_pos (by omega)]
      · rw [if_neg hc]
        refine ev_done (fun k => ?_)
        simp only [spec_FlatOf.l0]
        rw [if_neg (by omega), if_neg (by omega)]
    · simp only [impl_FlatOf.l0]
      rw [if_neg (by omega)]
  | succ d ih =>
    intro i n out now hi hv hw hz ho hl
    have hi2 : i < l.length := by omega
    rw [List.drop_eq_getElem_cons hi2, verbsB] at hv
    have hb := needB_bd l[i]
    split at hv
    · cases hv
    rename_i hneg
    split at hv
    · cases hv
    rename_i hfirst
    have hle := verbsB_le _ _ _ _ hv
    obtain ⟨nd, hnd⟩ : ∃ nd : Nat, needB l[i] = (nd : Int) := ⟨(needB l[i]).toNat, by omega⟩
    have hstep : wrap64 ((i : Int) + 1) = ((i + 1 : Nat) : Int) := step64 hi2 (by omega)
    have hnn : wrap64 ((n : Int) + needB l[i]) = ((n + nd : Nat) : Int) := by
      rw [hnd, w64 (by omega) (by omega)]
      omega
    have hprev : prevB l (i + 1) = l[i] := rd_int l i hi2
    have hv2 : verbsB (prevB l (i + 1)) (l.drop (i + 1)) ((n + nd : Nat) : Int) = some (pts.length : Int) := by
      rw [hprev, show ((n + nd : Nat) : Int) = (n : Int) + needB l[i] by omega]
      exact hv
    have h5 : l[i] = 1 ∨ l[i] = 2 ∨ l[i] = 3 ∨ l[i] = 4 ∨ l[i] = 5 := by
      unfold needB at hneg
      repeat' split at hneg
      all_goals omega
    have hi0 : l[i] ≠ 1 → 0 < i := by
      intro h
      cases i with
      | zero => exact absurd ⟨rfl, h⟩ hfirst
      | succ j => omega
    rw [List.drop_eq_getElem_cons hi2]
    by_cases e1 : l[i] = 1
    · have hd1 : nd = 1 := by
        rw [e1] at hnd
        have : needB 1 = 1 := rfl
        omega
      subst hd1
      have hp0 : pAt (pts.drop n) 0 = pAt pts (n : Int) := pAt_drop pts n 0 (by omega)
      have hcl : (closed out now).length ≤ i + 1 := by
        unfold closed
        split
        · simp
          omega
        · omega
      have H := ih (i + 1) (n + 1) (closed out now) [pAt (pts.drop n) 0] (by omega) hv2 (fun _ => by simp) (fun h => by omega) hcl (by simp; omega)
      rw [flatF, if_pos e1, List.drop_drop]
      refine ⟨?_, ?_⟩
      · refine Ev.step (fun k => ?_) H.1
        simp only [spec_FlatOf.l0, rd_int _ _ hi2, spec_NeedOf_v, Option.bind_some, hstep, hnn, hp0]
        rw [if_pos (by omega), if_pos (by omega), if_pos e1]
        by_cases hip : (i : Int) > 0
        · have hwl := hw (by omega)
          rw [if_pos hip, if_pos (by omega), if_pos (by omega), if_pos (by omega)]
          unfold closed
          rw [if_pos hwl]
        · obtain ⟨rfl, rfl⟩ := hz (by omega)
          rw [if_neg hip, if_pos (by omega), if_pos (by omega)]
          rfl
      · have hf := flatten_one l[i] 0 0 ((pts.drop n).take 1) (.inl e1) (by rw [List.length_take, List.length_drop]; omega)
        have ht : pAt ((pts.drop n).take 1) 0 = pAt (pts.drop n) 0 := pAt_take (pts.drop n) 1 0 (by omega) (by rw [List.length_drop]; omega)
        rw [ht] at hf
        have hlp : ((1 : Nat) : Int) ≤ ((pts.drop n).length : Int) := by
          rw [List.length_drop]
          omega
        refine Ev.step (fun k => rfl) ?_
        simp only [impl_FlatOf.l0, if_pos (show (i : Int) < (l.length : Int) by omega), if_pos (show (0 : Int) ≤ (i : Int) by omega), rd_int _ _ hi2]
        refine Ev.bind (impl_NeedOf_v _) ?_
        simp only [hnd, if_pos (show (0 : Int) ≤ ((1 : Nat) : Int) by omega), if_pos hlp, Int.toNat_natCast, Option.bind_some, if_pos e1, List.drop_drop, hstep]
        refine Ev.bind hf ?_
        simp only [if_pos (show (closed out now).length < 5864062014805 by omega)]
        exact H.2
    · have hip := hi0 e1
      have hwl := hw hip
      have hl8 := addF_length l[i] (pts.drop n) now
      have H := ih (i + 1) (n + nd) out (now ++ addF l[i] (pts.drop n) now) (by omega) hv2 (fun _ => by simp; omega) (fun h => by omega) (by omega) (by simp; omega)
      have hcl : closed out now = out ++ [now] := if_pos hwl
      have hcl2 : closed out (now ++ addF l[i] (pts.drop n) now) = out ++ [now ++ addF l[i] (pts.drop n) now] := if_pos (by simp; omega)
      rw [hcl2] at H
      rw [flatF, if_neg e1, List.drop_drop, hnd, Int.toNat_natCast, hcl]
      refine ⟨?_, impl_step l pts hn out now i n nd hi2 (by omega) hnd (by omega) (by omega) hwl (by omega) _ H.2⟩
      have hlast : wrap64 ((now.length : Int) - 1) = (now.length : Int) - 1 := w64 (by omega) (by omega)
      replace H := H.1
      rw [show ((n + nd : Nat) : Int) = wrap64 ((n : Int) + needB l[i]) from hnn.symm, show ((i + 1 : Nat) : Int) = wrap64 ((i : Int) + 1) from hstep.symm] at H
      rcases h5 with e | e | e | e | e
      · exact absurd e e1
      · have hd1 : nd = 1 := by
          rw [e] at hnd
          have : needB 2 = 1 := rfl
          omega
        have hp0 : pAt (pts.drop n) 0 = pAt pts (n : Int) := pAt_drop pts n 0 (by omega)
        rw [show addF l[i] (pts.drop n) now = [pAt pts (n : Int)] by unfold addF; rw [if_pos e, hp0]] at H ⊢
        refine Ev.step (fun k => ?_) H
        simp only [spec_FlatOf.l0, rd_int _ _ hi2, spec_NeedOf_v, Option.bind_some]
        rw [if_pos (by omega), if_pos (by omega), if_neg e1, if_pos e, if_pos (by omega), if_pos (by omega), if_pos (by omega)]
      · have hd1 : nd = 2 := by
          rw [e] at hnd
          have : needB 3 = 2 := rfl
          omega
        have hp0 : pAt (pts.drop n) 0 = pAt pts (n : Int) := pAt_drop pts n 0 (by omega)
        have hp1 : pAt (pts.drop n) 1 = pAt pts ((n + 1 : Nat) : Int) := pAt_drop pts n 1 (by omega)
        rw [show addF l[i] (pts.drop n) now = qFrom (lastP now) (pAt pts (n : Int)) (pAt pts ((n + 1 : Nat) : Int)) 4 by unfold addF; rw [if_neg (by omega), if_pos e, hp0, hp1]] at H ⊢
        refine Ev.step (fun k => ?_) (spec_q l pts hp out i n hi2 (lastP now) (by omega) _ 4 now (by omega) (by omega) H)
        simp only [spec_FlatOf.l0, rd_int _ _ hi2, hlast]
        rw [if_pos (by omega), if_pos (by omega), if_neg e1, if_neg (by omega), if_pos e, if_pos (by omega), if_pos (by omega)]
        rfl
      · have hd1 : nd = 3 := by
          rw [e] at hnd
          have : needB 4 = 3 := rfl
          omega
        have hp0 : pAt (pts.drop n) 0 = pAt pts (n : Int) := pAt_drop pts n 0 (by omega)
        have hp1 : pAt (pts.drop n) 1 = pAt pts ((n + 1 : Nat) : Int) := pAt_drop pts n 1 (by omega)
        have hp2 : pAt (pts.drop n) 2 = pAt pts ((n + 2 : Nat) : Int) := pAt_drop pts n 2 (by omega)
        rw [show addF l[i] (pts.drop n) now = cFrom (lastP now) (pAt pts (n : Int)) (pAt pts ((n + 1 : Nat) : Int)) (pAt pts ((n + 2 : Nat) : Int)) 8 by unfold addF; rw [if_neg (by omega), if_neg (by omega), if_pos e, hp0, hp1, hp2]] at H ⊢
        refine Ev.step (fun k => ?_) (spec_c l pts hp out i n hi2 (lastP now) (by omega) _ 8 now (by omega) (by omega) H)
        simp only [spec_FlatOf.l0, rd_int _ _ hi2, hlast]
        rw [if_pos (by omega), if_pos (by omega), if_neg e1, if_neg (by omega), if_neg (by omega), if_pos e, if_pos (by omega), if_pos (by omega)]
        rfl
      · have ha : addF l[i] (pts.drop n) now = if neP (pAt now 0) (lastP now) = true then [pAt now 0] else [] := by
          unfold addF
          rw [if_neg (by omega), if_neg (by omega), if_neg (by omega)]
        rw [ha] at H ⊢
        by_cases hne : neP (pAt now 0) (lastP now) = true
        · rw [if_pos hne] at H ⊢
          have hne2 : (!(((rd_T46 now 0).f0) == ((rd_T46 now ((now.length : Int) - 1)).f0)) || (!(((rd_T46 now 0).f1) == ((rd_T46 now ((now.length : Int) - 1)).f1)))) = true := hne
          refine Ev.step (fun k => ?_) H
          simp only [spec_FlatOf.l0, rd_int _ _ hi2, hlast, spec_NeedOf_v, Option.bind_some]
          rw [if_pos (by omega), if_pos (by omega), if_neg e1, if_neg (by omega), if_neg (by omega), if_neg (by omega), if_pos e, if_pos (by omega), if_pos (by omega), if_pos (by omega), if_pos hne2, if_pos (by omega)]
        · rw [if_neg hne, List.append_nil] at H ⊢
          have hne2 : ¬ (!(((rd_T46 now 0).f0) == ((rd_T46 now ((now.length : Int) - 1)).f0)) || (!(((rd_T46 now 0).f1) == ((rd_T46 now ((now.length : Int) - 1)).f1)))) = true := hne
          refine Ev.step (fun k => ?_) H
          simp only [spec_FlatOf.l0, rd_int _ _ hi2, hlast, spec_NeedOf_v, Option.bind_some]
          rw [if_pos (by omega), if_pos (by omega), if_neg e1, if_neg (by omega), if_neg (by omega), if_neg (by omega), if_pos e, if_pos (by omega), if_pos (by omega), if_pos (by omega), if_neg hne2]
end
theorem closed_good (out : List (List Pt)) (now : List Pt) (h1 : ∀ x ∈ out, x.length ≤ 300) (h2 : now.length ≤ 300) : (closed out now).length ≤ out.length + 1 ∧ ∀ x ∈ closed out now, x.length ≤ 300 := by
  unfold closed
  split
  · refine ⟨by simp, fun x hx => ?_⟩
    rcases List.mem_append.mp hx with h | h
    · exact h1 x h
    · obtain rfl := List.mem_singleton.mp h
      exact h2
  · exact ⟨by omega, h1⟩
theorem flatF_good : ∀ (vs : List Int) (ps : List Pt) (out : List (List Pt)) (now : List Pt), (∀ x ∈ out, x.length ≤ 300) → now.length + 8 * vs.length ≤ 300 → (flatF vs ps out now).length ≤ out.length + 1 + vs.length ∧ ∀ x ∈ flatF vs ps out now, x.length ≤ 300
  | [], _, out, now, h1, h2 => closed_good out now h1 (by simpa using h2)
  | v :: vs, ps, out, now, h1, h2 => by
    rw [List.length_cons] at h2
    rw [flatF, List.length_cons]
    split
    · obtain ⟨a, b⟩ := closed_good out now h1 (by omega)
      obtain ⟨c, d⟩ := flatF_good vs (ps.drop 1) (closed out now) [pAt ps 0] b (by simp; omega)
      exact ⟨by omega, d⟩
    · have := addF_length v ps now
      obtain ⟨c, d⟩ := flatF_good vs (ps.drop (needB v).toNat) out (now ++ addF v ps now) h1 (by rw [List.length_append]; omega)
      exact ⟨by omega, d⟩
theorem flat_v (l : List Int) (pts : List Pt) (h : pathB l pts = true) : Ev (fun k => spec_FlatOf.f k l pts) (flatF l pts [] []) ∧ Ev (fun k => impl_FlatOf.f k l pts) (flatF l pts [] []) ∧ (flatF l pts [] []).length ≤ 30 ∧ ∀ x ∈ flatF l pts [] [], x.length ≤ 300 := by
  have hs := spec_PathOk_v l pts
  have hi := impl_PathOk_v l pts
  rw [h] at hs hi
  unfold pathB at h
  simp only [Bool.and_eq_true, decide_eq_true_eq] at h
  obtain ⟨b1, b2, _, b3⟩ := h
  have hv : verbsB 5 l 0 = some (pts.length : Int) := by
    cases hq : verbsB 5 l 0 with
    | none => rw [hq] at b3; simp [endB] at b3
    | some m => rw [hq] at b3; simp [endB] at b3; rw [b3]
  obtain ⟨k1, k2⟩ := flat_main l pts b2 b1 l.length 0 0 [] [] (by omega) hv (fun h => absurd h (by omega)) (fun _ => ⟨rfl, rfl⟩) (by simp) (by simp)
  obtain ⟨g1, g2⟩ := flatF_good l pts [] [] (by simp) (by simp; omega)
  simp only [List.length_nil] at g1
  refine ⟨?_, ?_, by omega, g2⟩
  · unfold spec_FlatOf.f
    simp only [Option.bind_some]
    exact Ev.bind hs k1
  · unfold impl_FlatOf.f
    exact Ev.bind hi k2
theorem flat_no (l : List Int) (pts : List Pt) (h : pathB l pts = false) : Ev (fun k => spec_FlatOf.f k l pts) [] ∧ Ev (fun k => impl_FlatOf.f k l pts) [] := by
  have hs := spec_PathOk_v l pts
  have hi := impl_PathOk_v l pts
  rw [h] at hs hi
  refine ⟨?_, ?_⟩
  · unfold spec_FlatOf.f
    simp only [Option.bind_some]
    exact Ev.bind hs (Ev.now _)
  · unfold impl_FlatOf.f
    exact Ev.bind hi (Ev.now _)
theorem FlatOf_b (l : List Int) (pts : List Pt) : ∃ Q : List (List Pt), Ev (fun k => spec_FlatOf.f k l pts) Q ∧ Ev (fun k => impl_FlatOf.f k l pts) Q ∧ Q.length ≤ 30 ∧ ∀ x ∈ Q, x.length ≤ 300 := by
  cases h : pathB l pts with
  | true => exact ⟨_, flat_v l pts h⟩
  | false => exact ⟨[], (flat_no l pts h).1, (flat_no l pts h).2, by simp, by simp⟩

/-! DrawPathOk -/
theorem point_k (l : List Int) (p s : Int) (hp : 0 ≤ p) (hl : p ≤ l.length) (hn : l.length ≤ 1048576) : ∃ a b q t : Int, spec_l04Point.f l p s = some (a, b, q, t) ∧ pointOkP a b ∧ 0 ≤ q ∧ q ≤ l.length := by
  obtain ⟨b0, q0, t0, e0, l0, u0, v0, w0⟩ := below_r l p s 3600 hp hl hn (by omega) (by omega)
  obtain ⟨b1, q1, t1, e1, l1, u1, v1, w1⟩ := below_r l q0 t0 3600 v0 w0 hn (by omega) (by omega)
  unfold spec_l04Point.f
  rw [e0]
  simp only [Option.bind_some, e1]
  rw [w64 (x := b0 - 300) (by omega) (by omega), w64 (x := b1 - 300) (by omega) (by omega)]
  exact ⟨_, _, _, _, rfl, ⟨⟨by omega, by omega⟩, ⟨by omega, by omega⟩⟩, v1, w1⟩
theorem once_k (l : List Int) (p s n : Int) (hp : 0 ≤ p) (hl : p ≤ l.length) (hn : l.length ≤ 1048576) (h0 : 0 < n) (h1 : n ≤ 1000000) : ∃ (b : Bool) (q t : Int), spec_l01Once.f l p s n = some (b, q, t) ∧ 0 ≤ q ∧ q ≤ l.length := by
  obtain ⟨b, q, t, e, _, _, v, w⟩ := below_r l p s n hp hl hn h0 (by omega)
  unfold spec_l01Once.f
  rw [e]
  exact ⟨_, _, _, rfl, v, w⟩
/-- What a drawn path is: right, and it begins somewhere. -/
def pathGood (a : List Int) (b : List Pt) : Prop := 0 < a.length ∧ a.length ≤ 24 ∧ pathB a b = true
theorem verbsB_snoc : ∀ (vs : List Int) (p n m v : Int), verbsB p vs n = some m → 0 ≤ needB v → ¬ (prevB (p :: vs) (vs.length + 1) = 5 ∧ v ≠ 1) → verbsB p (vs ++ [v]) n = some (m + needB v)
  | [], p, n, m, v, h, h0, h1 => by
    obtain rfl := Option.some.inj h
    have h1' : ¬ (p = 5 ∧ v ≠ 1) := h1
    rw [List.nil_append, verbsB, if_neg (by omega), if_neg h1']
    rfl
  | u :: vs, p, n, m, v, h, h0, h1 => by
    rw [verbsB] at h
    split at h
    · cases h
    rename_i a
    split at h
    · cases h
    rename_i b
    rw [List.cons_append, verbsB, if_neg a, if_neg b]
    refine verbsB_snoc vs u _ m v h h0 (fun hh => h1 ⟨?_, hh.2⟩)
    rw [← hh.1]
    show rd (p :: u :: vs) ((vs.length + 1 : Nat) : Int) = rd (u :: vs) ((vs.length : Nat) : Int)
    rw [rd_int _ _ (by simp), rd_int _ _ (by simp)]
    rfl
theorem prev_cons (vs : List Int) : prevB (5 :: vs) (vs.length + 1) = prevB vs vs.length := by
  cases vs with
  | nil => rfl
  | cons u vs =>
    show rd (5 :: u :: vs) ((vs.length + 1 : Nat) : Int) = rd (u :: vs) ((vs.length : Nat) : Int)
    rw [rd_int _ _ (by simp), rd_int _ _ (by simp)]
    rfl
theorem points_snoc (ps : List Pt) (x y : Int) (h : pointsB ps = true) (hx : pointOkP x y) : pointsB (ps ++ [⟨x, y⟩]) = true := by
  unfold pointsB at h ⊢
  rw [List.all_append, h]
  simp [hx]
theorem good_of (vs : List Int) (ps : List Pt) (h0 : 0 < vs.length) (h1 : vs.length ≤ 6) (hp : pointsB ps = true) (hl : ps.length ≤ 24) (hv : verbsB 5 vs 0 = some (ps.length : Int)) : pathGood vs ps := by
  refine ⟨h0, by omega, ?_⟩
  unfold pathB
  rw [decide_eq_true hl, decide_eq_true (show vs.length ≤ 24 by omega), hp, hv]
  simp [endB]
theorem Rect_k (a b c d : Int) (h1 : a < c) (h2 : b < d) (p0 : pointOkP a b) (p1 : pointOkP c d) : ∃ vs ps, spec_RectPath.f a b c d = some (vs, ps) ∧ pathGood vs ps := by
  have hac : pointOkP c b := ⟨p1.1, p0.2⟩
  have had : pointOkP a d := ⟨p0.1, p1.2⟩
  refine ⟨[1, 2, 2, 2, 5], [⟨a, b⟩, ⟨c, b⟩, ⟨c, d⟩, ⟨a, d⟩], ?_, good_of _ _ (by simp) (by simp) (by simp [pointsB, p0, p1, hac, had]) (by simp) (by simp [verbsB, needB])⟩
  unfold spec_RectPath.f spec_Empty.f
  simp only [Option.bind_some, spec_PointOk_v]
  rw [if_neg (by omega), Option.bind_some, if_neg (by simp; omega), if_pos (by simp)]
  have r0 : rd_T46 [(⟨a, b⟩ : Pt), ⟨c, b⟩, ⟨c, d⟩, ⟨a, d⟩] 0 = ⟨a, b⟩ := rfl
  have r2 : rd_T46 [(⟨a, b⟩ : Pt), ⟨c, b⟩, ⟨c, d⟩, ⟨a, d⟩] 2 = ⟨c, d⟩ := rfl
  rw [r0, r2]
  simp only [decide_eq_true p0, decide_eq_true p1, Option.bind_some, if_true]
  rw [if_pos (by simp)]
section
variable (l : List Int) (hn : l.length ≤ 1048576)
include hn
theorem ptsk (x6 v : Int) (vs : List Int) (base : Nat) (H : ∀ (ps : List Pt) (p s : Int), pointsB ps = true → (ps.length : Int) = base + needB v → 0 ≤ p → p ≤ l.length → ∃ a b q t, Ev (fun k => spec_l06Path.l0 k (wrap64 (x6 + 1)) l p s vs ps) (a, b, q, t) ∧ pathGood a b ∧ 0 ≤ q ∧ q ≤ l.length) :
    ∀ (c : Nat) (j : Int) (ps : List Pt) (p s : Int), j + c = needB v → 0 ≤ j → pointsB ps = true → (ps.length : Int) = base + j → base ≤ 100 → 0 ≤ p → p ≤ l.length →
    ∃ a b q t, Ev (fun k => spec_l06Path.l1 k x6 v j l p s vs ps) (a, b, q, t) ∧ pathGood a b ∧ 0 ≤ q ∧ q ≤ l.length := by
  intro c
  induction c with
  | zero =>
    intro j ps p s hj h0 hps hl hk hp hq
    obtain ⟨a, b, q, t, k1, k2⟩ := H ps p s hps (by omega) hp hq
    refine ⟨a, b, q, t, Ev.step (fun k => ?_) k1, k2⟩
    simp only [spec_l06Path.l1, spec_NeedOf_v, Option.bind_some]
    rw [if_neg (by omega)]
  | succ c ih =>
    intro j ps p s hj h0 hps hl hk hp hq
    have hb := needB_bd v
    obtain ⟨u, w, q2, t2, e2, o2, v2, w2⟩ := point_k l p s hp hq hn
    obtain ⟨a, b, q, t, k1, k2⟩ := ih (j + 1) (ps ++ [⟨u, w⟩]) q2 t2 (by omega) (by omega) (points_snoc ps u w hps o2) (by simp; omega) hk v2 w2
    refine ⟨a, b, q, t, Ev.step (fun k => ?_) k1, k2⟩
    simp only [spec_l06Path.l1, spec_NeedOf_v, e2, Option.bind_some]
    rw [if_pos (by omega), if_pos (by omega), w64 (x := j + 1) (by omega) (by omega)]
theorem pathk_l : ∀ (d : Nat) (i : Nat) (vs : List Int) (ps : List Pt) (p s : Int), i + d = 6 → vs.length = i → pointsB ps = true → ps.length ≤ 24 → verbsB 5 vs 0 = some (ps.length : Int) → 0 ≤ p → p ≤ l.length →
    ∃ a b q t, Ev (fun k => spec_l06Path.l0 k (i : Int) l p s vs ps) (a, b, q, t) ∧ pathGood a b ∧ 0 ≤ q ∧ q ≤ l.length := by
  intro d
  induction d with
  | zero =>
    intro i vs ps p s hi hv hps hpl hvb hp hq
    obtain ⟨b0, q0, t0, e0, l0, u0, v0, w0⟩ := below_r l p s 6 hp hq hn (by omega) (by omega)
    refine ⟨vs, ps, q0, t0, ev_done (fun k => ?_), good_of vs ps (by omega) (by omega) hps hpl hvb, v0, w0⟩
    simp only [spec_l06Path.l0, e0, Option.bind_some]
    rw [if_neg (by rw [w64 (by omega) (by omega)]; omega)]
  | succ d ih =>
    intro i vs ps p s hi hv hps hpl hvb hp hq
    obtain ⟨b0, q0, t0, e0, l0, u0, v0, w0⟩ := below_r l p s 6 hp hq hn (by omega) (by omega)
    have e1b : wrap64 (1 + b0) = 1 + b0 := w64 (by omega) (by omega)
    by_cases hb : (i : Int) < wrap64 (1 + b0)
    · obtain ⟨vi, q1, t1, e1, l1, v1, w1⟩ := pick_r l q0 t0 [2, 2, 2, 3, 4, 5, 1] v0 w0 hn (by simp) (by simp)
      have hj2 : ∀ v : Int, 0 ≤ needB v → ¬ (prevB vs vs.length = 5 ∧ v ≠ 1) → ∃ a b q t, Ev (fun k => spec_l06Path.j2 k (i : Int) v l q1 t1 vs ps) (a, b, q, t) ∧ pathGood a b ∧ 0 ≤ q ∧ q ≤ l.length := by
        intro v hv0 hpv
        have hbd := needB_bd v
        by_cases hg : wrap64 ((ps.length : Int) + needB v) > 24
        · rw [w64 (by omega) (by omega)] at hg
          have hi0 : 0 < vs.length := by
            cases vs with
            | nil =>
              have hz : (0 : Int) = (ps.length : Int) := Option.some.inj hvb
              omega
            | cons => simp
          refine ⟨vs, ps, q1, t1, ev_done (fun k => ?_), good_of vs ps hi0 (by omega) hps hpl hvb, v1, w1⟩
          simp only [spec_l06Path.j2, spec_NeedOf_v, Option.bind_some]
          rw [if_pos (by rw [w64 (by omega) (by omega)]; exact hg)]
        · have hg2 := hg
          rw [w64 (by omega) (by omega)] at hg
          obtain ⟨c, hc⟩ : ∃ c : Nat, (c : Int) = needB v := ⟨(needB v).toNat, by omega⟩
          have hsn := verbsB_snoc vs 5 0 (ps.length : Int) v hvb hv0 (by rw [prev_cons]; exact hpv)
          obtain ⟨a, b, q, t, k1, k2⟩ := ptsk l hn (i : Int) v (vs ++ [v]) ps.length (fun ps' p' s' r0 r1 r2 r3 => by
            have := ih (i + 1) (vs ++ [v]) ps' p' s' (by omega) (by simp; omega) r0 (by omega) (by rw [r1]; exact hsn) r2 r3
            rw [w64 (x := (i : Int) + 1) (by omega) (by omega), show (i : Int) + 1 = ((i + 1 : Nat) : Int) by omega]
            exact this) c 0 ps q1 t1 (by omega) (by omega) hps (by omega) (by omega) v1 w1
          refine ⟨a, b, q, t, Ev.step (fun k => ?_) k1, k2⟩
          simp only [spec_l06Path.j2, spec_NeedOf_v, Option.bind_some]
          rw [if_neg hg2, if_pos (by omega)]
      have hpick : 0 ≤ needB (rd [2, 2, 2, 3, 4, 5, 1] (vi : Int)) := by
        have : vi = 0 ∨ vi = 1 ∨ vi = 2 ∨ vi = 3 ∨ vi = 4 ∨ vi = 5 ∨ vi = 6 := by
          simp only [List.length_cons, List.length_nil] at l1
          omega
        rcases this with rfl | rfl | rfl | rfl | rfl | rfl | rfl <;> decide
      cases i with
      | zero =>
        obtain ⟨a, b, q, t, k1, k2⟩ := hj2 1 (by decide) (fun h => h.2 rfl)
        refine ⟨a, b, q, t, Ev.step (fun k => ?_) (Ev.step (f := fun k => spec_l06Path.j2 k (((0 : Nat) : Nat) : Int) 1 l q1 t1 vs ps) (g := fun k => spec_l06Path.j1 k ((0 : Nat) : Int) (rd [2, 2, 2, 3, 4, 5, 1] (vi : Int)) true l q1 t1 vs ps) (fun k => rfl) k1), k2⟩
        simp only [spec_l06Path.l0, e0, e1, Option.bind_some]
        rw [if_pos hb]
        rfl
      | succ j =>
        have ej : wrap64 (((j + 1 : Nat) : Int) - 1) = (j : Int) := by
          rw [w64 (by omega) (by omega)]
          omega
        have hprev : prevB vs vs.length = rd vs (j : Int) := by
          rw [hv]
          rfl
        have hj1 : ∃ a b q t, Ev (fun k => spec_l06Path.j1 k ((j + 1 : Nat) : Int) (rd [2, 2, 2, 3, 4, 5, 1] (vi : Int)) (rd vs (j : Int) == 5) l q1 t1 vs ps) (a, b, q, t) ∧ pathGood a b ∧ 0 ≤ q ∧ q ≤ l.length := by
          by_cases h5 : rd vs (j : Int) = 5
          · obtain ⟨a, b, q, t, k1, k2⟩ := hj2 1 (by decide) (fun h => h.2 rfl)
            refine ⟨a, b, q, t, Ev.step (fun k => ?_) k1, k2⟩
            simp only [spec_l06Path.j1]
            rw [if_pos (by simp [h5])]
          · obtain ⟨a, b, q, t, k1, k2⟩ := hj2 (rd [2, 2, 2, 3, 4, 5, 1] (vi : Int)) hpick (fun h => h5 (hprev ▸ h.1))
            refine ⟨a, b, q, t, Ev.step (fun k => ?_) k1, k2⟩
            simp only [spec_l06Path.j1]
            rw [if_neg (by simp [h5])]
        obtain ⟨a, b, q, t, k1, k2⟩ := hj1
        refine ⟨a, b, q, t, Ev.step (fun k => ?_) k1, k2⟩
        simp only [spec_l06Path.l0, e0, e1, Option.bind_some, ej]
        rw [if_pos hb, if_neg (by omega), if_pos (by omega), if_pos (by omega)]
    · have hi0 : 0 < vs.length := by omega
      refine ⟨vs, ps, q0, t0, ev_done (fun k => ?_), good_of vs ps hi0 (by omega) hps hpl hvb, v0, w0⟩
      simp only [spec_l06Path.l0, e0, Option.bind_some]
      rw [if_neg hb]
theorem Path_k (p s : Int) (hp : 0 ≤ p) (hq : p ≤ l.length) : ∃ a b q t, Ev (fun k => spec_l06Path.f k l p s) (a, b, q, t) ∧ pathGood a b ∧ 0 ≤ q ∧ q ≤ l.length := by
  obtain ⟨o, q0, t0, e0, v0, w0⟩ := once_k l p s 2 hp hq hn (by omega) (by omega)
  cases o with
  | true =>
    obtain ⟨b1, q1, t1, e1, x1, y1, v1, w1⟩ := below_r l q0 t0 2400 v0 w0 hn (by omega) (by omega)
    obtain ⟨b2, q2, t2, e2, x2, y2, v2, w2⟩ := below_r l q1 t1 2400 v1 w1 hn (by omega) (by omega)
    obtain ⟨b3, q3, t3, e3, x3, y3, v3, w3⟩ := below_r l q2 t2 1500 v2 w2 hn (by omega) (by omega)
    obtain ⟨b4, q4, t4, e4, x4, y4, v4, w4⟩ := below_r l q3 t3 1500 v3 w3 hn (by omega) (by omega)
    have z1 : wrap64 ((wrap64 (b1 + 1)) + b3) = b1 + 1 + b3 := by
      rw [w64 (x := b1 + 1) (by omega) (by omega), w64 (by omega) (by omega)]
    have z2 : wrap64 ((wrap64 (b2 + 1)) + b4) = b2 + 1 + b4 := by
      rw [w64 (x := b2 + 1) (by omega) (by omega), w64 (by omega) (by omega)]
    obtain ⟨vs, ps, e5, hf⟩ := Rect_k b1 b2 (b1 + 1 + b3) (b2 + 1 + b4) (by omega) (by omega) ⟨⟨by omega, by omega⟩, ⟨by omega, by omega⟩⟩ ⟨⟨by omega, by omega⟩, ⟨by omega, by omega⟩⟩
    refine ⟨vs, ps, q4, t4, ?_, hf, v4, w4⟩
    unfold spec_l06Path.f
    simp only [e0, e1, e2, e3, e4, z1, z2, e5, Option.bind_some, if_true]
    exact Ev.now _
  | false =>
    obtain ⟨a, b, q, t, k1, k2⟩ := pathk_l l hn 6 0 [] [] q0 t0 (by omega) rfl rfl (by simp) rfl v0 w0
    refine ⟨a, b, q, t, ?_, k2⟩
    unfold spec_l06Path.f
    simp only [e0, Option.bind_some, Bool.false_eq_true, if_false]
    exact k1
theorem DrawRight_k : ∃ a b, Ev (fun k => spec_DrawRightPath.f k l) (a, b) ∧ pathGood a b := by
  obtain ⟨s, hs⟩ := new_v l hn
  obtain ⟨a, b, q, t, k1, k2, _⟩ := Path_k l hn 0 s (by omega) (by omega)
  refine ⟨a, b, ?_, k2⟩
  unfold spec_DrawRightPath.f
  exact Ev.bind hs (Ev.bind k1 (Ev.now _))
end

/-! FlatIn -/
theorem rdV16 {x lo hi : Int} (h0 : -8388608 ≤ lo) (h1 : hi ≤ 8388608) (hl : 16 * lo ≤ x) (hh : x ≤ 16 * hi) : lo ≤ rdV x 16 ∧ rdV x 16 ≤ hi := by
  have e : spec_RoundDiv.f x 16 = some (if x - x / 16 * 16 ≥ 16 - (x - x / 16 * 16) then x / 16 + 1 else x / 16) := by
    unfold spec_RoundDiv.f
    rw [if_neg (by omega), spec_FloorDiv_v (by omega) (by omega) (by omega) (by omega), Option.bind_some]
    rw [w64 (x := x / 16 * 16) (by omega) (by omega), w64 (x := x - x / 16 * 16) (by omega) (by omega), w64 (x := 16 - (x - x / 16 * 16)) (by omega) (by omega), w64 (x := x / 16 + 1) (by omega) (by omega)]
    split <;> rfl
  have e2 := Option.some.inj ((spec_rd_v x 16).symm.trans e)
  rw [e2]
  split <;> omega
theorem rdV512 {x lo hi : Int} (h0 : -8388608 ≤ lo) (h1 : hi ≤ 8388608) (hl : 512 * lo ≤ x) (hh : x ≤ 512 * hi) : lo ≤ rdV x 512 ∧ rdV x 512 ≤ hi := by
  have e : spec_RoundDiv.f x 512 = some (if x - x / 512 * 512 ≥ 512 - (x - x / 512 * 512) then x / 512 + 1 else x / 512) := by
    unfold spec_RoundDiv.f
    rw [if_neg (by omega), spec_FloorDiv_v (by omega) (by omega) (by omega) (by omega), Option.bind_some]
    rw [w64 (x := x / 512 * 512) (by omega) (by omega), w64 (x := x - x / 512 * 512) (by omega) (by omega), w64 (x := 512 - (x - x / 512 * 512)) (by omega) (by omega), w64 (x := x / 512 + 1) (by omega) (by omega)]
    split <;> rfl
  have e2 := Option.some.inj ((spec_rd_v x 512).symm.trans e)
  rw [e2]
  split <;> omega
theorem q_sum {w0 w1 w2 a c e lo hi : Int} (h0 : -8388608 ≤ lo) (h1 : hi ≤ 8388608) (n0 : 16 * lo ≤ w0 * a + w1 * c + w2 * e) (n1 : w0 * a + w1 * c + w2 * e ≤ 16 * hi) (b0 : -1000000000 ≤ w0 * a ∧ w0 * a ≤ 1000000000) (b1 : -1000000000 ≤ w1 * c ∧ w1 * c ≤ 1000000000) (b2 : -1000000000 ≤ w2 * e ∧ w2 * e ≤ 1000000000) :
    lo ≤ rdV (wrap64 ((wrap64 ((wrap64 (w0 * a)) + (wrap64 (w1 * c)))) + (wrap64 (w2 * e)))) 16 ∧ rdV (wrap64 ((wrap64 ((wrap64 (w0 * a)) + (wrap64 (w1 * c)))) + (wrap64 (w2 * e)))) 16 ≤ hi := by
  rw [w64 (x := w0 * a) (by omega) (by omega), w64 (x := w1 * c) (by omega) (by omega), w64 (x := w2 * e) (by omega) (by omega), w64 (x := w0 * a + w1 * c) (by omega) (by omega), w64 (by omega) (by omega)]
  exact rdV16 h0 h1 n0 n1
theorem c_sum {w0 w1 w2 w3 a c e g lo hi : Int} (h0 : -8388608 ≤ lo) (h1 : hi ≤ 8388608) (n0 : 512 * lo ≤ w0 * a + w1 * c + w2 * e + w3 * g) (n1 : w0 * a + w1 * c + w2 * e + w3 * g ≤ 512 * hi) (b0 : -10000000000 ≤ w0 * a ∧ w0 * a ≤ 10000000000) (b1 : -10000000000 ≤ w1 * c ∧ w1 * c ≤ 10000000000) (b2 : -10000000000 ≤ w2 * e ∧ w2 * e ≤ 10000000000) (b3 : -10000000000 ≤ w3 * g ∧ w3 * g ≤ 10000000000) :
    lo ≤ rdV (wrap64 ((wrap64 ((wrap64 ((wrap64 (w0 * a)) + (wrap64 (w1 * c)))) + (wrap64 (w2 * e)))) + (wrap64 (w3 * g)))) 512 ∧ rdV (wrap64 ((wrap64 ((wrap64 ((wrap64 (w0 * a)) + (wrap64 (w1 * c)))) + (wrap64 (w2 * e)))) + (wrap64 (w3 * g)))) 512 ≤ hi := by
  rw [w64 (x := w0 * a) (by omega) (by omega), w64 (x := w1 * c) (by omega) (by omega), w64 (x := w2 * e) (by omega) (by omega), w64 (x := w3 * g) (by omega) (by omega), w64 (x := w0 * a + w1 * c) (by omega) (by omega), w64 (x := w0 * a + w1 * c + w2 * e) (by omega) (by omega), w64 (by omega) (by omega)]
  exact rdV512 h0 h1 n0 n1
theorem quadV_b {lo hi a c e : Int} (h0 : -8388608 ≤ lo) (h1 : hi ≤ 8388608) (ha : lo ≤ a ∧ a ≤ hi) (hc : lo ≤ c ∧ c ≤ hi) (he : lo ≤ e ∧ e ≤ hi) (t : Int) (ht : t = 1 ∨ t = 2 ∨ t = 3 ∨ t = 4) : lo ≤ quadV a c e t ∧ quadV a c e t ≤ hi := by
  rcases ht with rfl | rfl | rfl | rfl
  · unfold quadV
    rw [show q0 1 = 9 by simp [q0, wrap64], show q1 1 = 6 by simp [q1, wrap64], show q2 1 = 1 by simp [q2, wrap64]]
    exact q_sum h0 h1 (by omega) (by omega) (by omega) (by omega) (by omega)
  · unfold quadV
    rw [show q0 2 = 4 by simp [q0, wrap64], show q1 2 = 8 by simp [q1, wrap64], show q2 2 = 4 by simp [q2, wrap64]]
    exact q_sum h0 h1 (by omega) (by omega) (by omega) (by omega) (by omega)
  · unfold quadV
    rw [show q0 3 = 1 by simp [q0, wrap64], show q1 3 = 6 by simp [q1, wrap64], show q2 3 = 9 by simp [q2, wrap64]]
    exact q_sum h0 h1 (by omega) (by omega) (by omega) (by omega) (by omega)
  · unfold quadV
    rw [show q0 4 = 0 by simp [q0, wrap64], show q1 4 = 0 by simp [q1, wrap64], show q2 4 = 16 by simp [q2, wrap64]]
    exact q_sum h0 h1 (by omega) (by omega) (by omega) (by omega) (by omega)
theorem cubV_b {lo hi a c e g : Int} (h0 : -8388608 ≤ lo) (h1 : hi ≤ 8388608) (ha : lo ≤ a ∧ a ≤ hi) (hc : lo ≤ c ∧ c ≤ hi) (he : lo ≤ e ∧ e ≤ hi) (hg : lo ≤ g ∧ g ≤ hi) (t : Int) (ht : t = 1 ∨ t = 2 ∨ t = 3 ∨ t = 4 ∨ t = 5 ∨ t = 6 ∨ t = 7 ∨ t = 8) : lo ≤ cubV a c e g t ∧ cubV a c e g t ≤ hi := by
  rcases ht with rfl | rfl | rfl | rfl | rfl | rfl | rfl | rfl
  · unfold cubV
    rw [show c0 1 = 343 by simp [c0, wrap64], show c1 1 = 147 by simp [c1, wrap64], show c2 1 = 21 by simp [c2, wrap64], show c3 1 = 1 by simp [c3, wrap64]]
    exact c_sum h0 h1 (by omega) (by omega) (by omega) (by omega) (by omega) (by omega)
  · unfold cubV
    rw [show c0 2 = 216 by simp [c0, wrap64], show c1 2 = 216 by simp [c1, wrap64], show c2 2 = 72 by simp [c2, wrap64], show c3 2 = 8 by simp [c3, wrap64]]
    exact c_sum h0 h1 (by omega) (by omega) (by omega) (by omega) (by omega) (by omega)
  · unfold cubV
    rw [show c0 3 = 125 by simp [c0, wrap64], show c1 3 = 225 by simp [c1, wrap64], show c2 3 = 135 by simp [c2, wrap64], show c3 3 = 27 by simp [c3, wrap64]]
    exact c_sum h0 h1 (by omega) (by omega) (by omega) (by omega) (by omega) (by omega)
  · unfold cubV
    rw [show c0 4 = 64 by simp [c0, wrap64], show c1 4 = 192 by simp [c1, wrap64], show c2 4 = 192 by simp [c2, wrap64], show c3 4 = 64 by simp [c3, wrap64]]
    exact c_sum h0 h1 (by omega) (by omega) (by omega) (by omega) (by omega) (by omega)
  · unfold cubV
    rw [show c0 5 = 27 by simp [c0, wrap64], show c1 5 = 135 by simp [c1, wrap64], show c2 5 = 225 by simp [c2, wrap64], show c3 5 = 125 by simp [c3, wrap64]]
    exact c_sum h0 h1 (by omega) (by omega) (by omega) (by omega) (by omega) (by omega)
  · unfold cubV
    rw [show c0 6 = 8 by simp [c0, wrap64], show c1 6 = 72 by simp [c1, wrap64], show c2 6 = 216 by simp [c2, wrap64], show c3 6 = 216 by simp [c3, wrap64]]
    exact c_sum h0 h1 (by omega) (by omega) (by omega) (by omega) (by omega) (by omega)
  · unfold cubV
    rw [show c0 7 = 1 by simp [c0, wrap64], show c1 7 = 21 by simp [c1, wrap64], show c2 7 = 147 by simp [c2, wrap64], show c3 7 = 343 by simp [c3, wrap64]]
    exact c_sum h0 h1 (by omega) (by omega) (by omega) (by omega) (by omega) (by omega)
  · unfold cubV
    rw [show c0 8 = 0 by simp [c0, wrap64], show c1 8 = 0 by simp [c1, wrap64], show c2 8 = 0 by simp [c2, wrap64], show c3 8 = 512 by simp [c3, wrap64]]
    exact c_sum h0 h1 (by omega) (by omega) (by omega) (by omega) (by omega) (by omega)
/-- A box of points, as its least and its greatest. -/
def inB (x0 y0 x1 y1 : Int) (p : Pt) : Prop := (x0 ≤ p.f0 ∧ p.f0 ≤ x1) ∧ (y0 ≤ p.f1 ∧ p.f1 ≤ y1)
theorem pAt_in {x0 y0 x1 y1 : Int} {ps : List Pt} (h : ∀ p ∈ ps, inB x0 y0 x1 y1 p) (j : Nat) (hj : j < ps.length) : inB x0 y0 x1 y1 (pAt ps (j : Int)) := by
  have e : pAt ps (j : Int) = ps[j] := rd_impl_Point ps j hj
  rw [e]
  exact h _ (List.getElem_mem hj)
theorem closed_in {x0 y0 x1 y1 : Int} {out : List (List Pt)} {now : List Pt} (ho : ∀ x ∈ out, ∀ p ∈ x, inB x0 y0 x1 y1 p) (hn : ∀ p ∈ now, inB x0 y0 x1 y1 p) : ∀ x ∈ closed out now, ∀ p ∈ x, inB x0 y0 x1 y1 p := by
  unfold closed
  split
  · intro x hx
    rcases List.mem_append.mp hx with h | h
    · exact ho x h
    · obtain rfl := List.mem_singleton.mp h
      exact hn
  · exact ho
section
variable {x0 y0 x1 y1 : Int} (hx0 : -8388608 ≤ x0) (hx1 : x1 ≤ 8388608) (hy0 : -8388608 ≤ y0) (hy1 : y1 ≤ 8388608)
include hx0 hx1 hy0 hy1
theorem inB_ok {p : Pt} (h : inB x0 y0 x1 y1 p) : okPt p = true := by
  unfold okPt
  obtain ⟨⟨a, b⟩, c, d⟩ := h
  exact decide_eq_true ⟨⟨by omega, by omega⟩, ⟨by omega, by omega⟩⟩
theorem quad_in (a b c : Pt) (t : Int) (ht : t = 1 ∨ t = 2 ∨ t = 3 ∨ t = 4) (ha : inB x0 y0 x1 y1 a) (hb : inB x0 y0 x1 y1 b) (hc : inB x0 y0 x1 y1 c) : inB x0 y0 x1 y1 (quadP a b c t) := by
  unfold quadP
  rw [if_pos ⟨inB_ok hx0 hx1 hy0 hy1 ha, inB_ok hx0 hx1 hy0 hy1 hb, inB_ok hx0 hx1 hy0 hy1 hc⟩]
  have e : clampI t 0 4 = t := by
    unfold clampI
    rw [if_neg (by omega), if_neg (by omega)]
  rw [e]
  exact ⟨quadV_b hx0 hx1 ha.1 hb.1 hc.1 t ht, quadV_b hy0 hy1 ha.2 hb.2 hc.2 t ht⟩
theorem cub_in (a b c d : Pt) (t : Int) (ht : t = 1 ∨ t = 2 ∨ t = 3 ∨ t = 4 ∨ t = 5 ∨ t = 6 ∨ t = 7 ∨ t = 8) (ha : inB x0 y0 x1 y1 a) (hb : inB x0 y0 x1 y1 b) (hc : inB x0 y0 x1 y1 c) (hd : inB x0 y0 x1 y1 d) : inB x0 y0 x1 y1 (cubP a b c d t) := by
  unfold cubP
  rw [if_pos ⟨inB_ok hx0 hx1 hy0 hy1 ha, inB_ok hx0 hx1 hy0 hy1 hb, inB_ok hx0 hx1 hy0 hy1 hc, inB_ok hx0 hx1 hy0 hy1 hd⟩]
  have e : clampI t 0 8 = t := by
    unfold clampI
    rw [if_neg (by omega), if_neg (by omega)]
  rw [e]
  exact ⟨cubV_b hx0 hx1 ha.1 hb.1 hc.1 hd.1 t ht, cubV_b hy0 hy1 ha.2 hb.2 hc.2 hd.2 t ht⟩
theorem qFrom_in (a b c : Pt) (ha : inB x0 y0 x1 y1 a) (hb : inB x0 y0 x1 y1 b) (hc : inB x0 y0 x1 y1 c) : ∀ m, m ≤ 4 → ∀ p ∈ qFrom a b c m, inB x0 y0 x1 y1 p
  | 0, _ => by simp [qFrom]
  | m + 1, h => by
    intro p hp
    rw [qFrom] at hp
    rcases List.mem_cons.mp hp with rfl | hp
    · exact quad_in hx0 hx1 hy0 hy1 a b c _ (by omega) ha hb hc
    · exact qFrom_in a b c ha hb hc m (by omega) p hp
theorem cFrom_in (a b c d : Pt) (ha : inB x0 y0 x1 y1 a) (hb : inB x0 y0 x1 y1 b) (hc : inB x0 y0 x1 y1 c) (hd : inB x0 y0 x1 y1 d) : ∀ m, m ≤ 8 → ∀ p ∈ cFrom a b c d m, inB x0 y0 x1 y1 p
  | 0, _ => by simp [cFrom]
  | m + 1, h => by
    intro p hp
    rw [cFrom] at hp
    rcases List.mem_cons.mp hp with rfl | hp
    · exact cub_in hx0 hx1 hy0 hy1 a b c d _ (by omega) ha hb hc hd
    · exact cFrom_in a b c d ha hb hc hd m (by omega) p hp
theorem addF_in (v : Int) (ps now : List Pt) (h0 : 0 ≤ needB v) (hl : needB v ≤ (ps.length : Int)) (hv : v ≠ 1) (hw : 0 < now.length) (hp : ∀ p ∈ ps, inB x0 y0 x1 y1 p) (hn : ∀ p ∈ now, inB x0 y0 x1 y1 p) : ∀ p ∈ addF v ps now, inB x0 y0 x1 y1 p := by
  have hla : inB x0 y0 x1 y1 (lastP now) := by
    have := pAt_in hn (now.length - 1) (by omega)
    rw [show ((now.length - 1 : Nat) : Int) = (now.length : Int) - 1 by omega] at this
    exact this
  have hfi : inB x0 y0 x1 y1 (pAt now 0) := pAt_in hn 0 hw
  unfold addF
  by_cases h2 : v = 2
  · rw [if_pos h2]
    subst h2
    have e : needB 2 = 1 := rfl
    intro p hpp
    obtain rfl := List.mem_singleton.mp hpp
    exact pAt_in hp 0 (by omega)
  · rw [if_neg h2]
    by_cases h3 : v = 3
    · rw [if_pos h3]
      subst h3
      have e : needB 3 = 2 := rfl
      exact qFrom_in hx0 hx1 hy0 hy1 _ _ _ hla (pAt_in hp 0 (by omega)) (pAt_in hp 1 (by omega)) 4 (by omega)
    · rw [if_neg h3]
      by_cases h4 : v = 4
      · rw [if_pos h4]
        subst h4
        have e : needB 4 = 3 := rfl
        exact cFrom_in hx0 hx1 hy0 hy1 _ _ _ _ hla (pAt_in hp 0 (by omega)) (pAt_in hp 1 (by omega)) (pAt_in hp 2 (by omega)) 8 (by omega)
      · rw [if_neg h4]
        split
        · intro p hpp
          obtain rfl := List.mem_singleton.mp hpp
          exact hfi
        · simp
theorem flatF_in : ∀ (vs : List Int) (pv n m : Int) (ps : List Pt) (out : List (List Pt)) (now : List Pt), verbsB pv vs n = some m → n + ps.length = m → (now.length = 0 → pv = 5) → (∀ p ∈ ps, inB x0 y0 x1 y1 p) → (∀ x ∈ out, ∀ p ∈ x, inB x0 y0 x1 y1 p) → (∀ p ∈ now, inB x0 y0 x1 y1 p) →
    ∀ x ∈ flatF vs ps out now, ∀ p ∈ x, inB x0 y0 x1 y1 p
  | [], pv, n, m, ps, out, now, hv, hm, hz, hp, ho, hn => closed_in ho hn
  | v :: vs, pv, n, m, ps, out, now, hv, hm, hz, hp, ho, hn => by
    rw [verbsB] at hv
    split at hv
    · cases hv
    rename_i hneg
    split at hv
    · cases hv
    rename_i hfirst
    have hle := verbsB_le _ _ _ _ hv
    rw [flatF]
    by_cases e1 : v = 1
    · rw [if_pos e1]
      subst e1
      have hd1 : needB 1 = 1 := rfl
      refine flatF_in vs 1 (n + needB 1) m (ps.drop 1) _ _ hv (by rw [List.length_drop]; omega) (fun h => by simp at h) (fun p h => hp p (List.mem_of_mem_drop h)) (closed_in ho hn) (fun p h => ?_)
      obtain rfl := List.mem_singleton.mp h
      exact pAt_in hp 0 (by omega)
    · rw [if_neg e1]
      have hw : 0 < now.length := by
        rcases Nat.eq_zero_or_pos now.length with h | h
        · exact absurd ⟨hz h, e1⟩ hfirst
        · exact h
      refine flatF_in vs v (n + needB v) m (ps.drop (needB v).toNat) _ _ hv (by rw [List.length_drop]; omega) (fun h => by rw [List.length_append] at h; omega) (fun p h => hp p (List.mem_of_mem_drop h)) ho (fun p h => ?_)
      rcases List.mem_append.mp h with h | h
      · exact hn p h
      · exact addF_in hx0 hx1 hy0 hy1 v ps now (by omega) (by omega) e1 hw hp hn p h
end

/-! law_FnFlats -/
theorem taken_v (x : Int) (h : -8388608 ≤ x ∧ x ≤ 8388608) : impl_taken.f x 33554432 = some x := by
  unfold impl_taken.f
  rw [impl_Clamp_v, Option.bind_some, w64 (x := -33554432) (by omega) (by omega)]
  unfold clampI
  rw [if_neg (by omega), if_neg (by omega)]
theorem join_v (a b c d e f g h : Int) (h1 : a < c) (h2 : b < d) (h3 : e < g) (h4 : f < h) : Ev (fun k => impl_JoinBox.f k a b c d e f g h) (mn a e, mn b f, mx c g, mx d h) := by
  have e1 : impl_Empty.f a b c d = some false := by
    unfold impl_Empty.f
    rw [if_neg (by omega), decide_eq_false (by omega)]
  have e2 : impl_Empty.f e f g h = some false := by
    unfold impl_Empty.f
    rw [if_neg (by omega), decide_eq_false (by omega)]
  unfold impl_JoinBox.f
  simp only [e1, Option.bind_some, Bool.false_eq_true, if_false]
  refine ev_done (fun k => ?_)
  simp only [impl_JoinBox.j0, e1, e2, Option.bind_some, Bool.false_eq_true, if_false]
theorem box_l (pts : List Pt) (hn : pts.length ≤ 24) (hp : ∀ p ∈ pts, inB (-8388608) (-8388608) 8388608 8388608 p) : ∀ (d i : Nat) (x0 y0 x1 y1 : Int), i + d = pts.length → 0 < i → -8388608 ≤ x0 → x0 ≤ x1 → x1 ≤ 8388608 → -8388608 ≤ y0 → y0 ≤ y1 → y1 ≤ 8388608 → (∀ (j : Nat) (h : j < pts.length), j < i → inB x0 y0 x1 y1 pts[j]) →
    ∃ u0 v0 u1 v1 : Int, Ev (fun k => impl_BoxOf.l0 k pts (pts.length : Int) (i : Int) x0 y0 (x1 + 1) (y1 + 1)) (u0, v0, u1 + 1, v1 + 1) ∧ (-8388608 ≤ u0 ∧ u1 ≤ 8388608 ∧ -8388608 ≤ v0 ∧ v1 ≤ 8388608) ∧ ∀ p ∈ pts, inB u0 v0 u1 v1 p := by
  intro d
  induction d with
  | zero =>
    intro i x0 y0 x1 y1 hi h0 a0 a1 a2 b0 b1 b2 hj
    refine ⟨x0, y0, x1, y1, ev_done (fun k => ?_), ⟨a0, a2, b0, b2⟩, fun p hpp => ?_⟩
    · simp only [impl_BoxOf.l0]
      rw [if_neg (by omega)]
    · obtain ⟨j, hj2, rfl⟩ := List.getElem_of_mem hpp
      exact hj j hj2 (by omega)
  | succ d ih =>
    intro i x0 y0 x1 y1 hi h0 a0 a1 a2 b0 b1 b2 hj
    have hi2 : i < pts.length := by omega
    have r1 := rd_impl_Point pts i hi2
    obtain ⟨⟨p0, p1⟩, p2, p3⟩ := hp _ (List.getElem_mem hi2)
    have hji : ∀ (q0 q1 q2 q3 : Int), q0 = mn x0 pts[i].f0 → q1 = mn y0 pts[i].f1 → q2 + 1 = mx (x1 + 1) (pts[i].f0 + 1) → q3 + 1 = mx (y1 + 1) (pts[i].f1 + 1) → ∃ u0 v0 u1 v1 : Int, Ev (fun k => impl_BoxOf.l0 k pts (pts.length : Int) ((i + 1 : Nat) : Int) q0 q1 (q2 + 1) (q3 + 1)) (u0, v0, u1 + 1, v1 + 1) ∧ (-8388608 ≤ u0 ∧ u1 ≤ 8388608 ∧ -8388608 ≤ v0 ∧ v1 ≤ 8388608) ∧ ∀ p ∈ pts, inB u0 v0 u1 v1 p := by
      intro q0 q1 q2 q3 e0 e1 e2 e3
      unfold mn at e0 e1
      unfold mx at e2 e3
      refine ih (i + 1) q0 q1 q2 q3 (by omega) (by omega) (by split at e0 <;> omega) (by split at e0 <;> split at e2 <;> omega) (by split at e2 <;> omega) (by split at e1 <;> omega) (by split at e1 <;> split at e3 <;> omega) (by split at e3 <;> omega) (fun j h hji => ?_)
      by_cases hje : j = i
      · subst hje
        exact ⟨⟨by split at e0 <;> omega, by split at e2 <;> omega⟩, ⟨by split at e1 <;> omega, by split at e3 <;> omega⟩⟩
      · obtain ⟨⟨c0, c1⟩, c2, c3⟩ := hj j h (by omega)
        exact ⟨⟨by split at e0 <;> omega, by split at e2 <;> omega⟩, ⟨by split at e1 <;> omega, by split at e3 <;> omega⟩⟩
    obtain ⟨u0, v0, u1, v1, k1, k2⟩ := hji _ _ (mx (x1 + 1) (pts[i].f0 + 1) - 1) (mx (y1 + 1) (pts[i].f1 + 1) - 1) rfl rfl (by omega) (by omega)
    refine ⟨u0, v0, u1, v1, Ev.step (fun k => rfl) ?_, k2⟩
    simp only [impl_BoxOf.l0, if_pos (show (i : Int) < (pts.length : Int) by omega), if_pos (show (0 : Int) ≤ (i : Int) by omega), r1, taken_v _ ⟨p0, p1⟩, taken_v _ ⟨p2, p3⟩, Option.bind_some, if_neg (show ¬ (i : Int) = 0 by omega), w64 (x := pts[i].f0 + 1) (by omega) (by omega), w64 (x := pts[i].f1 + 1) (by omega) (by omega), step64 hi2 (show pts.length ≤ 4611686018427387904 by omega)]
    refine Ev.bind (join_v x0 y0 (x1 + 1) (y1 + 1) pts[i].f0 pts[i].f1 (pts[i].f0 + 1) (pts[i].f1 + 1) (by omega) (by omega) (by omega) (by omega)) ?_
    rw [show mx (x1 + 1) (pts[i].f0 + 1) - 1 + 1 = mx (x1 + 1) (pts[i].f0 + 1) by omega, show mx (y1 + 1) (pts[i].f1 + 1) - 1 + 1 = mx (y1 + 1) (pts[i].f1 + 1) by omega] at k1
    exact k1
theorem box_v (pts : List Pt) (h0 : 0 < pts.length) (hn : pts.length ≤ 24) (hp : ∀ p ∈ pts, inB (-8388608) (-8388608) 8388608 8388608 p) :
    ∃ u0 v0 u1 v1 : Int, Ev (fun k => impl_BoxOf.f k pts) (u0, v0, u1 + 1, v1 + 1) ∧ (-8388608 ≤ u0 ∧ u1 ≤ 8388608 ∧ -8388608 ≤ v0 ∧ v1 ≤ 8388608) ∧ ∀ p ∈ pts, inB u0 v0 u1 v1 p := by
  have r1 : rd_T46 pts 0 = pts[0] := rd_impl_Point pts 0 h0
  obtain ⟨⟨p0, p1⟩, p2, p3⟩ := hp _ (List.getElem_mem h0)
  obtain ⟨u0, v0, u1, v1, k1, k2⟩ := box_l pts hn hp (pts.length - 1) 1 pts[0].f0 pts[0].f1 pts[0].f0 pts[0].f1 (by omega) (by omega) p0 (by omega) p1 p2 (by omega) p3 (fun j h hj => by
    have : j = 0 := by omega
    subst this
    exact ⟨⟨by omega, by omega⟩, ⟨by omega, by omega⟩⟩)
  refine ⟨u0, v0, u1, v1, ?_, k2⟩
  unfold impl_BoxOf.f
  refine Ev.step (fun k => rfl) ?_
  simp only [impl_BoxOf.l0, if_pos (show (0 : Int) < (pts.length : Int) by omega), if_pos (show (0 : Int) ≤ 0 by omega), r1, taken_v _ ⟨p0, p1⟩, taken_v _ ⟨p2, p3⟩, Option.bind_some, if_pos rfl, w64 (x := pts[0].f0 + 1) (by omega) (by omega), w64 (x := pts[0].f1 + 1) (by omega) (by omega), w64 (x := 0 + 1) (by omega) (by omega)]
  have hj := join_v pts[0].f0 pts[0].f1 (pts[0].f0 + 1) (pts[0].f1 + 1) pts[0].f0 pts[0].f1 (pts[0].f0 + 1) (pts[0].f1 + 1) (by omega) (by omega) (by omega) (by omega)
  have m0 : ∀ a : Int, mn a a = a := fun a => by unfold mn; split <;> rfl
  have m1 : ∀ a : Int, mx a a = a := fun a => by unfold mx; split <;> rfl
  rw [m0, m0, m1, m1] at hj
  exact Ev.bind hj k1
def count1 : List Int → Nat
  | [] => 0
  | v :: vs => (if v = 1 then 1 else 0) + count1 vs
theorem now_pos {v pv : Int} {now : List Pt} (hz : now.length = 0 → pv = 5) (e1 : v ≠ 1) (hf : ¬ (pv = 5 ∧ v ≠ 1)) : 0 < now.length := by
  rcases Nat.eq_zero_or_pos now.length with h | h
  · exact absurd ⟨hz h, e1⟩ hf
  · exact h
theorem flatF_count : ∀ (vs : List Int) (pv n m : Int) (ps : List Pt) (out : List (List Pt)) (now : List Pt), verbsB pv vs n = some m → (now.length = 0 → pv = 5) → (flatF vs ps out now).length = (closed out now).length + count1 vs
  | [], pv, n, m, ps, out, now, hv, hz => rfl
  | v :: vs, pv, n, m, ps, out, now, hv, hz => by
    rw [verbsB] at hv
    split at hv
    · cases hv
    rename_i hneg
    split at hv
    · cases hv
    rename_i hfirst
    rw [flatF, count1]
    by_cases e1 : v = 1
    · rw [if_pos e1, if_pos e1, flatF_count vs v _ m _ _ _ hv (fun h => by simp at h)]
      unfold closed
      simp
      omega
    · have hw := now_pos hz e1 hfirst
      rw [if_neg e1, if_neg e1, flatF_count vs v _ m _ _ _ hv (fun h => by rw [List.length_append] at h; omega)]
      unfold closed
      rw [if_pos hw, if_pos (by rw [List.length_append]; omega)]
      simp
def hdP (L : List (List Pt)) : Option Pt := L.head?.bind List.head?
theorem hdP_app (a b : List (List Pt)) (h : 0 < a.length) : hdP (a ++ b) = hdP a := by
  cases a with
  | nil => simp at h
  | cons => rfl
theorem flatF_hd : ∀ (vs : List Int) (ps : List Pt) (out : List (List Pt)) (now : List Pt), 0 < now.length → hdP (flatF vs ps out now) = hdP (out ++ [now])
  | [], ps, out, now, hw => by
    rw [flatF, closed, if_pos hw]
  | v :: vs, ps, out, now, hw => by
    rw [flatF]
    by_cases e1 : v = 1
    · rw [if_pos e1, flatF_hd vs _ _ _ (by simp), closed, if_pos hw, hdP_app _ _ (by simp)]
    · rw [if_neg e1, flatF_hd vs _ _ _ (by rw [List.length_append]; omega)]
      cases out with
      | nil =>
        cases now with
        | nil => simp at hw
        | cons => rfl
      | cons => rfl
theorem lastP_snoc (a : List Pt) (x : Pt) : lastP (a ++ [x]) = x := by
  unfold lastP
  have e : ((a ++ [x]).length : Int) - 1 = (a.length : Int) := by simp
  rw [e]
  show rd_T46 _ _ = x
  rw [rd_impl_Point _ _ (by simp)]
  simp
theorem neP_self (x : Pt) : neP x x = false := by
  unfold neP
  simp
theorem closes (ps now : List Pt) (hw : 0 < now.length) : neP (pAt (now ++ addF 5 ps now) 0) (lastP (now ++ addF 5 ps now)) = false := by
  have e : addF 5 ps now = if neP (pAt now 0) (lastP now) = true then [pAt now 0] else [] := rfl
  rw [e]
  by_cases h : neP (pAt now 0) (lastP now) = true
  · rw [if_pos h, lastP_snoc]
    have e2 : pAt (now ++ [pAt now 0]) 0 = pAt now 0 := by
      cases now with
      | nil => simp at hw
      | cons => rfl
    rw [e2, neP_self]
  · rw [if_neg h, List.append_nil]
    simpa using h
theorem flatF_last : ∀ (vs : List Int) (pv n m : Int) (ps : List Pt) (out : List (List Pt)) (now : List Pt), verbsB pv vs n = some m → (now.length = 0 → pv = 5) → 0 < vs.length → ∃ L x, flatF vs ps out now = L ++ [x] ∧ 0 < x.length ∧ (rd vs ((vs.length - 1 : Nat) : Int) = 5 → neP (pAt x 0) (lastP x) = false)
  | [], pv, n, m, ps, out, now, hv, hz, h0 => absurd h0 (by simp)
  | [v], pv, n, m, ps, out, now, hv, hz, h0 => by
    rw [verbsB] at hv
    split at hv
    · cases hv
    rename_i hneg
    split at hv
    · cases hv
    rename_i hfirst
    rw [flatF]
    by_cases e1 : v = 1
    · rw [if_pos e1]
      refine ⟨closed out now, [pAt ps 0], rfl, by simp, fun h => ?_⟩
      have h2 : v = 5 := h
      omega
    · have hw := now_pos hz e1 hfirst
      rw [if_neg e1, flatF, closed, if_pos (by rw [List.length_append]; omega)]
      refine ⟨out, now ++ addF v ps now, rfl, by rw [List.length_append]; omega, fun h => ?_⟩
      have h2 : v = 5 := h
      subst h2
      exact closes ps now hw
  | v :: u :: vs, pv, n, m, ps, out, now, hv, hz, h0 => by
    rw [verbsB] at hv
    split at hv
    · cases hv
    rename_i hneg
    split at hv
    · cases hv
    rename_i hfirst
    have er : rd (v :: u :: vs) (((v :: u :: vs).length - 1 : Nat) : Int) = rd (u :: vs) (((u :: vs).length - 1 : Nat) : Int) := by
      rw [rd_int _ _ (by simp), rd_int _ _ (by simp)]
      rfl
    rw [flatF, er]
    by_cases e1 : v = 1
    · rw [if_pos e1]
      exact flatF_last (u :: vs) v _ m _ _ _ hv (fun h => by simp at h) (by simp)
    · have hw := now_pos hz e1 hfirst
      rw [if_neg e1]
      exact flatF_last (u :: vs) v _ m _ _ _ hv (fun h => by rw [List.length_append] at h; omega) (by simp)
theorem samePts_l (q : List Pt) (hn : q.length ≤ 1000) : ∀ (d i : Nat), i + d = q.length → Ev (fun k => laws_samePoints.l0 k q q (i : Int)) true := by
  intro d
  induction d with
  | zero =>
    intro i hi
    refine ev_done (fun k => ?_)
    simp only [laws_samePoints.l0]
    rw [if_neg (by omega)]
  | succ d ih =>
    intro i hi
    have hi2 : i < q.length := by omega
    refine Ev.step (fun k => ?_) (ih (i + 1) (by omega))
    simp only [laws_samePoints.l0]
    rw [if_pos (by omega), if_pos (by omega), if_pos (by omega), if_neg (by simp), step64 hi2 (by omega)]
theorem samePts_v (q : List Pt) (hn : q.length ≤ 1000) : Ev (fun k => laws_samePoints.f k q q) true := by
  unfold laws_samePoints.f
  simp only [if_true]
  exact samePts_l q hn q.length 0 (by omega)
section
variable (Q : List (List Pt)) (hn : Q.length ≤ 1000) (hm : ∀ x ∈ Q, x.length ≤ 1000)
include hn hm
theorem sameLines_l : ∀ (d i : Nat), i + d = Q.length → Ev (fun k => laws_sameLines.l0 k Q Q (i : Int)) true := by
  intro d
  induction d with
  | zero =>
    intro i hi
    refine ev_done (fun k => ?_)
    simp only [laws_sameLines.l0]
    rw [if_neg (by omega)]
  | succ d ih =>
    intro i hi
    have hi2 : i < Q.length := by omega
    refine Ev.step (fun k => rfl) ?_
    simp only [laws_sameLines.l0, rd_impl_PointSS Q i hi2, if_pos (show (i : Int) < (Q.length : Int) by omega), if_pos (show (0 : Int) ≤ (i : Int) by omega), step64 hi2 (show Q.length ≤ 4611686018427387904 by omega)]
    refine Ev.bind (samePts_v _ (hm _ (List.getElem_mem hi2))) ?_
    simp only [if_true]
    exact ih (i + 1) (by omega)
theorem sameLines_v : Ev (fun k => laws_sameLines.f k Q Q) true := by
  unfold laws_sameLines.f
  simp only [if_true]
  exact sameLines_l Q hn hm Q.length 0 (by omega)
end
theorem hd_of {Q : List (List Pt)} {p : Pt} (h : hdP Q = some p) : 0 < Q.length ∧ 0 < (rd_L2 Q 0).length ∧ rd_T46 (rd_L2 Q 0) 0 = p := by
  cases Q with
  | nil => simp [hdP] at h
  | cons q Q =>
    have e : rd_L2 (q :: Q) 0 = q := rd_impl_PointSS (q :: Q) 0 (by simp)
    rw [e]
    cases q with
    | nil => simp [hdP] at h
    | cons u q =>
      have e2 : rd_T46 (u :: q) 0 = u := rd_impl_Point (u :: q) 0 (by simp)
      refine ⟨by simp, by simp, ?_⟩
      rw [e2]
      exact Option.some.inj h
section
variable (Q : List (List Pt)) (hn : Q.length ≤ 1000) (hm : ∀ x ∈ Q, x.length ≤ 1000) (vs : List Int) (hv : 0 < vs.length) (hv2 : vs.length ≤ 24) (pts : List Pt) (hp : 0 < pts.length) (u0 v0 u1 v1 : Int)
  (hin : ∀ x ∈ Q, ∀ p ∈ x, inB u0 v0 u1 v1 p) (hhd : hdP Q = some (pAt pts 0)) (hla : ∃ L x, Q = L ++ [x] ∧ 0 < x.length ∧ (rd vs ((vs.length - 1 : Nat) : Int) = 5 → neP (pAt x 0) (lastP x) = false))
include hn hm hv hv2 hp hin hhd hla
omit hin in
theorem fin_v : Ev (fun k => laws_FnFlats.l1 k Q (Q.length : Int) (Q.length : Int) vs pts u0 v0 (u1 + 1) (v1 + 1)) true := by
  obtain ⟨L, x, hQ, hx, h5⟩ := hla
  obtain ⟨q0, q1, q2⟩ := hd_of hhd
  have hxl : x.length ≤ 1000 := hm x (by rw [hQ]; simp)
  have e1 : wrap64 ((Q.length : Int) - 1) = (L.length : Int) := by
    rw [w64 (by omega) (by omega), hQ]
    simp
  have e2 : rd_L2 Q (L.length : Int) = x := by
    rw [rd_impl_PointSS _ _ (by rw [hQ]; simp)]
    simp [hQ]
  have e3 : wrap64 ((vs.length : Int) - 1) = ((vs.length - 1 : Nat) : Int) := by
    rw [w64 (by omega) (by omega)]
    omega
  have e4 : wrap64 ((x.length : Int) - 1) = (x.length : Int) - 1 := w64 (by omega) (by omega)
  have hL : (L.length : Int) < (Q.length : Int) := by
    rw [hQ, List.length_append, List.length_singleton]
    omega
  have hf : (((rd_T46 (rd_L2 Q 0) 0).f0) == ((rd_T46 pts 0).f0) && (((rd_T46 (rd_L2 Q 0) 0).f1) == ((rd_T46 pts 0).f1))) = true := by
    rw [q2]
    simp
  refine ev_done (fun k => ?_)
  simp only [laws_FnFlats.l1, e1, e2, e3, e4, hf]
  rw [if_neg (by omega), if_pos (by omega), if_pos hL, if_pos (by omega), if_pos (by omega)]
  by_cases h : rd vs ((vs.length - 1 : Nat) : Int) = 5
  · have hne : ¬ (!(((rd_T46 x 0).f0) == ((rd_T46 x ((x.length : Int) - 1)).f0)) || (!(((rd_T46 x 0).f1) == ((rd_T46 x ((x.length : Int) - 1)).f1)))) = true := by
      have := h5 h
      unfold neP lastP at this
      exact fun h2 => absurd (this.symm.trans h2) Bool.false_ne_true
    rw [if_pos h, if_pos (by omega), if_pos (by omega), if_pos (by omega), if_neg hne, if_pos trivial, if_pos (by omega), if_pos (by omega), if_pos (by omega)]
  · rw [if_neg h, if_pos trivial, if_pos (by omega), if_pos (by omega), if_pos (by omega)]
omit hv hv2 hp hhd in
theorem line_l (i : Nat) (hi : i < Q.length) (r : Bool) (H : Ev (fun k => laws_FnFlats.l1 k Q (Q.length : Int) ((i + 1 : Nat) : Int) vs pts u0 v0 (u1 + 1) (v1 + 1)) r) : ∀ (d j : Nat), j + d = Q[i].length → Ev (fun k => laws_FnFlats.l2 k Q (Q.length : Int) (i : Int) (j : Int) vs pts u0 v0 (u1 + 1) (v1 + 1)) r := by
  have hil := hm _ (List.getElem_mem hi)
  have rl := rd_impl_PointSS Q i hi
  intro d
  induction d with
  | zero =>
    intro j hj
    refine Ev.step (fun k => ?_) H
    simp only [laws_FnFlats.l2, rl]
    rw [if_pos (by omega), if_pos (by omega), if_neg (by omega), step64 hi (by omega)]
  | succ d ih =>
    intro j hj
    have hj2 : j < Q[i].length := by omega
    obtain ⟨⟨a0, a1⟩, a2, a3⟩ := hin _ (List.getElem_mem hi) _ (List.getElem_mem hj2)
    have hb : spec_InBox.f u0 v0 (u1 + 1) (v1 + 1) Q[i][j].f0 Q[i][j].f1 = some true := by
      unfold spec_InBox.f
      rw [if_pos a0, if_pos (by omega), if_pos a2, decide_eq_true (by omega)]
    refine Ev.step (fun k => ?_) (ih (j + 1) (by omega))
    simp only [laws_FnFlats.l2, rl, rd_impl_Point _ j hj2, hb, Option.bind_some]
    rw [if_pos (by omega), if_pos (by omega), if_pos (by omega), if_pos (by omega), if_pos trivial, step64 hj2 (by omega)]
theorem lines_l : ∀ (d i : Nat), i + d = Q.length → Ev (fun k => laws_FnFlats.l1 k Q (Q.length : Int) (i : Int) vs pts u0 v0 (u1 + 1) (v1 + 1)) true := by
  intro d
  induction d with
  | zero =>
    intro i hi
    have : i = Q.length := by omega
    subst this
    exact fin_v Q hn hm vs hv hv2 pts hp u0 v0 u1 v1 hhd hla
  | succ d ih =>
    intro i hi
    have hi2 : i < Q.length := by omega
    refine Ev.step (fun k => ?_) (line_l Q hn hm vs pts u0 v0 u1 v1 hin hla i hi2 true (ih (i + 1) (by omega)) Q[i].length 0 (by omega))
    simp only [laws_FnFlats.l1]
    rw [if_pos (by omega)]
    rfl
theorem moves_l : ∀ (d i c : Nat), i + d = vs.length → c + count1 (vs.drop i) = Q.length → Ev (fun k => laws_FnFlats.l0 k Q (c : Int) (i : Int) vs pts u0 v0 (u1 + 1) (v1 + 1)) true := by
  intro d
  induction d with
  | zero =>
    intro i c hi hc
    rw [List.drop_of_length_le (by omega), count1] at hc
    have hc2 : c = Q.length := by omega
    subst hc2
    refine Ev.step (fun k => ?_) (lines_l Q hn hm vs hv hv2 pts hp u0 v0 u1 v1 hin hhd hla Q.length 0 (by omega))
    simp only [laws_FnFlats.l0]
    rw [if_neg (by omega)]
    rfl
  | succ d ih =>
    intro i c hi hc
    have hi2 : i < vs.length := by omega
    rw [List.drop_eq_getElem_cons hi2, count1] at hc
    by_cases h1 : vs[i] = 1
    · rw [if_pos h1] at hc
      refine Ev.step (fun k => ?_) (ih (i + 1) (c + 1) (by omega) (by omega))
      simp only [laws_FnFlats.l0, rd_int _ _ hi2]
      rw [if_pos (by omega), if_pos (by omega), if_pos h1, step64 hi2 (by omega), step64 (n := c + 1) (by omega) (by omega)]
    · rw [if_neg h1] at hc
      refine Ev.step (fun k => ?_) (ih (i + 1) c (by omega) (by omega))
      simp only [laws_FnFlats.l0, rd_int _ _ hi2]
      rw [if_pos (by omega), if_pos (by omega), if_neg h1, step64 hi2 (by omega)]
end
theorem FnFlats : laws_FnFlats.Pure := by
  intro l a b c
  refine Ev.rounds ?_
  simp only [laws_FnFlats.f, laws_big.f, Option.bind_some]
  by_cases hb : (l.length : Int) > 1048576
  · simp only [decide_eq_true hb, if_true]
    exact Ev.now true
  · simp only [decide_eq_false hb, Bool.false_eq_true, if_false]
    obtain ⟨vs, pts, hd, g0, g1, g2⟩ := DrawRight_k l (by omega)
    obtain ⟨k1, k2, k3, k4⟩ := flat_v vs pts g2
    have hpk := impl_PathOk_v vs pts
    rw [g2] at hpk
    unfold pathB at g2
    simp only [Bool.and_eq_true, decide_eq_true_eq] at g2
    obtain ⟨b1, b2, b3, b4⟩ := g2
    have hv : verbsB 5 vs 0 = some (pts.length : Int) := by
      cases hq : verbsB 5 vs 0 with
      | none => rw [hq] at b4; simp [endB] at b4
      | some m => rw [hq] at b4; simp [endB] at b4; rw [b4]
    obtain ⟨v, vt, rfl⟩ : ∃ v vt, vs = v :: vt := by
      cases vs with
      | nil => simp at g0
      | cons v vt => exact ⟨v, vt, rfl⟩
    have hv1 : v = 1 := by
      have h := hv
      rw [verbsB] at h
      split at h
      · cases h
      · split at h
        · cases h
        · rename_i hf
          by_cases h1 : v = 1
          · exact h1
          · exact absurd ⟨rfl, h1⟩ hf
    subst hv1
    have hp0 : 0 < pts.length := by
      have h := hv
      rw [verbsB] at h
      split at h
      · cases h
      · split at h
        · cases h
        · have h1 := verbsB_le _ _ _ _ h
          have h2 : needB 1 = 1 := rfl
          omega
    have hpin : ∀ p ∈ pts, inB (-8388608) (-8388608) 8388608 8388608 p := fun p hp => by
      unfold pointsB at b3
      have := List.all_eq_true.mp b3 p hp
      simp only [decide_eq_true_eq] at this
      exact this
    obtain ⟨u0, v0, u1, v1, hbox, ⟨c0, c1, c2, c3⟩, hin⟩ := box_v pts hp0 b1 hpin
    have hfin := flatF_in c0 c1 c2 c3 (1 :: vt) 5 0 pts.length pts [] [] hv (by omega) (fun _ => rfl) hin (by simp) (by simp)
    have hcnt := flatF_count (1 :: vt) 5 0 pts.length pts [] [] hv (fun _ => rfl)
    have hla := flatF_last (1 :: vt) 5 0 pts.length pts [] [] hv (fun _ => rfl) (by simp)
    have hhd : hdP (flatF (1 :: vt) pts [] []) = some (pAt pts 0) := by
      rw [flatF, if_pos rfl, flatF_hd _ _ _ _ (by simp)]
      rfl
    generalize hQ : flatF (1 :: vt) pts [] [] = Q at k1 k2 k3 k4 hfin hcnt hla hhd
    have hQ0 := (hd_of hhd).1
    have hull : Ev (fun k => impl_Hull.f k (1 :: vt) pts) (u0, v0, u1 + 1, v1 + 1) := by
      unfold impl_Hull.f
      refine Ev.bind hpk ?_
      simp only [if_true]
      exact Ev.bind hbox (Ev.now _)
    have k5 : ∀ x ∈ Q, x.length ≤ 1000 := fun x hx => by
      have := k4 x hx
      omega
    refine Ev.bind hd (Ev.bind k2 (Ev.bind hull (Ev.bind k1 (Ev.bind (sameLines_v Q (by omega) k5) ?_))))
    have e0 : ((Q.length : Int) == 0) = false := by
      rw [beq_eq_false_iff_ne]
      omega
    simp only [if_true, e0]
    refine Ev.step (fun k => rfl) ?_
    simp only [laws_FnFlats.j0, Bool.false_eq_true, if_false]
    exact moves_l Q (by omega) k5 (1 :: vt) (by simp) g1 pts hp0 u0 v0 u1 v1 hfin hhd hla (1 :: vt).length 0 0 (by omega) (by rw [List.drop_zero, hcnt]; simp [closed])

end Go.Proofs.Ytdpnimngndemiaa.Pure
