/- The pure statement of the law FnTrees, for every input: what the printed functions compute makes the law answer true. No conditions beyond what the row reads. -/
import Derived.Test.YtjfienkbcacijaaMFnTreesx17
namespace Go.Proofs.Ytjfienkbcacijaa.Pure
open Go.RowKit Go.Proofs.Ytjfienkbcacijaa.MFnTrees Go.Proofs.YtjfienkbcacijaaW.PrintWords Go.Proofs.YtjfienkbcacijaaW.PrintLast
set_option linter.unusedVariables false
set_option linter.unusedSimpArgs false

/-! base -/
theorem w64 {x : Int} (h1 : -9223372036854775808 ≤ x) (h2 : x ≤ 9223372036854775807) : wrap64 x = x := by
 unfold wrap64
 omega

theorem wf64 {x : Int} (h : (Lit.int .i64 x).wf = true) : -9223372036854775808 ≤ x ∧ x ≤ 9223372036854775807 := by
 have h2 : (decide (IntKind.i64.min ≤ x) && decide (x ≤ IntKind.i64.max)) = true := h
 rw [Bool.and_eq_true, decide_eq_true_eq, decide_eq_true_eq] at h2
 exact ⟨h2.1, h2.2⟩

theorem take_set_succ {α : Type} (xs : List α) (i : Nat) (v : α) (h : i < xs.length) : (xs.set i v).take (i + 1) = xs.take i ++ [v] := by
 rw [List.take_succ_eq_append_getElem (by simpa using h), List.take_set_of_le (Nat.le_refl i), List.getElem_set_self]

theorem step64 {i n : Nat} (h : i < n) (hn : n ≤ 4611686018427387904) : wrap64 ((i : Int) + 1) = ((i + 1 : Nat) : Int) := by
 rw [w64 (by omega) (by omega)]
 omega

theorem ev_done {α : Type} {g : Nat → Option α} {r : α} (h : ∀ k, g (k + 1) = some r) : Ev g r := Ev.step (f := fun _ => some r) h (Ev.now r)

theorem ev_const {α : Type} {o : Option α} {r : α} (h : o = some r) : Ev (fun _ => o) r := by
 subst h
 exact Ev.now r

/-! impl_inRange -/
theorem impl_inRange_v (a b c : Int) : impl_inRange.f a b c = some (decide (b ≤ a ∧ a ≤ c)) := by
 unfold impl_inRange.f
 by_cases h : a ≥ b
 ·rw [if_pos h]
  simp [h]
 ·rw [if_neg h]
  simp
  omega

/-! impl_isByte -/
theorem impl_isByte_v (a : Int) : impl_isByte.f a = some (decide (0 ≤ a ∧ a ≤ 255)) := by
 unfold impl_isByte.f
 simp only [impl_inRange_v, Option.bind_some]

/-! impl_ColorOk -/
theorem impl_ColorOk_v (a b c d : Int) : impl_ColorOk.f a b c d = some (decide ((0 ≤ a ∧ a ≤ 255) ∧ (0 ≤ b ∧ b ≤ 255) ∧ (0 ≤ c ∧ c ≤ 255) ∧ (0 ≤ d ∧ d ≤ 255))) := by
 unfold impl_ColorOk.f
 simp only [impl_isByte_v, Option.bind_some, decide_eq_true_eq]
 repeat' split
 all_goals first | (refine congrArg some (decide_eq_decide.mpr ?_); omega) | (refine congrArg some (Eq.symm (decide_eq_false ?_)); omega)

/-! impl_isFar -/
theorem impl_isFar_v (a : Int) : impl_isFar.f a = some (decide (-8388608 ≤ a ∧ a ≤ 8388608)) := by
 unfold impl_isFar.f
 simp only [impl_inRange_v, Option.bind_some]

/-! pointOkP -/
def pointOkP (a b : Int) : Prop := (-8388608 ≤ a ∧ a ≤ 8388608) ∧ (-8388608 ≤ b ∧ b ≤ 8388608)
instance (a b : Int) : Decidable (pointOkP a b) := by unfold pointOkP; infer_instance

/-! impl_PointOk -/
theorem impl_PointOk_v (a b : Int) : impl_PointOk.f a b = some (decide (pointOkP a b)) := by
 unfold impl_PointOk.f pointOkP
 simp only [impl_isFar_v, Option.bind_some, decide_eq_true_eq]
 repeat' split
 all_goals first | (refine congrArg some (decide_eq_decide.mpr ?_); omega) | (refine congrArg some (Eq.symm (decide_eq_false ?_)); omega)

/-! impl_paintB -/
def paintB (a14 a15 a16 a17 a18 a19 a20 a21 a22 a23 a24 a25 a26 : Int) : Bool := (impl_PaintOk.f a14 a15 a16 a17 a18 a19 a20 a21 a22 a23 a24 a25 a26).getD false
theorem impl_paint_g (a14 a15 a16 a17 a18 a19 a20 a21 a22 a23 a24 a25 a26 : Int) : impl_PaintOk.f a14 a15 a16 a17 a18 a19 a20 a21 a22 a23 a24 a25 a26 = some (paintB a14 a15 a16 a17 a18 a19 a20 a21 a22 a23 a24 a25 a26) := by
 have h : ∃ r, impl_PaintOk.f a14 a15 a16 a17 a18 a19 a20 a21 a22 a23 a24 a25 a26 = some r := by
  unfold impl_PaintOk.f
  simp only [impl_ColorOk_v, impl_PointOk_v, Option.bind_some]
  repeat' split
  all_goals exact ⟨_, rfl⟩
 obtain ⟨r, h⟩ := h
 unfold paintB
 rw [h]
 rfl
def colP (a b c d : Int) : Prop := (0 ≤ a ∧ a ≤ 255) ∧ (0 ≤ b ∧ b ≤ 255) ∧ (0 ≤ c ∧ c ≤ 255) ∧ (0 ≤ d ∧ d ≤ 255)
def goodP (a0 a1 a2 a3 a4 a5 a6 a7 a8 a9 a10 a11 a12 : Int) : Prop :=
 colP a1 a2 a3 a4 ∧ ((a0 = 1 ∧ (a5 = 0 ∧ a6 = 0 ∧ a7 = 0 ∧ a8 = 0) ∧ (a9 = 0 ∧ a10 = 0) ∧ (a11 = 0 ∧ a12 = 0)) ∨ (a0 = 2 ∧ colP a5 a6 a7 a8 ∧ pointOkP a9 a10 ∧ pointOkP a11 a12 ∧ ¬ (a9 = a11 ∧ a10 = a12)))
theorem colP_ok {a b c d : Int} (h : colP a b c d) : impl_ColorOk.f a b c d = some true := by
 rw [impl_ColorOk_v]
 exact congrArg some (decide_eq_true h)
theorem good_ok {a0 a1 a2 a3 a4 a5 a6 a7 a8 a9 a10 a11 a12 : Int} (h : goodP a0 a1 a2 a3 a4 a5 a6 a7 a8 a9 a10 a11 a12) : paintB a0 a1 a2 a3 a4 a5 a6 a7 a8 a9 a10 a11 a12 = true := by
 obtain ⟨h1, h2⟩ := h
 unfold paintB impl_PaintOk.f
 rcases h2 with ⟨rfl, ⟨rfl, rfl, rfl, rfl⟩, ⟨rfl, rfl⟩, rfl, rfl⟩ | ⟨rfl, h3, h4, h5, h6⟩
 ·simp [colP_ok h1]
 ·rw [if_neg (by omega), if_pos rfl]
  simp only [if_true, colP_ok h1, colP_ok h3, impl_PointOk_v, decide_eq_true h4, decide_eq_true h5, Option.bind_some]
  by_cases e : a9 = a11
  ·subst e
   have : ¬ a10 = a12 := fun h => h6 ⟨rfl, h⟩
   simp [this]
  ·simp [e]

/-! spec_l01In -/
theorem spec_l01In_v (a b c : Int) : spec_l01In.f a b c = some (decide (b ≤ a ∧ a ≤ c)) := by
 unfold spec_l01In.f
 by_cases h : a ≥ b
 ·rw [if_pos h]
  simp [h]
 ·rw [if_neg h]
  simp
  omega

/-! spec_PointOk -/
theorem spec_PointOk_v (a b : Int) : spec_PointOk.f a b = some (decide (pointOkP a b)) := by
 unfold spec_PointOk.f pointOkP
 simp only [spec_l01In_v, Option.bind_some, decide_eq_true_eq]
 repeat' split
 all_goals first | (refine congrArg some (decide_eq_decide.mpr ?_); omega) | (refine congrArg some (Eq.symm (decide_eq_false ?_)); omega)

/-! PathB -/
def needB (v : Int) : Int := if v = 1 ∨ v = 2 then 1 else if v = 3 then 2 else if v = 4 then 3 else if v = 5 then 0 else -1
theorem needB_bd (v : Int) : -1 ≤ needB v ∧ needB v ≤ 3 := by
 unfold needB
 repeat' split
 all_goals omega
def prevB (l : List Int) : Nat → Int
 | 0 => 5
 | i + 1 => rd l (i : Int)
def verbsB : Int → List Int → Int → Option Int
 | _, [], n => some n
 | p, v :: vs, n => if needB v < 0 then none else if p = 5 ∧ v ≠ 1 then none else verbsB v vs (n + needB v)
def pointsB (l : List S29) : Bool := l.all (fun p => decide (pointOkP p.f0 p.f1))
def endB (pts : List S29) : Option Int → Bool
 | none => false
 | some m => m == (pts.length : Int)
def pathB (l : List Int) (pts : List S29) : Bool := decide (pts.length ≤ 24) && (decide (l.length ≤ 24) && (pointsB pts && endB pts (verbsB 5 l 0)))

/-! rd_int -/
theorem rd_int (xs : List Int) (i : Nat) (h : i < xs.length) : rd xs (i : Int) = xs[i] := by
 unfold rd
 simp [h]

/-! rd_impl_Point -/
theorem rd_impl_Point (xs : List S29) (i : Nat) (h : i < xs.length) : rd_T29 xs (i : Int) = xs[i] := by
 unfold rd_T29
 simp [h]

/-! PathOk -/
theorem impl_NeedOf_v (v : Int) : Ev (fun k => impl_NeedOf.f k v) (needB v) := by
 unfold impl_NeedOf.f needB
 by_cases h1 : v = 1
 ·subst h1
  exact ev_done (fun k => rfl)
 ·simp only [if_neg h1]
  by_cases h2 : v = 2
  ·subst h2
   exact ev_done (fun k => rfl)
  ·refine ev_done (fun k => ?_)
   simp only [impl_NeedOf.j0]
   have e : (v == 2) = false := beq_eq_false_iff_ne.mpr h2
   rw [if_neg (by simp [e]), if_neg (show ¬ (v = 1 ∨ v = 2) by omega)]
   repeat' split
   all_goals rfl
theorem impl_pointsOk_l (l : List S29) (hn : l.length ≤ 1048576) : ∀ (d i : Nat), i + d = l.length → Ev (fun k => impl_pointsOk.l0 k l (l.length : Int) (i : Int)) (pointsB (l.drop i)) := by
 intro d
 induction d with
 | zero =>
  intro i hi
  refine ev_done (fun k => ?_)
  simp only [impl_pointsOk.l0]
  rw [if_neg (by omega), List.drop_of_length_le (by omega)]
  rfl
 | succ d ih =>
  intro i hi
  have hi2 : i < l.length := by omega
  rw [List.drop_eq_getElem_cons hi2, pointsB, List.all_cons]
  by_cases hx : pointOkP l[i].f0 l[i].f1
  ·rw [decide_eq_true hx, Bool.true_and]
   refine Ev.step (fun k => ?_) (ih (i + 1) (by omega))
   simp only [impl_pointsOk.l0, impl_PointOk_v, Option.bind_some]
   rw [if_pos (by omega), if_pos (by omega), if_pos (by omega), rd_impl_Point _ _ hi2, step64 hi2 (by omega), if_pos (by simpa using hx)]
  ·rw [decide_eq_false hx, Bool.false_and]
   refine ev_done (fun k => ?_)
   simp only [impl_pointsOk.l0, impl_PointOk_v, Option.bind_some]
   rw [if_pos (by omega), if_pos (by omega), if_pos (by omega), rd_impl_Point _ _ hi2, if_neg (by simpa using hx)]
theorem impl_path_l (l : List Int) (pts : List S29) (hn : l.length ≤ 24) : ∀ (d i : Nat) (n : Int), i + d = l.length → 0 ≤ n → n ≤ 3 * (i : Int) →
  Ev (fun k => impl_PathOk.l0 k n l (l.length : Int) (i : Int) l pts) (endB pts (verbsB (prevB l i) (l.drop i) n)) := by
 intro d
 induction d with
 | zero =>
  intro i n hi h0 h1
  refine ev_done (fun k => ?_)
  simp only [impl_PathOk.l0]
  rw [if_neg (by omega), List.drop_of_length_le (by omega)]
  rfl
 | succ d ih =>
  intro i n hi h0 h1
  have hi2 : i < l.length := by omega
  have hb := needB_bd l[i]
  rw [List.drop_eq_getElem_cons hi2, verbsB]
  refine Ev.step (fun k => rfl) ?_
  simp only [impl_PathOk.l0, if_pos (show (i : Int) < (l.length : Int) by omega), if_pos (show (0 : Int) ≤ (i : Int) by omega), rd_int _ _ hi2]
  refine Ev.bind (impl_NeedOf_v _) ?_
  by_cases hneg : needB l[i] < 0
  ·rw [if_pos hneg]
   simp only [if_pos hneg]
   cases i with
   | zero => exact Ev.now _
   | succ j =>
    simp only [if_neg (show ¬ ((j + 1 : Nat) : Int) = 0 by omega), w64 (x := ((j + 1 : Nat) : Int) - 1) (by omega) (by omega)]
    rw [if_pos (by omega), if_pos (by omega)]
    exact Ev.now _
  ·rw [if_neg hneg]
   simp only [if_neg hneg, w64 (x := n + needB l[i]) (by omega) (by omega), step64 hi2 (show l.length ≤ 4611686018427387904 by omega)]
   have hr := ih (i + 1) (n + needB l[i]) (by omega) (by omega) (by omega)
   rw [show prevB l (i + 1) = l[i] from rd_int l i hi2] at hr
   cases i with
   | zero =>
    simp only [if_pos (show ((0 : Nat) : Int) = 0 from rfl)]
    by_cases hv : l[0] = 1
    ·rw [if_neg (fun h => h.2 hv)]
     simp only [if_pos hv]
     exact hr
    ·rw [if_pos ⟨rfl, hv⟩]
     simp only [if_neg hv]
     exact Ev.now _
   | succ j =>
    simp only [if_neg (show ¬ ((j + 1 : Nat) : Int) = 0 by omega), w64 (x := ((j + 1 : Nat) : Int) - 1) (by omega) (by omega)]
    simp only [show ((j + 1 : Nat) : Int) - 1 = (j : Int) by omega, if_pos (show (0 : Int) ≤ (j : Int) by omega), if_pos (show (j : Int) < (l.length : Int) by omega)]
    show Ev _ (endB pts (if rd l (j : Int) = 5 ∧ l[j + 1] ≠ 1 then none else _))
    by_cases hp : rd l (j : Int) = 5
    ·simp only [if_pos hp]
     by_cases hv : l[j + 1] = 1
     ·rw [if_neg (fun h => h.2 hv)]
      simp only [if_pos hv]
      exact hr
     ·rw [if_pos ⟨hp, hv⟩]
      simp only [if_neg hv]
      exact Ev.now _
    ·rw [if_neg (fun h => hp h.1)]
     simp only [if_neg hp]
     exact hr
theorem impl_PathOk_v (l : List Int) (pts : List S29) : Ev (fun k => impl_PathOk.f k l pts) (pathB l pts) := by
 unfold impl_PathOk.f pathB
 have hno : Ev (fun k => impl_PathOk.j0 k true l pts) false := ev_done (fun k => rfl)
 by_cases h1 : pts.length ≤ 24
 ·rw [decide_eq_true h1, Bool.true_and]
  simp only [if_neg (show ¬ (pts.length : Int) > 24 by omega)]
  by_cases h2 : l.length ≤ 24
  ·rw [decide_eq_true h2, Bool.true_and]
   simp only [if_neg (show ¬ (l.length : Int) > 24 by omega)]
   have hp : Ev (fun k => impl_pointsOk.f k pts) (pointsB pts) := impl_pointsOk_l pts (by omega) pts.length 0 (by omega)
   refine Ev.bind hp ?_
   cases pointsB pts with
   | true => exact Ev.step (fun k => rfl) (impl_path_l l pts h2 l.length 0 0 (by omega) (by omega) (by omega))
   | false => exact hno
  ·rw [decide_eq_false h2, Bool.false_and]
   simp only [if_pos (show (l.length : Int) > 24 by omega)]
   exact hno
 ·rw [decide_eq_false h1, Bool.false_and]
  simp only [if_pos (show (pts.length : Int) > 24 by omega)]
  exact hno

/-! PathOk_spec -/
theorem spec_NeedOf_v (v : Int) : spec_NeedOf.f v = some (needB v) := by
 unfold spec_NeedOf.f
 simp only [spec_l01In_v, Option.bind_some]
 by_cases h : 1 ≤ v ∧ v ≤ 5
 ·rw [decide_eq_true h, if_pos rfl]
  have h5 : v = 1 ∨ v = 2 ∨ v = 3 ∨ v = 4 ∨ v = 5 := by omega
  rcases h5 with rfl | rfl | rfl | rfl | rfl <;> simp [wrap64, rd, needB]
 ·rw [decide_eq_false h, if_neg (by simp)]
  unfold needB
  rw [if_neg (by omega), if_neg (by omega), if_neg (by omega), if_neg (by omega)]
/-! MatOk -/
def matB (a b c d e f : Int) : Bool := decide ((-1048576 ≤ a ∧ a ≤ 1048576) ∧ (-1048576 ≤ b ∧ b ≤ 1048576) ∧ (-1048576 ≤ c ∧ c ≤ 1048576) ∧ (-1048576 ≤ d ∧ d ≤ 1048576) ∧ (-8388608 ≤ e ∧ e ≤ 8388608) ∧ (-8388608 ≤ f ∧ f ≤ 8388608))
theorem impl_mat_s (a b c d A B C D E F : Int) (i : Int) (h0 : 0 ≤ i) (h1 : i < 4) {r : Bool} (h : (if -1048576 ≤ ix4 i a b c d ∧ ix4 i a b c d ≤ 1048576 then Ev (fun k => impl_MatOk.l0 k (i + 1) a b c d A B C D E F) r else r = false)) : Ev (fun k => impl_MatOk.l0 k i a b c d A B C D E F) r := by
 by_cases hq : -1048576 ≤ ix4 i a b c d ∧ ix4 i a b c d ≤ 1048576
 ·rw [if_pos hq] at h
  refine Ev.step (fun k => ?_) h
  simp only [impl_MatOk.l0, impl_inRange_v, Option.bind_some]
  rw [if_pos h1, if_pos h0, if_pos (by simpa using hq), w64 (by omega) (by omega)]
 ·rw [if_neg hq] at h
  subst h
  refine ev_done (fun k => ?_)
  simp only [impl_MatOk.l0, impl_inRange_v, Option.bind_some]
  rw [if_pos h1, if_pos h0, if_neg (by simpa using hq)]
theorem impl_MatOk_v (a b c d e f : Int) : Ev (fun k => impl_MatOk.f k a b c d e f) (matB a b c d e f) := by
 unfold impl_MatOk.f matB
 refine impl_mat_s a b c d a b c d e f 0 (by omega) (by omega) ?_
 show if -1048576 ≤ a ∧ a ≤ 1048576 then _ else _
 split
 ·rename_i ha
  refine impl_mat_s a b c d a b c d e f 1 (by omega) (by omega) ?_
  show if -1048576 ≤ b ∧ b ≤ 1048576 then _ else _
  split
  ·rename_i hb
   refine impl_mat_s a b c d a b c d e f 2 (by omega) (by omega) ?_
   show if -1048576 ≤ c ∧ c ≤ 1048576 then _ else _
   split
   ·rename_i hc
    refine impl_mat_s a b c d a b c d e f 3 (by omega) (by omega) ?_
    show if -1048576 ≤ d ∧ d ≤ 1048576 then _ else _
    split
    ·rename_i hd
     refine ev_done (fun k => ?_)
     simp only [impl_MatOk.l0, impl_isFar_v, Option.bind_some]
     rw [if_neg (by omega)]
     by_cases he : -8388608 ≤ e ∧ e ≤ 8388608
     ·rw [if_pos (by simpa using he)]
      refine congrArg some (decide_eq_decide.mpr ?_)
      omega
     ·rw [if_neg (by simpa using he)]
      refine congrArg some (Eq.symm (decide_eq_false ?_))
      omega
    ·exact decide_eq_false (by omega)
   ·exact decide_eq_false (by omega)
  ·exact decide_eq_false (by omega)
 ·exact decide_eq_false (by omega)

/-! MatOk_spec -/
/-! dashOkB -/
def dashOkB (l : List Int) : Bool := l.all (fun x => decide (1 ≤ x ∧ x ≤ 20000)) && (decide (l.length % 2 = 0) && decide (l.length ≤ 4))
theorem dash_end (l : List Int) : (if ((l.length : Int) % 2) = 0 then some (decide ((l.length : Int) ≤ 4)) else some false) = some (decide (l.length % 2 = 0) && decide (l.length ≤ 4)) := by
 by_cases h : (l.length : Int) % 2 = 0
 ·rw [if_pos h]
  have h2 : l.length % 2 = 0 := by omega
  simp [h2]
  omega
 ·rw [if_neg h]
  have h2 : ¬ l.length % 2 = 0 := by omega
  simp [h2]

/-! spec_DashOk -/
/-! impl_DashOk -/
theorem impl_DashOk_l (l : List Int) (hn : l.length ≤ 1048576) : ∀ (d i : Nat), i + d = l.length → Ev (fun k => impl_DashOk.l0 k l l (l.length : Int) (i : Int)) ((l.drop i).all (fun x => decide (1 ≤ x ∧ x ≤ 20000)) && (decide (l.length % 2 = 0) && decide (l.length ≤ 4))) := by
 intro d
 induction d with
 | zero =>
  intro i hi
  refine ev_done (fun k => ?_)
  simp only [impl_DashOk.l0]
  rw [if_neg (by omega), dash_end, List.drop_of_length_le (by omega)]
  rfl
 | succ d ih =>
  intro i hi
  have hi2 : i < l.length := by omega
  rw [List.drop_eq_getElem_cons hi2, List.all_cons]
  by_cases hx : 1 ≤ l[i] ∧ l[i] ≤ 20000
  ·rw [decide_eq_true hx, Bool.true_and]
   refine Ev.step (fun k => ?_) (ih (i + 1) (by omega))
   simp only [impl_DashOk.l0, impl_inRange_v, Option.bind_some]
   rw [if_pos (by omega), if_pos (by omega), if_pos (by omega), rd_int _ _ hi2, step64 hi2 (by omega), if_pos (by simpa using hx)]
  ·rw [decide_eq_false hx, Bool.false_and, Bool.false_and]
   refine ev_done (fun k => ?_)
   simp only [impl_DashOk.l0, impl_inRange_v, Option.bind_some]
   rw [if_pos (by omega), if_pos (by omega), if_pos (by omega), rd_int _ _ hi2, if_neg (by simpa using hx)]
theorem impl_DashOk_v (l : List Int) (hn : l.length ≤ 1048576) : Ev (fun k => impl_DashOk.f k l) (dashOkB l) := impl_DashOk_l l hn l.length 0 (by omega)

/-! NodeOk_body -/
def noPathB (l : List Int) (p : List S29) : Bool := decide (l.length = 0) && decide (p.length = 0)
theorem impl_noPath_v (l : List Int) (p : List S29) : impl_Path_isNone.f l p = some (noPathB l p) := by
 unfold impl_Path_isNone.f noPathB
 by_cases h : l.length = 0
 ·rw [if_pos (by omega), decide_eq_true h, Bool.true_and]
  refine congrArg some (Bool.eq_iff_iff.mpr ?_)
  simp
  try omega
 ·rw [if_neg (by omega), decide_eq_false h, Bool.false_and]
section
variable (a0 a1 : Int) (a2 : Bool) (a3 a4 a5 a6 a7 a8 : Int) (l9 : List Int) (l10 : List S29) (a11 : Bool) (a12 : Int) (l13 : List Int) (a14 a15 a16 a17 a18 a19 a20 a21 a22 a23 a24 a25 a26 a27 a28 : Int) (l29 : List Int) (l30 : List S29)
def noPaintB (a14 a15 a16 a17 a18 a19 a20 a21 a22 a23 a24 a25 a26 : Int) : Bool := (a14 == 0 && ((a15 == 0 && (a16 == 0 && (a17 == 0 && (a18 == 0)))) && ((a19 == 0 && (a20 == 0 && (a21 == 0 && (a22 == 0)))) && ((a23 == 0 && (a24 == 0)) && ((a25 == 0 && (a26 == 0)))))))
def tailB (a2 : Bool) (l9 : List Int) (l10 : List S29) (a11 : Bool) (a12 : Int) (l13 : List Int) (a14 a15 a16 a17 a18 a19 a20 a21 a22 a23 a24 a25 a26 : Int) : Bool :=
 if a2 = true then noPathB l9 l10 && (noPaintB a14 a15 a16 a17 a18 a19 a20 a21 a22 a23 a24 a25 a26 && (decide (a12 = 0) && (decide (l13.length = 0) && !a11))) else paintB a14 a15 a16 a17 a18 a19 a20 a21 a22 a23 a24 a25 a26
def nodeB : Bool := decide (1 ≤ a0 ∧ a0 ≤ 99) && (decide (0 ≤ a1 ∧ a1 ≤ 99) && (decide (a0 ≠ a1) && (matB a3 a4 a5 a6 a7 a8 && (pathB l9 l10 && (pathB l29 l30 && (decide (0 ≤ a12 ∧ a12 ≤ 2048) && (dashOkB l13 && (decide (1 ≤ a27 ∧ a27 ≤ 5) && (decide (0 ≤ a28 ∧ a28 ≤ 255) && tailB a2 l9 l10 a11 a12 l13 a14 a15 a16 a17 a18 a19 a20 a21 a22 a23 a24 a25 a26)))))))))
theorem impl_node_yes : Ev (fun k => impl_NodeOk.j1 k false a0 a1 a2 a3 a4 a5 a6 a7 a8 l9 l10 a11 a12 l13 a14 a15 a16 a17 a18 a19 a20 a21 a22 a23 a24 a25 a26 a27 a28 l29 l30) (tailB a2 l9 l10 a11 a12 l13 a14 a15 a16 a17 a18 a19 a20 a21 a22 a23 a24 a25 a26) := by
 refine ev_done (fun k => ?_)
 simp only [impl_NodeOk.j1, Bool.false_eq_true, if_false, impl_paint_g, impl_noPath_v, Option.bind_some]
 unfold tailB
 cases a2 with
 | false => rfl
 | true =>
  simp only [if_true]
  unfold noPaintB
  generalize noPathB l9 l10 = b1
  generalize (a14 == 0 && ((a15 == 0 && (a16 == 0 && (a17 == 0 && (a18 == 0)))) && ((a19 == 0 && (a20 == 0 && (a21 == 0 && (a22 == 0)))) && ((a23 == 0 && (a24 == 0)) && ((a25 == 0 && (a26 == 0))))))) = b2
  cases b2 with
  | false => cases b1 <;> rfl
  | true =>
   cases b1 with
   | false => rfl
   | true =>
    simp only [if_true, Bool.true_and]
    by_cases h1 : a12 = 0
    ·rw [if_pos h1, decide_eq_true h1, Bool.true_and]
     by_cases h2 : l13.length = 0
     ·rw [if_pos (by omega), decide_eq_true h2, Bool.true_and]
     ·rw [if_neg (by omega), decide_eq_false h2, Bool.false_and]
    ·rw [if_neg h1, decide_eq_false h1, Bool.false_and]
theorem impl_NodeOk_v (hn : l13.length ≤ 1048576) : Ev (fun k => impl_NodeOk.f k a0 a1 a2 a3 a4 a5 a6 a7 a8 l9 l10 a11 a12 l13 a14 a15 a16 a17 a18 a19 a20 a21 a22 a23 a24 a25 a26 a27 a28 l29 l30) (nodeB a0 a1 a2 a3 a4 a5 a6 a7 a8 l9 l10 a11 a12 l13 a14 a15 a16 a17 a18 a19 a20 a21 a22 a23 a24 a25 a26 a27 a28 l29 l30) := by
 have hno : Ev (fun k => impl_NodeOk.j0 k true a0 a1 a2 a3 a4 a5 a6 a7 a8 l9 l10 a11 a12 l13 a14 a15 a16 a17 a18 a19 a20 a21 a22 a23 a24 a25 a26 a27 a28 l29 l30) false := ev_done (fun k => rfl)
 have hno1 : Ev (fun k => impl_NodeOk.j1 k true a0 a1 a2 a3 a4 a5 a6 a7 a8 l9 l10 a11 a12 l13 a14 a15 a16 a17 a18 a19 a20 a21 a22 a23 a24 a25 a26 a27 a28 l29 l30) false := ev_done (fun k => rfl)
 have hyes := impl_node_yes a0 a1 a2 a3 a4 a5 a6 a7 a8 l9 l10 a11 a12 l13 a14 a15 a16 a17 a18 a19 a20 a21 a22 a23 a24 a25 a26 a27 a28 l29 l30
 unfold impl_NodeOk.f nodeB
 generalize tailB a2 l9 l10 a11 a12 l13 a14 a15 a16 a17 a18 a19 a20 a21 a22 a23 a24 a25 a26 = T at hyes ⊢
 simp only [impl_inRange_v, Option.bind_some]
 generalize decide (1 ≤ a0 ∧ a0 ≤ 99) = b1
 generalize decide (0 ≤ a1 ∧ a1 ≤ 99) = b2
 cases b1 with
 | false => exact hno
 | true =>
 simp only [if_true, Bool.true_and]
 cases b2 with
 | false => exact hno
 | true =>
 simp only [if_true, Bool.true_and]
 by_cases he : a0 = a1
 ·simp only [if_pos he]
  rw [decide_eq_false (show ¬ a0 ≠ a1 from fun h => h he), Bool.false_and]
  exact hno
 simp only [if_neg he]
 rw [decide_eq_true (show a0 ≠ a1 from he), Bool.true_and]
 refine Ev.bind (impl_MatOk_v a3 a4 a5 a6 a7 a8) ?_
 cases matB a3 a4 a5 a6 a7 a8 with
 | false => exact hno
 | true =>
 simp only [if_true, Bool.true_and]
 refine Ev.bind (impl_PathOk_v l9 l10) ?_
 cases pathB l9 l10 with
 | false => exact hno
 | true =>
 simp only [if_true, Bool.true_and]
 refine Ev.bind (impl_PathOk_v l29 l30) ?_
 cases pathB l29 l30 with
 | false => exact hno
 | true =>
 simp only [Bool.not_true, Bool.true_and]
 refine Ev.step (fun k => rfl) ?_
 simp only [impl_NodeOk.j0, Bool.false_eq_true, if_false, impl_inRange_v, Option.bind_some, impl_isMode.f, impl_isByte_v]
 generalize decide (0 ≤ a12 ∧ a12 ≤ 2048) = b4
 generalize decide (1 ≤ a27 ∧ a27 ≤ 5) = b5
 generalize decide (0 ≤ a28 ∧ a28 ≤ 255) = b6
 cases b4 with
 | false => exact hno1
 | true =>
 simp only [if_true, Bool.true_and]
 refine Ev.bind (impl_DashOk_v l13 hn) ?_
 cases dashOkB l13 with
 | false => exact hno1
 | true =>
 simp only [if_true, Bool.true_and]
 cases b5 with
 | false => exact hno1
 | true =>
 simp only [if_true, Bool.true_and]
 cases b6 with
 | false => exact hno1
 | true => exact hyes
end

/-! DrawB -/
theorem and255 (n : Int) : Go.bits .and .i64 n 255 = n % 256 := by
 have h255 : (BitVec.ofInt 64 255).toNat = 2 ^ 8 - 1 := by decide
 have key : (BitVec.ofInt 64 n &&& BitVec.ofInt 64 255).toNat = (n % ((2 ^ 64 : Nat) : Int)).toNat % 2 ^ 8 := by
  rw [BitVec.toNat_and, BitVec.toNat_ofInt, h255, Nat.and_two_pow_sub_one_eq_mod]
 show IntKind.i64.wrap ((BitVec.ofInt 64 n &&& BitVec.ofInt 64 255).toNat : Nat) = n % 256
 rw [key, IntKind.wrap_i64]
 omega
theorem byte_r (l : List Int) (p s : Int) (hp : 0 ≤ p) (hl : p ≤ l.length) (hn : l.length ≤ 1048576) : ∃ b q t : Int, spec_l01Byte.f l p s = some (b, q, t) ∧ 0 ≤ b ∧ b ≤ 255 ∧ 0 ≤ q ∧ q ≤ l.length := by
 unfold spec_l01Byte.f
 by_cases h : p < (l.length : Int)
 ·rw [if_pos h, if_pos hp]
  refine ⟨_, _, _, rfl, ?_, ?_, ?_, ?_⟩
  ·rw [and255]
   omega
  ·rw [and255]
   omega
  ·rw [w64 (by omega) (by omega)]
   omega
  ·rw [w64 (by omega) (by omega)]
   omega
 ·rw [if_neg h]
  refine ⟨_, _, _, rfl, ?_, ?_, hp, hl⟩
  ·rw [and255]
   omega
  ·rw [and255]
   omega
theorem below_r (l : List Int) (p s n : Int) (hp : 0 ≤ p) (hl : p ≤ l.length) (hn : l.length ≤ 1048576) (h0 : 0 < n) (h1 : n ≤ 9223372036854775807) : ∃ b q t : Int, spec_l01Below.f l p s n = some (b, q, t) ∧ 0 ≤ b ∧ b < n ∧ 0 ≤ q ∧ q ≤ l.length := by
 unfold spec_l01Below.f
 rw [if_neg (by omega)]
 by_cases h : n ≤ 256
 ·obtain ⟨b, q, t, e, b0, b1, q0, q1⟩ := byte_r l p s hp hl hn
  rw [if_pos h, e]
  simp only [Option.bind_some]
  rw [if_neg (by omega)]
  refine ⟨_, _, _, rfl, ?_, ?_, q0, q1⟩
  ·exact Int.tmod_nonneg _ b0
  ·exact Int.tmod_lt_of_pos _ h0
 ·obtain ⟨b, q, t, e, b0, b1, q0, q1⟩ := byte_r l p s hp hl hn
  obtain ⟨b', q', t', e', b0', b1', q0', q1'⟩ := byte_r l q t q0 q1 hn
  obtain ⟨b2, q2, t2, e2, b02, b12, q02, q12⟩ := byte_r l q' t' q0' q1' hn
  obtain ⟨b3, q3, t3, e3, b03, b13, q03, q13⟩ := byte_r l q2 t2 q02 q12 hn
  rw [if_neg h, e]
  simp only [Option.bind_some, e', e2, e3]
  rw [if_neg (by omega)]
  refine ⟨_, _, _, rfl, ?_, ?_, q03, q13⟩
  ·refine Int.tmod_nonneg _ ?_
   rw [w64 (x := b * 16777216) (by omega) (by omega), w64 (x := b' * 65536) (by omega) (by omega), w64 (x := b2 * 256) (by omega) (by omega), w64 (x := b * 16777216 + b' * 65536) (by omega) (by omega), w64 (x := b * 16777216 + b' * 65536 + b2 * 256) (by omega) (by omega), w64 (by omega) (by omega)]
   omega
  ·exact Int.tmod_lt_of_pos _ h0
theorem new_l (l : List Int) (hn : l.length ≤ 1048576) : ∀ (d : Nat) (i : Int) (x3 : Int), i + d = 4000 → 0 ≤ i → ∃ s, Ev (fun k => spec_l01New.l0 k l x3 i) (l, 0, s) := by
 intro d
 induction d with
 | zero =>
  intro i x3 hi h0
  refine ⟨x3, ev_done (fun k => ?_)⟩
  simp only [spec_l01New.l0]
  by_cases h : i < (l.length : Int)
  ·rw [if_pos h, if_neg (by omega)]
  ·rw [if_neg h]
 | succ d ih =>
  intro i x3 hi h0
  by_cases h : i < (l.length : Int)
  ·obtain ⟨s, hs⟩ := ih (i + 1) (Go.bits .and .i64 (wrap64 ((wrap64 ((wrap64 (x3 * 131)) + (wrap64 (rd l i)))) + 7)) 1073741823) (by omega) (by omega)
   refine ⟨s, Ev.step (fun k => ?_) hs⟩
   simp only [spec_l01New.l0]
   rw [if_pos h, if_pos (by omega), if_pos h0, w64 (x := i + 1) (by omega) (by omega)]
  ·refine ⟨x3, ev_done (fun k => ?_)⟩
   simp only [spec_l01New.l0]
   rw [if_neg h]
theorem new_v (l : List Int) (hn : l.length ≤ 1048576) : ∃ s, Ev (fun k => spec_l01New.f k l) (l, 0, s) := by
 obtain ⟨s, hs⟩ := new_l l hn 4000 0 (wrap64 (28001 + (l.length : Int))) (by omega) (by omega)
 exact ⟨s, hs⟩

/-! DrawPick -/
theorem pick_r (l : List Int) (p s : Int) (xs : List Int) (hp : 0 ≤ p) (hl : p ≤ l.length) (hn : l.length ≤ 1048576) (h0 : 0 < xs.length) (h1 : xs.length ≤ 1048576) : ∃ (i : Nat) (q t : Int), spec_l01PickInt.f l p s xs = some (rd xs (i : Int), q, t) ∧ i < xs.length ∧ 0 ≤ q ∧ q ≤ l.length := by
 obtain ⟨b, q, t, e, b0, b1, q0, q1⟩ := below_r l p s (xs.length : Int) hp hl hn (by omega) (by omega)
 unfold spec_l01PickInt.f
 rw [e]
 simp only [Option.bind_some]
 rw [if_pos b0, if_pos b1]
 refine ⟨b.toNat, q, t, ?_, by omega, q0, q1⟩
 rw [Int.toNat_of_nonneg b0]

/-! spec_FloorDiv -/
/-! spec_RoundDiv -/
/-! impl_FloorDiv -/
/-! impl_RoundDiv -/
/-! Draw -/
def R255 (x : Int) : Int := (x + 127) / 255
/-! Clamp_i -/
def clampI (x low high : Int) : Int := if x < low then low else if x > high then high else x
/-! Clamp -/
/-! Times255 -/
/-! Times255v -/
theorem mul_bd {a b : Int} (ha : 0 ≤ a ∧ a ≤ 255) (hb : 0 ≤ b ∧ b ≤ 255) : 0 ≤ a * b ∧ a * b ≤ 65025 ∧ a * b ≤ 255 * a ∧ a * b ≤ 255 * b := by
 refine ⟨Int.mul_nonneg ha.1 hb.1, ?_, ?_, Int.mul_le_mul_of_nonneg_right ha.2 hb.1⟩
 ·have h1 := Int.mul_le_mul_of_nonneg_right ha.2 hb.1
  omega
 ·have h1 := Int.mul_le_mul_of_nonneg_left hb.2 ha.1
  omega
/-! spec_ColorOk -/
/-! laidP -/
def laidOkP (a b c d : Int) : Prop := ((0 ≤ a ∧ a ≤ 255) ∧ (0 ≤ b ∧ b ≤ 255) ∧ (0 ≤ c ∧ c ≤ 255) ∧ (0 ≤ d ∧ d ≤ 255)) ∧ a ≤ d ∧ b ≤ d ∧ c ≤ d
instance (a b c d : Int) : Decidable (laidOkP a b c d) := by unfold laidOkP; infer_instance

/-! ColorDraw -/
theorem color_r (l : List Int) (p s : Int) (hp : 0 ≤ p) (hl : p ≤ l.length) (hn : l.length ≤ 1048576) : ∃ a b c d q t : Int, spec_l12Color.f l p s = some (a, b, c, d, q, t) ∧ (0 ≤ a ∧ a ≤ 255) ∧ (0 ≤ b ∧ b ≤ 255) ∧ (0 ≤ c ∧ c ≤ 255) ∧ (0 ≤ d ∧ d ≤ 255) ∧ 0 ≤ q ∧ q ≤ l.length := by
 obtain ⟨b0, q0, t0, e0, l0, u0, v0, w0⟩ := below_r l p s 256 hp hl hn (by omega) (by omega)
 obtain ⟨b1, q1, t1, e1, l1, u1, v1, w1⟩ := below_r l q0 t0 256 v0 w0 hn (by omega) (by omega)
 obtain ⟨b2, q2, t2, e2, l2, u2, v2, w2⟩ := below_r l q1 t1 256 v1 w1 hn (by omega) (by omega)
 obtain ⟨i, q3, t3, e3, l3, v3, w3⟩ := pick_r l q2 t2 [255, 255, 128, 0, 1, 200] v2 w2 hn (by simp) (by simp)
 unfold spec_l12Color.f
 rw [e0]
 simp only [Option.bind_some, e1, e2, e3]
 refine ⟨_, _, _, _, _, _, rfl, ⟨l0, by omega⟩, ⟨l1, by omega⟩, ⟨l2, by omega⟩, ?_, v3, w3⟩
 have hi : i = 0 ∨ i = 1 ∨ i = 2 ∨ i = 3 ∨ i = 4 ∨ i = 5 := by
  simp at l3
  omega
 rcases hi with rfl | rfl | rfl | rfl | rfl | rfl <;> simp [rd]
/-! FlatQ -/
abbrev Pt := S29
theorem ww (x : Int) : wrap64 (wrap64 x) = wrap64 x := by
 unfold wrap64
 omega
def q0 (t : Int) : Int := wrap64 ((wrap64 (4 - t)) * (wrap64 (4 - t)))
def q1 (t : Int) : Int := wrap64 ((wrap64 (2 * t)) * (wrap64 (4 - t)))
def q2 (t : Int) : Int := wrap64 (t * t)
def c0 (t : Int) : Int := wrap64 ((wrap64 ((wrap64 (8 - t)) * (wrap64 (8 - t)))) * (wrap64 (8 - t)))
def c1 (t : Int) : Int := wrap64 ((wrap64 ((wrap64 (3 * t)) * (wrap64 (8 - t)))) * (wrap64 (8 - t)))
def c2 (t : Int) : Int := wrap64 ((wrap64 ((wrap64 (3 * t)) * t)) * (wrap64 (8 - t)))
def c3 (t : Int) : Int := wrap64 ((wrap64 (t * t)) * t)
def okPt (p : Pt) : Bool := decide (pointOkP p.f0 p.f1)
theorem impl_points_v (l : List Pt) (hn : l.length ≤ 1048576) : Ev (fun k => impl_pointsOk.f k l) (pointsB l) := impl_pointsOk_l l hn l.length 0 (by omega)
/-! rd_impl_PointSS -/
theorem rd_impl_PointSS (xs : List (List S29)) (i : Nat) (h : i < xs.length) : rd_L6 xs (i : Int) = xs[i] := by
 unfold rd_L6
 simp [h]

/-! FlatMain -/
abbrev pAt (l : List Pt) (i : Int) : Pt := rd_T29 l i
def lastP (now : List Pt) : Pt := pAt now ((now.length : Int) - 1)
def neP (a b : Pt) : Bool := !(a.f0 == b.f0) || !(a.f1 == b.f1)
def closed (out : List (List Pt)) (now : List Pt) : List (List Pt) := if 0 < now.length then out ++ [now] else out
section
variable (l : List Int) (pts : List Pt) (hp : pts.length ≤ 24)
include hp
end
theorem pAt_drop (pts : List Pt) (n j : Nat) (h : n + j < pts.length) : pAt (pts.drop n) (j : Int) = pAt pts ((n + j : Nat) : Int) := by
 show rd_T29 _ _ = rd_T29 _ _
 rw [rd_impl_Point _ _ (by simp; omega), rd_impl_Point _ _ h, List.getElem_drop]
theorem pAt_take (ps : List Pt) (m j : Nat) (hj : j < m) (h : m ≤ ps.length) : pAt (ps.take m) (j : Int) = pAt ps (j : Int) := by
 show rd_T29 _ _ = rd_T29 _ _
 rw [rd_impl_Point _ _ (by simp; omega), rd_impl_Point _ _ (by omega), List.getElem_take]
theorem verbsB_le : ∀ (vs : List Int) (p n m : Int), verbsB p vs n = some m → n ≤ m
 | [], _, n, m, h => by
  obtain rfl := Option.some.inj h
  omega
 | v :: vs, p, n, m, h => by
  rw [verbsB] at h
  split at h
  ·cases h
  ·split at h
   ·cases h
   ·have := verbsB_le vs v _ m h
    omega
theorem last_set {α : Type} (out : List α) (a b : α) : (out ++ [a]).set out.length b = out ++ [b] := by simp
section
variable (l : List Int) (pts : List Pt) (hn : l.length ≤ 24)
include hn
end
section
variable (l : List Int) (pts : List Pt) (hn : l.length ≤ 24) (hp : pts.length ≤ 24)
include hn hp
end
theorem closed_good (out : List (List Pt)) (now : List Pt) (h1 : ∀ x ∈ out, x.length ≤ 300) (h2 : now.length ≤ 300) : (closed out now).length ≤ out.length + 1 ∧ ∀ x ∈ closed out now, x.length ≤ 300 := by
 unfold closed
 split
 ·refine ⟨by simp, fun x hx => ?_⟩
  rcases List.mem_append.mp hx with h | h
  ·exact h1 x h
  ·obtain rfl := List.mem_singleton.mp h
   exact h2
 ·exact ⟨by omega, h1⟩
/-! DrawPathOk -/
theorem point_k (l : List Int) (p s : Int) (hp : 0 ≤ p) (hl : p ≤ l.length) (hn : l.length ≤ 1048576) : ∃ a b q t : Int, spec_l04Point.f l p s = some (a, b, q, t) ∧ pointOkP a b ∧ 0 ≤ q ∧ q ≤ l.length := by
 obtain ⟨b0, q0, t0, e0, l0, u0, v0, w0⟩ := below_r l p s 3600 hp hl hn (by omega) (by omega)
 obtain ⟨b1, q1, t1, e1, l1, u1, v1, w1⟩ := below_r l q0 t0 3600 v0 w0 hn (by omega) (by omega)
 unfold spec_l04Point.f
 rw [e0]
 simp only [Option.bind_some, e1]
 rw [w64 (x := b0 - 300) (by omega) (by omega), w64 (x := b1 - 300) (by omega) (by omega)]
 exact ⟨_, _, _, _, rfl, ⟨⟨by omega, by omega⟩, ⟨by omega, by omega⟩⟩, v1, w1⟩
theorem once_k (l : List Int) (p s n : Int) (hp : 0 ≤ p) (hl : p ≤ l.length) (hn : l.length ≤ 1048576) (h0 : 0 < n) (h1 : n ≤ 1000000) : ∃ (b : Bool) (q t : Int), spec_l01Once.f l p s n = some (b, q, t) ∧ 0 ≤ q ∧ q ≤ l.length := by
 obtain ⟨b, q, t, e, _, _, v, w⟩ := below_r l p s n hp hl hn h0 (by omega)
 unfold spec_l01Once.f
 rw [e]
 exact ⟨_, _, _, rfl, v, w⟩
/-- What a drawn path is: right, and it begins somewhere. -/
def pathGood (a : List Int) (b : List Pt) : Prop := 0 < a.length ∧ a.length ≤ 24 ∧ pathB a b = true
theorem verbsB_snoc : ∀ (vs : List Int) (p n m v : Int), verbsB p vs n = some m → 0 ≤ needB v → ¬ (prevB (p :: vs) (vs.length + 1) = 5 ∧ v ≠ 1) → verbsB p (vs ++ [v]) n = some (m + needB v)
 | [], p, n, m, v, h, h0, h1 => by
  obtain rfl := Option.some.inj h
  have h1' : ¬ (p = 5 ∧ v ≠ 1) := h1
  rw [List.nil_append, verbsB, if_neg (by omega), if_neg h1']
  rfl
 | u :: vs, p, n, m, v, h, h0, h1 => by
  rw [verbsB] at h
  split at h
  ·cases h
  rename_i a
  split at h
  ·cases h
  rename_i b
  rw [List.cons_append, verbsB, if_neg a, if_neg b]
  refine verbsB_snoc vs u _ m v h h0 (fun hh => h1 ⟨?_, hh.2⟩)
  rw [← hh.1]
  show rd (p :: u :: vs) ((vs.length + 1 : Nat) : Int) = rd (u :: vs) ((vs.length : Nat) : Int)
  rw [rd_int _ _ (by simp), rd_int _ _ (by simp)]
  rfl
theorem prev_cons (vs : List Int) : prevB (5 :: vs) (vs.length + 1) = prevB vs vs.length := by
 cases vs with
 | nil => rfl
 | cons u vs =>
  show rd (5 :: u :: vs) ((vs.length + 1 : Nat) : Int) = rd (u :: vs) ((vs.length : Nat) : Int)
  rw [rd_int _ _ (by simp), rd_int _ _ (by simp)]
  rfl
theorem points_snoc (ps : List Pt) (x y : Int) (h : pointsB ps = true) (hx : pointOkP x y) : pointsB (ps ++ [⟨x, y⟩]) = true := by
 unfold pointsB at h ⊢
 rw [List.all_append, h]
 simp [hx]
theorem good_of (vs : List Int) (ps : List Pt) (h0 : 0 < vs.length) (h1 : vs.length ≤ 6) (hp : pointsB ps = true) (hl : ps.length ≤ 24) (hv : verbsB 5 vs 0 = some (ps.length : Int)) : pathGood vs ps := by
 refine ⟨h0, by omega, ?_⟩
 unfold pathB
 rw [decide_eq_true hl, decide_eq_true (show vs.length ≤ 24 by omega), hp, hv]
 simp [endB]
theorem Rect_k (a b c d : Int) (h1 : a < c) (h2 : b < d) (p0 : pointOkP a b) (p1 : pointOkP c d) : ∃ vs ps, spec_RectPath.f a b c d = some (vs, ps) ∧ pathGood vs ps := by
 have hac : pointOkP c b := ⟨p1.1, p0.2⟩
 have had : pointOkP a d := ⟨p0.1, p1.2⟩
 refine ⟨[1, 2, 2, 2, 5], [⟨a, b⟩, ⟨c, b⟩, ⟨c, d⟩, ⟨a, d⟩], ?_, good_of _ _ (by simp) (by simp) (by simp [pointsB, p0, p1, hac, had]) (by simp) (by simp [verbsB, needB])⟩
 unfold spec_RectPath.f spec_Empty.f
 simp only [Option.bind_some, spec_PointOk_v]
 rw [if_neg (by omega), Option.bind_some, if_neg (by simp; omega), if_pos (by simp)]
 have r0 : rd_T29 [(⟨a, b⟩ : Pt), ⟨c, b⟩, ⟨c, d⟩, ⟨a, d⟩] 0 = ⟨a, b⟩ := rfl
 have r2 : rd_T29 [(⟨a, b⟩ : Pt), ⟨c, b⟩, ⟨c, d⟩, ⟨a, d⟩] 2 = ⟨c, d⟩ := rfl
 rw [r0, r2]
 simp only [decide_eq_true p0, decide_eq_true p1, Option.bind_some, if_true]
 rw [if_pos (by simp)]
section
variable (l : List Int) (hn : l.length ≤ 1048576)
include hn
theorem ptsk (x6 v : Int) (vs : List Int) (base : Nat) (H : ∀ (ps : List Pt) (p s : Int), pointsB ps = true → (ps.length : Int) = base + needB v → 0 ≤ p → p ≤ l.length → ∃ a b q t, Ev (fun k => spec_l06Path.l0 k (wrap64 (x6 + 1)) l p s vs ps) (a, b, q, t) ∧ pathGood a b ∧ 0 ≤ q ∧ q ≤ l.length) :
  ∀ (c : Nat) (j : Int) (ps : List Pt) (p s : Int), j + c = needB v → 0 ≤ j → pointsB ps = true → (ps.length : Int) = base + j → base ≤ 100 → 0 ≤ p → p ≤ l.length →
  ∃ a b q t, Ev (fun k => spec_l06Path.l1 k x6 v j l p s vs ps) (a, b, q, t) ∧ pathGood a b ∧ 0 ≤ q ∧ q ≤ l.length := by
 intro c
 induction c with
 | zero =>
  intro j ps p s hj h0 hps hl hk hp hq
  obtain ⟨a, b, q, t, k1, k2⟩ := H ps p s hps (by omega) hp hq
  refine ⟨a, b, q, t, Ev.step (fun k => ?_) k1, k2⟩
  simp only [spec_l06Path.l1, spec_NeedOf_v, Option.bind_some]
  rw [if_neg (by omega)]
 | succ c ih =>
  intro j ps p s hj h0 hps hl hk hp hq
  have hb := needB_bd v
  obtain ⟨u, w, q2, t2, e2, o2, v2, w2⟩ := point_k l p s hp hq hn
  obtain ⟨a, b, q, t, k1, k2⟩ := ih (j + 1) (ps ++ [⟨u, w⟩]) q2 t2 (by omega) (by omega) (points_snoc ps u w hps o2) (by simp; omega) hk v2 w2
  refine ⟨a, b, q, t, Ev.step (fun k => ?_) k1, k2⟩
  simp only [spec_l06Path.l1, spec_NeedOf_v, e2, Option.bind_some]
  rw [if_pos (by omega), if_pos (by omega), w64 (x := j + 1) (by omega) (by omega)]
theorem pathk_l : ∀ (d : Nat) (i : Nat) (vs : List Int) (ps : List Pt) (p s : Int), i + d = 6 → vs.length = i → pointsB ps = true → ps.length ≤ 24 → verbsB 5 vs 0 = some (ps.length : Int) → 0 ≤ p → p ≤ l.length →
  ∃ a b q t, Ev (fun k => spec_l06Path.l0 k (i : Int) l p s vs ps) (a, b, q, t) ∧ pathGood a b ∧ 0 ≤ q ∧ q ≤ l.length := by
 intro d
 induction d with
 | zero =>
  intro i vs ps p s hi hv hps hpl hvb hp hq
  obtain ⟨b0, q0, t0, e0, l0, u0, v0, w0⟩ := below_r l p s 6 hp hq hn (by omega) (by omega)
  refine ⟨vs, ps, q0, t0, ev_done (fun k => ?_), good_of vs ps (by omega) (by omega) hps hpl hvb, v0, w0⟩
  simp only [spec_l06Path.l0, e0, Option.bind_some]
  rw [if_neg (by rw [w64 (by omega) (by omega)]; omega)]
 | succ d ih =>
  intro i vs ps p s hi hv hps hpl hvb hp hq
  obtain ⟨b0, q0, t0, e0, l0, u0, v0, w0⟩ := below_r l p s 6 hp hq hn (by omega) (by omega)
  have e1b : wrap64 (1 + b0) = 1 + b0 := w64 (by omega) (by omega)
  by_cases hb : (i : Int) < wrap64 (1 + b0)
  ·obtain ⟨vi, q1, t1, e1, l1, v1, w1⟩ := pick_r l q0 t0 [2, 2, 2, 3, 4, 5, 1] v0 w0 hn (by simp) (by simp)
   have hj2 : ∀ v : Int, 0 ≤ needB v → ¬ (prevB vs vs.length = 5 ∧ v ≠ 1) → ∃ a b q t, Ev (fun k => spec_l06Path.j2 k (i : Int) v l q1 t1 vs ps) (a, b, q, t) ∧ pathGood a b ∧ 0 ≤ q ∧ q ≤ l.length := by
    intro v hv0 hpv
    have hbd := needB_bd v
    by_cases hg : wrap64 ((ps.length : Int) + needB v) > 24
    ·rw [w64 (by omega) (by omega)] at hg
     have hi0 : 0 < vs.length := by
      cases vs with
      | nil =>
       have hz : (0 : Int) = (ps.length : Int) := Option.some.inj hvb
       omega
      | cons => simp
     refine ⟨vs, ps, q1, t1, ev_done (fun k => ?_), good_of vs ps hi0 (by omega) hps hpl hvb, v1, w1⟩
     simp only [spec_l06Path.j2, spec_NeedOf_v, Option.bind_some]
     rw [if_pos (by rw [w64 (by omega) (by omega)]; exact hg)]
    ·have hg2 := hg
     rw [w64 (by omega) (by omega)] at hg
     obtain ⟨c, hc⟩ : ∃ c : Nat, (c : Int) = needB v := ⟨(needB v).toNat, by omega⟩
     have hsn := verbsB_snoc vs 5 0 (ps.length : Int) v hvb hv0 (by rw [prev_cons]; exact hpv)
     obtain ⟨a, b, q, t, k1, k2⟩ := ptsk l hn (i : Int) v (vs ++ [v]) ps.length (fun ps' p' s' r0 r1 r2 r3 => by
      have := ih (i + 1) (vs ++ [v]) ps' p' s' (by omega) (by simp; omega) r0 (by omega) (by rw [r1]; exact hsn) r2 r3
      rw [w64 (x := (i : Int) + 1) (by omega) (by omega), show (i : Int) + 1 = ((i + 1 : Nat) : Int) by omega]
      exact this) c 0 ps q1 t1 (by omega) (by omega) hps (by omega) (by omega) v1 w1
     refine ⟨a, b, q, t, Ev.step (fun k => ?_) k1, k2⟩
     simp only [spec_l06Path.j2, spec_NeedOf_v, Option.bind_some]
     rw [if_neg hg2, if_pos (by omega)]
   have hpick : 0 ≤ needB (rd [2, 2, 2, 3, 4, 5, 1] (vi : Int)) := by
    have : vi = 0 ∨ vi = 1 ∨ vi = 2 ∨ vi = 3 ∨ vi = 4 ∨ vi = 5 ∨ vi = 6 := by
     simp only [List.length_cons, List.length_nil] at l1
     omega
    rcases this with rfl | rfl | rfl | rfl | rfl | rfl | rfl <;> decide
   cases i with
   | zero =>
    obtain ⟨a, b, q, t, k1, k2⟩ := hj2 1 (by decide) (fun h => h.2 rfl)
    refine ⟨a, b, q, t, Ev.step (fun k => ?_) (Ev.step (f := fun k => spec_l06Path.j2 k (((0 : Nat) : Nat) : Int) 1 l q1 t1 vs ps) (g := fun k => spec_l06Path.j1 k ((0 : Nat) : Int) (rd [2, 2, 2, 3, 4, 5, 1] (vi : Int)) true l q1 t1 vs ps) (fun k => rfl) k1), k2⟩
    simp only [spec_l06Path.l0, e0, e1, Option.bind_some]
    rw [if_pos hb]
    rfl
   | succ j =>
    have ej : wrap64 (((j + 1 : Nat) : Int) - 1) = (j : Int) := by
     rw [w64 (by omega) (by omega)]
     omega
    have hprev : prevB vs vs.length = rd vs (j : Int) := by
     rw [hv]
     rfl
    have hj1 : ∃ a b q t, Ev (fun k => spec_l06Path.j1 k ((j + 1 : Nat) : Int) (rd [2, 2, 2, 3, 4, 5, 1] (vi : Int)) (rd vs (j : Int) == 5) l q1 t1 vs ps) (a, b, q, t) ∧ pathGood a b ∧ 0 ≤ q ∧ q ≤ l.length := by
     by_cases h5 : rd vs (j : Int) = 5
     ·obtain ⟨a, b, q, t, k1, k2⟩ := hj2 1 (by decide) (fun h => h.2 rfl)
      refine ⟨a, b, q, t, Ev.step (fun k => ?_) k1, k2⟩
      simp only [spec_l06Path.j1]
      rw [if_pos (by simp [h5])]
     ·obtain ⟨a, b, q, t, k1, k2⟩ := hj2 (rd [2, 2, 2, 3, 4, 5, 1] (vi : Int)) hpick (fun h => h5 (hprev ▸ h.1))
      refine ⟨a, b, q, t, Ev.step (fun k => ?_) k1, k2⟩
      simp only [spec_l06Path.j1]
      rw [if_neg (by simp [h5])]
    obtain ⟨a, b, q, t, k1, k2⟩ := hj1
    refine ⟨a, b, q, t, Ev.step (fun k => ?_) k1, k2⟩
    simp only [spec_l06Path.l0, e0, e1, Option.bind_some, ej]
    rw [if_pos hb, if_neg (by omega), if_pos (by omega), if_pos (by omega)]
  ·have hi0 : 0 < vs.length := by omega
   refine ⟨vs, ps, q0, t0, ev_done (fun k => ?_), good_of vs ps hi0 (by omega) hps hpl hvb, v0, w0⟩
   simp only [spec_l06Path.l0, e0, Option.bind_some]
   rw [if_neg hb]
theorem Path_k (p s : Int) (hp : 0 ≤ p) (hq : p ≤ l.length) : ∃ a b q t, Ev (fun k => spec_l06Path.f k l p s) (a, b, q, t) ∧ pathGood a b ∧ 0 ≤ q ∧ q ≤ l.length := by
 obtain ⟨o, q0, t0, e0, v0, w0⟩ := once_k l p s 2 hp hq hn (by omega) (by omega)
 cases o with
 | true =>
  obtain ⟨b1, q1, t1, e1, x1, y1, v1, w1⟩ := below_r l q0 t0 2400 v0 w0 hn (by omega) (by omega)
  obtain ⟨b2, q2, t2, e2, x2, y2, v2, w2⟩ := below_r l q1 t1 2400 v1 w1 hn (by omega) (by omega)
  obtain ⟨b3, q3, t3, e3, x3, y3, v3, w3⟩ := below_r l q2 t2 1500 v2 w2 hn (by omega) (by omega)
  obtain ⟨b4, q4, t4, e4, x4, y4, v4, w4⟩ := below_r l q3 t3 1500 v3 w3 hn (by omega) (by omega)
  have z1 : wrap64 ((wrap64 (b1 + 1)) + b3) = b1 + 1 + b3 := by
   rw [w64 (x := b1 + 1) (by omega) (by omega), w64 (by omega) (by omega)]
  have z2 : wrap64 ((wrap64 (b2 + 1)) + b4) = b2 + 1 + b4 := by
   rw [w64 (x := b2 + 1) (by omega) (by omega), w64 (by omega) (by omega)]
  obtain ⟨vs, ps, e5, hf⟩ := Rect_k b1 b2 (b1 + 1 + b3) (b2 + 1 + b4) (by omega) (by omega) ⟨⟨by omega, by omega⟩, ⟨by omega, by omega⟩⟩ ⟨⟨by omega, by omega⟩, ⟨by omega, by omega⟩⟩
  refine ⟨vs, ps, q4, t4, ?_, hf, v4, w4⟩
  unfold spec_l06Path.f
  simp only [e0, e1, e2, e3, e4, z1, z2, e5, Option.bind_some, if_true]
  exact Ev.now _
 | false =>
  obtain ⟨a, b, q, t, k1, k2⟩ := pathk_l l hn 6 0 [] [] q0 t0 (by omega) rfl rfl (by simp) rfl v0 w0
  refine ⟨a, b, q, t, ?_, k2⟩
  unfold spec_l06Path.f
  simp only [e0, Option.bind_some, Bool.false_eq_true, if_false]
  exact k1
end

/-! DrawNode -/
theorem point_b (l : List Int) (p s : Int) (hp : 0 ≤ p) (hl : p ≤ l.length) (hn : l.length ≤ 1048576) : ∃ a b q t : Int, spec_l04Point.f l p s = some (a, b, q, t) ∧ (-300 ≤ a ∧ a ≤ 3299) ∧ (-300 ≤ b ∧ b ≤ 3299) ∧ 0 ≤ q ∧ q ≤ l.length := by
 obtain ⟨b0, q0, t0, e0, l0, u0, v0, w0⟩ := below_r l p s 3600 hp hl hn (by omega) (by omega)
 obtain ⟨b1, q1, t1, e1, l1, u1, v1, w1⟩ := below_r l q0 t0 3600 v0 w0 hn (by omega) (by omega)
 unfold spec_l04Point.f
 rw [e0]
 simp only [Option.bind_some, e1]
 rw [w64 (x := b0 - 300) (by omega) (by omega), w64 (x := b1 - 300) (by omega) (by omega)]
 exact ⟨_, _, _, _, rfl, by omega, by omega, v1, w1⟩
theorem paint_b (l : List Int) (p s : Int) (hp : 0 ≤ p) (hl : p ≤ l.length) (hn : l.length ≤ 1048576) : ∃ p0 p1 p2 p3 p4 p5 p6 p7 p8 p9 p10 p11 p12 q t : Int, spec_l12Paint.f l p s = some (p0, p1, p2, p3, p4, p5, p6, p7, p8, p9, p10, p11, p12, q, t) ∧ goodP p0 p1 p2 p3 p4 p5 p6 p7 p8 p9 p10 p11 p12 ∧ 0 ≤ q ∧ q ≤ l.length := by
 obtain ⟨a, b, c, d, q0, t0, e0, ha, hb, hc, hd, v0, w0⟩ := color_r l p s hp hl hn
 obtain ⟨z, q1, t1, e1, v1, w1⟩ := once_k l q0 t0 3 v0 w0 hn (by omega) (by omega)
 unfold spec_l12Paint.f
 rw [e0]
 simp only [Option.bind_some, e1]
 by_cases hz : z = true
 ·subst hz
  obtain ⟨a', b', c', d', q2, t2, e2, ha', hb', hc', hd', v2, w2⟩ := color_r l q1 t1 v1 w1 hn
  obtain ⟨x0, y0, q3, t3, e3, hx0, hy0, v3, w3⟩ := point_b l q2 t2 v2 w2 hn
  obtain ⟨x1, y1, q4, t4, e4, hx1, hy1, v4, w4⟩ := point_b l q3 t3 v3 w3 hn
  simp only [if_true, e2, e3, e4, Option.bind_some]
  by_cases hxy : x0 = x1 ∧ y0 = y1
  ·obtain ⟨rfl, rfl⟩ := hxy
   simp only [beq_self_eq_true, Bool.and_self, if_true, w64 (x := x0 + 1) (by omega) (by omega)]
   refine ⟨_, _, _, _, _, _, _, _, _, _, _, _, _, _, _, rfl, ⟨⟨ha, hb, hc, hd⟩, .inr ⟨rfl, ⟨ha', hb', hc', hd'⟩, ?_, ?_, ?_⟩⟩, v4, w4⟩
   ·unfold pointOkP
    omega
   ·unfold pointOkP
    omega
   ·omega
  ·have hb2 : ¬ ((x0 == x1 && (y0 == y1)) = true) := by simpa using hxy
   simp only [if_neg hb2]
   refine ⟨_, _, _, _, _, _, _, _, _, _, _, _, _, _, _, rfl, ⟨⟨ha, hb, hc, hd⟩, .inr ⟨rfl, ⟨ha', hb', hc', hd'⟩, ?_, ?_, hxy⟩⟩, v4, w4⟩
   ·unfold pointOkP
    omega
   ·unfold pointOkP
    omega
 ·simp only [if_neg hz]
  exact ⟨_, _, _, _, _, _, _, _, _, _, _, _, _, _, _, rfl, ⟨⟨ha, hb, hc, hd⟩, .inl ⟨rfl, ⟨rfl, rfl, rfl, rfl⟩, ⟨rfl, rfl⟩, rfl, rfl⟩⟩, v1, w1⟩
theorem mat_b (l : List Int) (p s : Int) (hp : 0 ≤ p) (hl : p ≤ l.length) (hn : l.length ≤ 1048576) : ∃ a b c d e f q t : Int, spec_l04Mat.f l p s = some (a, b, c, d, e, f, q, t) ∧ matB a b c d e f = true ∧ 0 ≤ q ∧ q ≤ l.length := by
 obtain ⟨b0, q0, t0, e0, l0, u0, v0, w0⟩ := below_r l p s 1200 hp hl hn (by omega) (by omega)
 obtain ⟨b1, q1, t1, e1, l1, u1, v1, w1⟩ := below_r l q0 t0 1200 v0 w0 hn (by omega) (by omega)
 obtain ⟨b2, q2, t2, e2, l2, u2, v2, w2⟩ := below_r l q1 t1 6 v1 w1 hn (by omega) (by omega)
 obtain ⟨b3, q3, t3, e3, l3, u3, v3, w3⟩ := below_r l q2 t2 65536 v2 w2 hn (by omega) (by omega)
 obtain ⟨b4, q4, t4, e4, l4, u4, v4, w4⟩ := below_r l q3 t3 65536 v3 w3 hn (by omega) (by omega)
 unfold spec_l04Mat.f spec_Shift.f
 simp only [e0, e1, e2, Option.bind_some]
 rw [w64 (x := b0 - 400) (by omega) (by omega), w64 (x := b1 - 400) (by omega) (by omega)]
 by_cases h0 : b2 = 0
 ·simp only [if_pos h0, e3, e4, Option.bind_some]
  rw [w64 (x := 32768 + b3) (by omega) (by omega), w64 (x := 32768 + b4) (by omega) (by omega)]
  exact ⟨_, _, _, _, _, _, _, _, rfl, decide_eq_true (by omega), v4, w4⟩
 ·simp only [if_neg h0]
  by_cases h1 : b2 = 1
  ·simp only [if_pos h1]
   exact ⟨_, _, _, _, _, _, _, _, rfl, decide_eq_true (by omega), v2, w2⟩
  ·simp only [if_neg h1]
   by_cases h2 : b2 = 2
   ·simp only [if_pos h2, e3, Option.bind_some]
    rw [w64 (x := b3 - 32768) (by omega) (by omega)]
    exact ⟨_, _, _, _, _, _, _, _, rfl, decide_eq_true (by omega), v3, w3⟩
   ·simp only [if_neg h2]
    exact ⟨_, _, _, _, _, _, _, _, rfl, decide_eq_true (by omega), v2, w2⟩
def nodeTup (x : S69) (q t : Int) : Int × Int × Bool × Int × Int × Int × Int × Int × Int × List Int × List S29 × Bool × Int × List Int × Int × Int × Int × Int × Int × Int × Int × Int × Int × Int × Int × Int × Int × Int × Int × List Int × List S29 × Int × Int :=
 (x.f0, x.f1, x.f2, x.f3.f0, x.f3.f1, x.f3.f2, x.f3.f3, x.f3.f4, x.f3.f5, x.f4.f0, x.f4.f1, x.f5, x.f6, x.f7, x.f8.f0, x.f8.f1.f0, x.f8.f1.f1, x.f8.f1.f2, x.f8.f1.f3, x.f8.f2.f0, x.f8.f2.f1, x.f8.f2.f2, x.f8.f2.f3, x.f8.f3.f0, x.f8.f3.f1, x.f8.f4.f0, x.f8.f4.f1, x.f9, x.f10, x.f11.f0, x.f11.f1, q, t)
def nodeOkP (x : S69) : Prop := nodeB x.f0 x.f1 x.f2 x.f3.f0 x.f3.f1 x.f3.f2 x.f3.f3 x.f3.f4 x.f3.f5 x.f4.f0 x.f4.f1 x.f5 x.f6 x.f7 x.f8.f0 x.f8.f1.f0 x.f8.f1.f1 x.f8.f1.f2 x.f8.f1.f3 x.f8.f2.f0 x.f8.f2.f1 x.f8.f2.f2 x.f8.f2.f3 x.f8.f3.f0 x.f8.f3.f1 x.f8.f4.f0 x.f8.f4.f1 x.f9 x.f10 x.f11.f0 x.f11.f1 = true ∧ x.f7.length ≤ 1048576
theorem path_none : pathB [] [] = true := by rfl
theorem node_yes {a0 a1 : Int} {a2 : Bool} {a3 a4 a5 a6 a7 a8 : Int} {l9 : List Int} {l10 : List S29} {a11 : Bool} {a12 : Int} {l13 : List Int} {a14 a15 a16 a17 a18 a19 a20 a21 a22 a23 a24 a25 a26 a27 a28 : Int} {l29 : List Int} {l30 : List S29}
  (h0 : 1 ≤ a0 ∧ a0 ≤ 99) (h1 : 0 ≤ a1 ∧ a1 ≤ 99) (h2 : a0 ≠ a1) (hm : matB a3 a4 a5 a6 a7 a8 = true) (hp : pathB l9 l10 = true) (hc : pathB l29 l30 = true) (hw : 0 ≤ a12 ∧ a12 ≤ 2048) (hd : dashOkB l13 = true) (h27 : 1 ≤ a27 ∧ a27 ≤ 5) (h28 : 0 ≤ a28 ∧ a28 ≤ 255)
  (ht : tailB a2 l9 l10 a11 a12 l13 a14 a15 a16 a17 a18 a19 a20 a21 a22 a23 a24 a25 a26 = true) : nodeB a0 a1 a2 a3 a4 a5 a6 a7 a8 l9 l10 a11 a12 l13 a14 a15 a16 a17 a18 a19 a20 a21 a22 a23 a24 a25 a26 a27 a28 l29 l30 = true := by
 unfold nodeB
 rw [decide_eq_true h0, decide_eq_true h1, decide_eq_true h2, hm, hp, hc, decide_eq_true hw, hd, decide_eq_true h27, decide_eq_true h28, ht]
 rfl
section
variable (l : List Int) (hn : l.length ≤ 1048576)
include hn
theorem Node_j1 (id par m1 m2 m3 m4 m5 m6 mode fade : Int) (c1 : List Int) (c2 : List S29) (hid : 1 ≤ id ∧ id ≤ 99) (hpar : 0 ≤ par ∧ par ≤ 99) (hne : id ≠ par) (hm : matB m1 m2 m3 m4 m5 m6 = true) (hmode : 1 ≤ mode ∧ mode ≤ 5) (hfade : 0 ≤ fade ∧ fade ≤ 255) (hc : pathB c1 c2 = true) (p s : Int) (hp : 0 ≤ p) (hl : p ≤ l.length) :
  ∃ (x : S69) (q t : Int), Ev (fun k => spec_l15Node.j1 k l p s id par false m1 m2 m3 m4 m5 m6 false 0 0 0 0 0 0 0 0 0 0 0 0 0 0 mode fade c1 c2) (nodeTup x q t) ∧ nodeOkP x ∧ (x.f0 = id ∧ x.f1 = par) ∧ 0 ≤ q ∧ q ≤ l.length := by
 obtain ⟨o1, q1, t1, e1, v1, w1⟩ := once_k l p s 3 hp hl hn (by omega) (by omega)
 cases o1 with
 | true =>
  refine ⟨⟨id, par, true, ⟨m1, m2, m3, m4, m5, m6⟩, ⟨[], []⟩, false, 0, [], ⟨0, ⟨0, 0, 0, 0⟩, ⟨0, 0, 0, 0⟩, ⟨0, 0⟩, ⟨0, 0⟩⟩, mode, fade, ⟨c1, c2⟩⟩, q1, t1, ev_done (fun k => ?_), ⟨node_yes hid hpar hne hm path_none hc (show (0 : Int) ≤ 0 ∧ (0 : Int) ≤ 2048 by omega) rfl hmode hfade rfl, by simp⟩, ⟨rfl, rfl⟩, v1, w1⟩
  rw [spec_l15Node.j1, e1]
  rfl
 | false =>
  obtain ⟨a, b, q2, t2, k2, g2, v2, w2⟩ := Path_k l hn q1 t1 v1 w1
  obtain ⟨o3, q3, t3, e3, v3, w3⟩ := once_k l q2 t2 3 v2 w2 hn (by omega) (by omega)
  obtain ⟨p0, p1, p2, p3, p4, p5, p6, p7, p8, p9, p10, p11, p12, q4, t4, e4, g4, v4, w4⟩ := paint_b l q3 t3 v3 w3 hn
  obtain ⟨o5, q5, t5, e5, v5, w5⟩ := once_k l q4 t4 3 v4 w4 hn (by omega) (by omega)
  have hpb : pathB a b = true := g2.2.2
  have hpt := good_ok g4
  have tl : ∀ (ev : Bool) (wd : Int) (ds : List Int), tailB false a b ev wd ds p0 p1 p2 p3 p4 p5 p6 p7 p8 p9 p10 p11 p12 = true := fun ev wd ds => by
   unfold tailB
   rw [if_neg (by simp)]
   exact hpt
  have st : ∀ (r : Int × Int × Bool × Int × Int × Int × Int × Int × Int × List Int × List S29 × Bool × Int × List Int × Int × Int × Int × Int × Int × Int × Int × Int × Int × Int × Int × Int × Int × Int × Int × List Int × List S29 × Int × Int), Ev (fun k => (spec_l01Once.f l q4 t4 3).bind fun bt383 => (if bt383.1 = true then ((spec_l01Below.f l bt383.2.1 bt383.2.2 600).bind fun bt386 => ((spec_l01Once.f l bt386.2.1 bt386.2.2 2).bind fun bt389 => (if bt389.1 = true then ((spec_l01Below.f l bt389.2.1 bt389.2.2 500).bind fun bt392 => ((spec_l01Below.f l bt392.2.1 bt392.2.2 500).bind fun bt395 => (some (id, par, false, m1, m2, m3, m4, m5, m6, a, b, o3, wrap64 (1 + bt386.1), (([wrap64 (100 + bt392.1), wrap64 (50 + bt395.1)] : List Int)), p0, p1, p2, p3, p4, p5, p6, p7, p8, p9, p10, p11, p12, mode, fade, c1, c2, bt395.2.1, bt395.2.2)))) else (some (id, par, false, m1, m2, m3, m4, m5, m6, a, b, o3, wrap64 (1 + bt386.1), ([] : List Int), p0, p1, p2, p3, p4, p5, p6, p7, p8, p9, p10, p11, p12, mode, fade, c1, c2, bt389.2.1, bt389.2.2))))) else (some (id, par, false, m1, m2, m3, m4, m5, m6, a, b, o3, 0, ([] : List Int), p0, p1, p2, p3, p4, p5, p6, p7, p8, p9, p10, p11, p12, mode, fade, c1, c2, bt383.2.1, bt383.2.2)))) r → Ev (fun k => spec_l15Node.j1 k l p s id par false m1 m2 m3 m4 m5 m6 false 0 0 0 0 0 0 0 0 0 0 0 0 0 0 mode fade c1 c2) r := by
   intro r hr
   refine Ev.step (f := _) (fun k => by rw [spec_l15Node.j1, e1, Option.bind_some, if_neg (show ¬ false = true by simp)]) ?_
   refine Ev.bind k2 ?_
   simp only [e3, e4, Option.bind_some]
   exact hr
  cases o5 with
  | false =>
   refine ⟨⟨id, par, false, ⟨m1, m2, m3, m4, m5, m6⟩, ⟨a, b⟩, o3, 0, [], ⟨p0, ⟨p1, p2, p3, p4⟩, ⟨p5, p6, p7, p8⟩, ⟨p9, p10⟩, ⟨p11, p12⟩⟩, mode, fade, ⟨c1, c2⟩⟩, q5, t5, st _ ?_, ⟨node_yes hid hpar hne hm hpb hc (show (0 : Int) ≤ 0 ∧ (0 : Int) ≤ 2048 by omega) rfl hmode hfade (tl _ _ _), by simp⟩, ⟨rfl, rfl⟩, v5, w5⟩
   simp only [e5, Option.bind_some, Bool.false_eq_true, if_false]
   exact Ev.now _
  | true =>
   obtain ⟨b6, q6, t6, e6, l6, u6, v6, w6⟩ := below_r l q5 t5 600 v5 w5 hn (by omega) (by omega)
   obtain ⟨o7, q7, t7, e7, v7, w7⟩ := once_k l q6 t6 2 v6 w6 hn (by omega) (by omega)
   have ew : wrap64 (1 + b6) = 1 + b6 := w64 (by omega) (by omega)
   have hwd : 0 ≤ 1 + b6 ∧ 1 + b6 ≤ 2048 := by omega
   cases o7 with
   | false =>
    refine ⟨⟨id, par, false, ⟨m1, m2, m3, m4, m5, m6⟩, ⟨a, b⟩, o3, 1 + b6, [], ⟨p0, ⟨p1, p2, p3, p4⟩, ⟨p5, p6, p7, p8⟩, ⟨p9, p10⟩, ⟨p11, p12⟩⟩, mode, fade, ⟨c1, c2⟩⟩, q7, t7, st _ ?_, ⟨node_yes hid hpar hne hm hpb hc hwd rfl hmode hfade (tl _ _ _), by simp⟩, ⟨rfl, rfl⟩, v7, w7⟩
    simp only [e5, e6, e7, ew, Option.bind_some, Bool.false_eq_true, if_false, if_true]
    exact Ev.now _
   | true =>
    obtain ⟨b8, q8, t8, e8, l8, u8, v8, w8⟩ := below_r l q7 t7 500 v7 w7 hn (by omega) (by omega)
    obtain ⟨b9, q9, t9, e9, l9, u9, v9, w9⟩ := below_r l q8 t8 500 v8 w8 hn (by omega) (by omega)
    have e10 : wrap64 (100 + b8) = 100 + b8 := w64 (by omega) (by omega)
    have e11 : wrap64 (50 + b9) = 50 + b9 := w64 (by omega) (by omega)
    have hds : dashOkB [100 + b8, 50 + b9] = true := by
     unfold dashOkB
     simp
     omega
    refine ⟨⟨id, par, false, ⟨m1, m2, m3, m4, m5, m6⟩, ⟨a, b⟩, o3, 1 + b6, [100 + b8, 50 + b9], ⟨p0, ⟨p1, p2, p3, p4⟩, ⟨p5, p6, p7, p8⟩, ⟨p9, p10⟩, ⟨p11, p12⟩⟩, mode, fade, ⟨c1, c2⟩⟩, q9, t9, st _ ?_, ⟨node_yes hid hpar hne hm hpb hc hwd hds hmode hfade (tl _ _ _), by simp⟩, ⟨rfl, rfl⟩, v9, w9⟩
    simp only [e5, e6, e7, e8, e9, e10, e11, ew, Option.bind_some, if_true]
    exact Ev.now _
theorem Node_j0 (id par m1 m2 m3 m4 m5 m6 mode fade : Int) (hid : 1 ≤ id ∧ id ≤ 99) (hpar : 0 ≤ par ∧ par ≤ 99) (hne : id ≠ par) (hm : matB m1 m2 m3 m4 m5 m6 = true) (hmode : 1 ≤ mode ∧ mode ≤ 5) (hfade : 0 ≤ fade ∧ fade ≤ 255) (p s : Int) (hp : 0 ≤ p) (hl : p ≤ l.length) :
  ∃ (x : S69) (q t : Int), Ev (fun k => spec_l15Node.j0 k l p s id par false m1 m2 m3 m4 m5 m6 false 0 0 0 0 0 0 0 0 0 0 0 0 0 0 mode fade) (nodeTup x q t) ∧ nodeOkP x ∧ (x.f0 = id ∧ x.f1 = par) ∧ 0 ≤ q ∧ q ≤ l.length := by
 obtain ⟨o1, q1, t1, e1, v1, w1⟩ := once_k l p s 4 hp hl hn (by omega) (by omega)
 cases o1 with
 | true =>
  obtain ⟨a, b, q2, t2, k2, g2, v2, w2⟩ := Path_k l hn q1 t1 v1 w1
  obtain ⟨x, q, t, h1, h2⟩ := Node_j1 l hn id par m1 m2 m3 m4 m5 m6 mode fade a b hid hpar hne hm hmode hfade g2.2.2 q2 t2 v2 w2
  refine ⟨x, q, t, ?_, h2⟩
  refine Ev.step (f := _) (fun k => by rw [spec_l15Node.j0, e1, Option.bind_some, if_pos rfl]) ?_
  exact Ev.bind k2 h1
 | false =>
  obtain ⟨x, q, t, h1, h2⟩ := Node_j1 l hn id par m1 m2 m3 m4 m5 m6 mode fade [] [] hid hpar hne hm hmode hfade path_none q1 t1 v1 w1
  refine ⟨x, q, t, ?_, h2⟩
  refine Ev.step (f := _) (fun k => by rw [spec_l15Node.j0, e1, Option.bind_some, if_neg (show ¬ false = true by simp)]) ?_
  exact h1
theorem pick_mode (p s : Int) (hp : 0 ≤ p) (hl : p ≤ l.length) : ∃ v q t : Int, spec_l01PickInt.f l p s [1, 1, 1, 2, 3, 4, 5] = some (v, q, t) ∧ (1 ≤ v ∧ v ≤ 5) ∧ 0 ≤ q ∧ q ≤ l.length := by
 obtain ⟨i, q, t, e, hi, v, w⟩ := pick_r l p s [1, 1, 1, 2, 3, 4, 5] hp hl hn (by simp) (by simp)
 refine ⟨_, q, t, e, ?_, v, w⟩
 have hm : ∀ x ∈ ([1, 1, 1, 2, 3, 4, 5] : List Int), 1 ≤ x ∧ x ≤ 5 := by decide
 rw [rd_int _ _ hi]
 exact hm _ (List.getElem_mem hi)
theorem pick_fade (p s : Int) (hp : 0 ≤ p) (hl : p ≤ l.length) : ∃ v q t : Int, spec_l01PickInt.f l p s [255, 255, 255, 128, 0] = some (v, q, t) ∧ (0 ≤ v ∧ v ≤ 255) ∧ 0 ≤ q ∧ q ≤ l.length := by
 obtain ⟨i, q, t, e, hi, v, w⟩ := pick_r l p s [255, 255, 255, 128, 0] hp hl hn (by simp) (by simp)
 refine ⟨_, q, t, e, ?_, v, w⟩
 have hm : ∀ x ∈ ([255, 255, 255, 128, 0] : List Int), 0 ≤ x ∧ x ≤ 255 := by decide
 rw [rd_int _ _ hi]
 exact hm _ (List.getElem_mem hi)
theorem Node_k (id par : Int) (hid : 1 ≤ id ∧ id ≤ 99) (hpar : 0 ≤ par ∧ par ≤ 99) (hne : id ≠ par) (p s : Int) (hp : 0 ≤ p) (hl : p ≤ l.length) :
  ∃ (x : S69) (q t : Int), Ev (fun k => spec_l15Node.f k l p s id par) (nodeTup x q t) ∧ nodeOkP x ∧ (x.f0 = id ∧ x.f1 = par) ∧ 0 ≤ q ∧ q ≤ l.length := by
 obtain ⟨mo, q1, t1, e1, hmo, v1, w1⟩ := pick_mode l hn p s hp hl
 obtain ⟨fa, q2, t2, e2, hfa, v2, w2⟩ := pick_fade l hn q1 t1 v1 w1
 obtain ⟨o3, q3, t3, e3, v3, w3⟩ := once_k l q2 t2 3 v2 w2 hn (by omega) (by omega)
 unfold spec_l15Node.f spec_Still.f
 simp only [e1, e2, e3, Option.bind_some]
 cases o3 with
 | true =>
  obtain ⟨a, b, c, d, e, f, q4, t4, e4, hm, v4, w4⟩ := mat_b l q3 t3 v3 w3 hn
  simp only [e4, Option.bind_some, if_true]
  exact Node_j0 l hn id par a b c d e f mo fa hid hpar hne hm hmo hfa q4 t4 v4 w4
 | false =>
  simp only [Bool.false_eq_true, if_false]
  exact Node_j0 l hn id par 65536 0 0 65536 0 0 mo fa hid hpar hne (by decide) hmo hfa q3 t3 v3 w3
end

/-! laws_szIntS -/
/-! laws_szPointS -/
/-! laws_toIntS -/
def convInt (x : Int) : Int := x
/-! rd_laws_Point -/
/-! laws_toPointS -/
/-! laws_eqIntS -/
/-! laws_eqPointS -/
/-! PathM -/
/-! rd_impl_Node -/
theorem rd_impl_Node (xs : List S69) (i : Nat) (h : i < xs.length) : rd_T69 xs (i : Int) = xs[i] := by
 unfold rd_T69
 simp [h]

/-! rd_laws_Node -/
/-! Scene -/
def nodeFitsI (x : S69) : Prop := x.f4.f0.length ≤ 1048576 ∧ x.f4.f1.length ≤ 1048576 ∧ x.f7.length ≤ 1048576 ∧ x.f11.f0.length ≤ 1048576 ∧ x.f11.f1.length ≤ 1048576
/-! NodeAt -/
def nodeAtP : List S69 → Int → Int → Int
 | [], _, _ => -1
 | x :: t, id, i => if x.f0 = id then i else nodeAtP t id (i + 1)
theorem nodeAtP_bd : ∀ (t : List S69) (id i : Int), 0 ≤ i → nodeAtP t id i = -1 ∨ (i ≤ nodeAtP t id i ∧ nodeAtP t id i < i + t.length)
 | [], _, _, _ => .inl rfl
 | x :: t, id, i, h => by
  unfold nodeAtP
  simp only [List.length_cons]
  split
  ·exact .inr ⟨by omega, by omega⟩
  ·rcases nodeAtP_bd t id (i + 1) (by omega) with h1 | h1
   ·exact .inl h1
   ·exact .inr ⟨by omega, by omega⟩
theorem NodeAt_l (xs : List S69) (hn : xs.length ≤ 1048576) (id : Int) : ∀ (d i : Nat), i + d = xs.length →
  Ev (fun k => spec_NodeAt.l0 k id (i : Int) xs) (nodeAtP (xs.drop i) id (i : Int)) ∧ Ev (fun k => impl_Node_NodeAt_1.l0 k xs (xs.length : Int) (i : Int) id) (nodeAtP (xs.drop i) id (i : Int)) := by
 intro d
 induction d with
 | zero =>
  intro i hi
  rw [List.drop_of_length_le (by omega)]
  refine ⟨ev_done (fun k => ?_), ev_done (fun k => ?_)⟩
  ·simp only [spec_NodeAt.l0, nodeAtP]
   rw [if_neg (by omega)]
  ·simp only [impl_Node_NodeAt_1.l0, nodeAtP]
   rw [if_neg (by omega)]
 | succ d ih =>
  intro i hi
  have hi2 : i < xs.length := by omega
  have e := rd_impl_Node xs i hi2
  rw [List.drop_eq_getElem_cons hi2, nodeAtP]
  by_cases h : (xs[i]).f0 = id
  ·rw [if_pos h]
   refine ⟨ev_done (fun k => ?_), ev_done (fun k => ?_)⟩
   ·simp only [spec_NodeAt.l0, e]
    rw [if_pos (by omega), if_pos (by omega), if_pos h]
   ·simp only [impl_Node_NodeAt_1.l0, impl_NodeAt_1.f, e, h, beq_self_eq_true, Option.bind_some, if_true]
    rw [if_pos (by omega), if_pos (by omega), if_pos (by omega)]
  ·rw [if_neg h]
   obtain ⟨h1, h2⟩ := ih (i + 1) (by omega)
   have e2 : (((i + 1 : Nat) : Int)) = (i : Int) + 1 := by omega
   rw [e2] at h1 h2
   refine ⟨Ev.step (fun k => ?_) h1, Ev.step (fun k => ?_) h2⟩
   ·simp only [spec_NodeAt.l0, e, step64 hi2 (show xs.length ≤ 4611686018427387904 by omega), e2]
    rw [if_pos (by omega), if_pos (by omega), if_neg h]
   ·simp only [impl_Node_NodeAt_1.l0, impl_NodeAt_1.f, e, beq_eq_false_iff_ne.mpr h, Option.bind_some, Bool.false_eq_true, if_false, step64 hi2 (show xs.length ≤ 4611686018427387904 by omega), e2]
    rw [if_pos (by omega), if_pos (by omega), if_pos (by omega)]
theorem NodeAt_v (xs : List S69) (hn : xs.length ≤ 1048576) (id : Int) :
  Ev (fun k => spec_NodeAt.f k xs id) (nodeAtP xs id 0) ∧ Ev (fun k => impl_NodeAt.f k xs id) (nodeAtP xs id 0) := by
 obtain ⟨h1, h2⟩ := NodeAt_l xs hn id xs.length 0 (by omega)
 rw [List.drop_zero] at h1 h2
 refine ⟨h1, ?_⟩
 unfold impl_NodeAt.f impl_Node_NodeAt_1.f
 exact Ev.bind h2 (Ev.now _)

/-! DepthOf -/
theorem DepthOf_l (xs : List S69) (hn : xs.length ≤ 1048576) : ∀ (d : Nat) (i x : Int), i + d = 8 → 0 ≤ i → ¬ x = 0 → ∃ r, Ev (fun k => spec_DepthOf.l0 k x i i xs) r ∧ Ev (fun k => impl_DepthOf.l0 k x (i + 1) xs) r := by
 intro d
 induction d with
 | zero =>
  intro i x hi h0 hx
  obtain ⟨h1, h2⟩ := NodeAt_v xs hn x
  refine ⟨0, ?_, ev_done (fun k => ?_)⟩
  ·refine Ev.step (f := _) (fun k => by simp only [spec_DepthOf.l0]; rw [if_pos (by omega), if_neg hx]) ?_
   refine Ev.bind h1 ?_
   by_cases hm : nodeAtP xs x 0 < 0
   ·simp only [if_pos hm]
    exact Ev.now _
   ·rcases nodeAtP_bd xs x 0 (by omega) with hb | hb
    ·omega
    ·simp only [if_neg hm, if_pos (show 0 ≤ nodeAtP xs x 0 by omega), if_pos (show nodeAtP xs x 0 < (xs.length : Int) by omega), w64 (x := i + 1) (by omega) (by omega)]
     refine ev_done (fun k => ?_)
     simp only [spec_DepthOf.l0]
     rw [if_neg (by omega)]
  ·simp only [impl_DepthOf.l0]
   rw [if_neg (by omega)]
 | succ d ih =>
  intro i x hi h0 hx
  obtain ⟨h1, h2⟩ := NodeAt_v xs hn x
  by_cases hm : nodeAtP xs x 0 < 0
  ·refine ⟨0, ?_, ?_⟩
   ·refine Ev.step (f := _) (fun k => by simp only [spec_DepthOf.l0]; rw [if_pos (by omega), if_neg hx]) ?_
    refine Ev.bind h1 ?_
    simp only [if_pos hm]
    exact Ev.now _
   ·refine Ev.step (f := _) (fun k => by simp only [impl_DepthOf.l0]; rw [if_pos (by omega)]) ?_
    refine Ev.bind h2 ?_
    simp only [if_pos hm]
    exact Ev.now _
  ·have hb : 0 ≤ nodeAtP xs x 0 ∧ nodeAtP xs x 0 < (xs.length : Int) := by
    rcases nodeAtP_bd xs x 0 (by omega) with hb | hb <;> omega
   by_cases hp : (rd_T69 xs (nodeAtP xs x 0)).f1 = 0
   ·refine ⟨i + 1, ?_, ?_⟩
    ·refine Ev.step (f := _) (fun k => by simp only [spec_DepthOf.l0]; rw [if_pos (by omega), if_neg hx]) ?_
     refine Ev.bind h1 ?_
     simp only [if_neg hm, if_pos hb.1, if_pos hb.2, w64 (x := i + 1) (by omega) (by omega), hp]
     refine ev_done (fun k => ?_)
     simp only [spec_DepthOf.l0, if_true]
     rw [if_pos (by omega)]
    ·refine Ev.step (f := _) (fun k => by simp only [impl_DepthOf.l0]; rw [if_pos (by omega)]) ?_
     refine Ev.bind h2 ?_
     simp only [if_neg hm, if_pos hb.1, if_pos hb.2, if_pos hp]
     exact Ev.now _
   ·obtain ⟨r, g1, g2⟩ := ih (i + 1) _ (by omega) (by omega) hp
    refine ⟨r, ?_, ?_⟩
    ·refine Ev.step (f := _) (fun k => by simp only [spec_DepthOf.l0]; rw [if_pos (by omega), if_neg hx]) ?_
     refine Ev.bind h1 ?_
     simp only [if_neg hm, if_pos hb.1, if_pos hb.2, w64 (x := i + 1) (by omega) (by omega)]
     exact g1
    ·refine Ev.step (f := _) (fun k => by simp only [impl_DepthOf.l0]; rw [if_pos (by omega)]) ?_
     refine Ev.bind h2 ?_
     simp only [if_neg hm, if_pos hb.1, if_pos hb.2, if_neg hp, w64 (x := i + 1 + 1) (by omega) (by omega)]
     exact g2
theorem DepthOf_v (xs : List S69) (hn : xs.length ≤ 1048576) (x : Int) : ∃ r, Ev (fun k => spec_DepthOf.f k xs x) r ∧ Ev (fun k => impl_DepthOf.f k xs x) r := by
 unfold spec_DepthOf.f impl_DepthOf.f
 by_cases hx : x = 0
 ·refine ⟨0, ev_done (fun k => ?_), ?_⟩
  ·simp only [spec_DepthOf.l0, if_pos hx]
   rw [if_pos (by omega)]
  ·simp only [if_pos hx]
   exact Ev.now _
 ·obtain ⟨r, h1, h2⟩ := DepthOf_l xs hn 8 0 x (by omega) (by omega) hx
  refine ⟨r, h1, ?_⟩
  simp only [if_neg hx]
  exact h2

/-! isParent -/
def parB (xs : List S69) (id : Int) : Bool := if id = 0 then true else if nodeAtP xs id 0 < 0 then false else (rd_T69 xs (nodeAtP xs id 0)).f2
theorem isParent_v (xs : List S69) (hn : xs.length ≤ 1048576) (id : Int) : Ev (fun k => impl_Scene_isParent.f k xs id) (parB xs id) := by
 obtain ⟨_, h2⟩ := NodeAt_v xs hn id
 have hb := nodeAtP_bd xs id 0 (by omega)
 unfold impl_Scene_isParent.f parB
 refine Ev.bind h2 ?_
 by_cases h0 : id = 0
 ·simp only [if_pos h0]
  exact Ev.now _
 ·simp only [if_neg h0]
  by_cases hp : nodeAtP xs id 0 < 0
  ·simp only [if_pos hp, if_neg (show ¬ nodeAtP xs id 0 ≥ 0 by omega)]
   exact Ev.now _
  ·simp only [if_neg hp, if_pos (show nodeAtP xs id 0 ≥ 0 by omega), if_pos (show 0 ≤ nodeAtP xs id 0 by omega), if_pos (show nodeAtP xs id 0 < (xs.length : Int) by omega)]
   exact Ev.now _

/-! UnderOf -/
theorem Under_l (xs : List S69) (hn : xs.length ≤ 1048576) (top : Int) : ∀ (d : Nat) (i x : Int), i + d = 8 → 0 ≤ i → ∃ b : Bool, Ev (fun k => spec_l15Under.l0 k x top i xs) b ∧ Ev (fun k => impl_Scene_comesTo.l0 k x top i xs) b := by
 intro d
 induction d with
 | zero =>
  intro i x hi h0
  obtain ⟨h1, h2⟩ := NodeAt_v xs hn x
  by_cases hx : x = top
  ·refine ⟨true, ev_done (fun k => ?_), ev_done (fun k => ?_)⟩
   ·simp only [spec_l15Under.l0]
    rw [if_pos (by omega), if_pos hx]
   ·simp only [impl_Scene_comesTo.l0]
    rw [if_neg (by omega), hx, beq_self_eq_true]
  ·refine ⟨false, ?_, ev_done (fun k => ?_)⟩
   ·refine Ev.step (f := _) (fun k => by simp only [spec_l15Under.l0]; rw [if_pos (by omega), if_neg hx]) ?_
    refine Ev.bind h1 ?_
    by_cases hm : nodeAtP xs x 0 < 0
    ·simp only [if_pos hm]
     exact Ev.now _
    ·rcases nodeAtP_bd xs x 0 (by omega) with hb | hb
     ·omega
     ·simp only [if_neg hm, if_pos (show 0 ≤ nodeAtP xs x 0 by omega), if_pos (show nodeAtP xs x 0 < (xs.length : Int) by omega), w64 (x := i + 1) (by omega) (by omega)]
      refine ev_done (fun k => ?_)
      simp only [spec_l15Under.l0]
      rw [if_neg (by omega)]
   ·simp only [impl_Scene_comesTo.l0]
    rw [if_neg (by omega), beq_eq_false_iff_ne.mpr hx]
 | succ d ih =>
  intro i x hi h0
  obtain ⟨h1, h2⟩ := NodeAt_v xs hn x
  by_cases hx : x = top
  ·refine ⟨true, ev_done (fun k => ?_), ?_⟩
   ·simp only [spec_l15Under.l0]
    rw [if_pos (by omega), if_pos hx]
   ·refine Ev.step (f := _) (fun k => by simp only [impl_Scene_comesTo.l0]; rw [if_pos (by omega)]) ?_
    refine Ev.bind h2 ?_
    simp only [if_pos hx, hx, beq_self_eq_true]
    exact Ev.now _
  ·by_cases hm : nodeAtP xs x 0 < 0
   ·refine ⟨false, ?_, ?_⟩
    ·refine Ev.step (f := _) (fun k => by simp only [spec_l15Under.l0]; rw [if_pos (by omega), if_neg hx]) ?_
     refine Ev.bind h1 ?_
     simp only [if_pos hm]
     exact Ev.now _
    ·refine Ev.step (f := _) (fun k => by simp only [impl_Scene_comesTo.l0]; rw [if_pos (by omega)]) ?_
     refine Ev.bind h2 ?_
     simp only [if_neg hx, if_pos hm, beq_eq_false_iff_ne.mpr hx]
     exact Ev.now _
   ·have hb : 0 ≤ nodeAtP xs x 0 ∧ nodeAtP xs x 0 < (xs.length : Int) := by
     rcases nodeAtP_bd xs x 0 (by omega) with hb | hb <;> omega
    obtain ⟨b, g1, g2⟩ := ih (i + 1) (rd_T69 xs (nodeAtP xs x 0)).f1 (by omega) (by omega)
    refine ⟨b, ?_, ?_⟩
    ·refine Ev.step (f := _) (fun k => by simp only [spec_l15Under.l0]; rw [if_pos (by omega), if_neg hx]) ?_
     refine Ev.bind h1 ?_
     simp only [if_neg hm, if_pos hb.1, if_pos hb.2, w64 (x := i + 1) (by omega) (by omega)]
     exact g1
    ·refine Ev.step (f := _) (fun k => by simp only [impl_Scene_comesTo.l0]; rw [if_pos (by omega)]) ?_
     refine Ev.bind h2 ?_
     simp only [if_neg hx, if_neg hm, if_pos hb.1, if_pos hb.2, w64 (x := i + 1) (by omega) (by omega)]
     exact g2
theorem UnderOf_l (xs : List S69) (hn : xs.length ≤ 1048576) (id : Int) : ∀ (d i : Nat) (acc : List Int), i + d = xs.length → acc.length ≤ i → ∃ r : List Int, Ev (fun k => spec_UnderOf.l0 k id acc (i : Int) xs) r ∧ Ev (fun k => impl_UnderOf.l0 k id acc xs (xs.length : Int) (i : Int) xs) r ∧ r.length ≤ xs.length := by
 intro d
 induction d with
 | zero =>
  intro i acc hi ha
  refine ⟨acc, ev_done (fun k => ?_), ev_done (fun k => ?_), by omega⟩
  ·simp only [spec_UnderOf.l0]
   rw [if_neg (by omega)]
  ·simp only [impl_UnderOf.l0]
   rw [if_neg (by omega)]
 | succ d ih =>
  intro i acc hi ha
  have hi2 : i < xs.length := by omega
  have e := rd_impl_Node xs i hi2
  obtain ⟨b, g1, g2⟩ := Under_l xs hn id 8 0 xs[i].f0 (by omega) (by omega)
  replace g1 : Ev (fun k => spec_l15Under.f k xs xs[i].f0 id) b := g1
  replace g2 : Ev (fun k => impl_Scene_comesTo.f k xs xs[i].f0 id) b := g2
  have hst := step64 hi2 (show xs.length ≤ 4611686018427387904 by omega)
  cases b with
  | true =>
   obtain ⟨r, k1, k2, k3⟩ := ih (i + 1) (acc ++ [xs[i].f0]) (by omega) (by simp; omega)
   refine ⟨r, Ev.step (fun k => rfl) ?_, Ev.step (fun k => rfl) ?_, k3⟩
   ·simp only [spec_UnderOf.l0, e, if_pos (show (i : Int) < (xs.length : Int) by omega), if_pos (show (0 : Int) ≤ (i : Int) by omega), hst]
    refine Ev.bind g1 ?_
    simp only [if_true, if_pos (show acc.length < 17592186044416 by omega)]
    exact k1
   ·simp only [impl_UnderOf.l0, e, if_pos (show (i : Int) < (xs.length : Int) by omega), if_pos (show (0 : Int) ≤ (i : Int) by omega), hst]
    refine Ev.bind g2 ?_
    simp only [if_true, if_pos (show acc.length < 17592186044416 by omega)]
    exact k2
  | false =>
   obtain ⟨r, k1, k2, k3⟩ := ih (i + 1) acc (by omega) (by omega)
   refine ⟨r, Ev.step (fun k => rfl) ?_, Ev.step (fun k => rfl) ?_, k3⟩
   ·simp only [spec_UnderOf.l0, e, if_pos (show (i : Int) < (xs.length : Int) by omega), if_pos (show (0 : Int) ≤ (i : Int) by omega), hst]
    refine Ev.bind g1 ?_
    simp only [Bool.false_eq_true, if_false]
    exact k1
   ·simp only [impl_UnderOf.l0, e, if_pos (show (i : Int) < (xs.length : Int) by omega), if_pos (show (0 : Int) ≤ (i : Int) by omega), hst]
    refine Ev.bind g2 ?_
    simp only [Bool.false_eq_true, if_false]
    exact k2
theorem UnderOf_v (xs : List S69) (hn : xs.length ≤ 1048576) (id : Int) : ∃ r : List Int, Ev (fun k => spec_UnderOf.f k xs id) r ∧ Ev (fun k => impl_UnderOf.f k xs id) r ∧ r.length ≤ 1048576 := by
 obtain ⟨h1, h2⟩ := NodeAt_v xs hn id
 unfold spec_UnderOf.f impl_UnderOf.f
 simp only [Option.bind_some]
 by_cases hm : nodeAtP xs id 0 < 0
 ·refine ⟨[], Ev.bind h1 ?_, Ev.bind h2 ?_, by simp⟩
  ·simp only [if_pos hm]
   exact Ev.now _
  ·simp only [if_pos hm]
   exact Ev.now _
 ·obtain ⟨r, k1, k2, k3⟩ := UnderOf_l xs hn id xs.length 0 [] (by omega) (by simp)
  refine ⟨r, Ev.bind h1 ?_, Ev.bind h2 ?_, by omega⟩
  ·simp only [if_neg hm]
   exact k1
  ·simp only [if_neg hm]
   exact k2

/-! KidsOf -/
/-! TreeT -/
theorem Ev_one {α : Type} {g : Nat → Option α} {r s : α} (h1 : Ev g r) (h2 : Ev g s) : r = s := by
 obtain ⟨K, h1⟩ := h1
 obtain ⟨M, h2⟩ := h2
 have a := h1 (K + M) (by omega)
 have b := h2 (K + M) (by omega)
 rw [a] at b
 exact Option.some.inj b
/-- What a tree asks of a node: its number, its parent, whether it is a group. -/
def tr (x : S69) : Int × Int × Bool := (x.f0, x.f1, x.f2)
def atT : List (Int × Int × Bool) → Int → Int → Int
 | [], _, _ => -1
 | x :: t, id, i => if x.1 = id then i else atT t id (i + 1)
theorem atT_eq : ∀ (xs : List S69) (id i : Int), nodeAtP xs id i = atT (xs.map tr) id i
 | [], _, _ => rfl
 | x :: t, id, i => by
  rw [nodeAtP, List.map_cons, atT, atT_eq t id (i + 1)]
  rfl
def getT (ts : List (Int × Int × Bool)) (j : Int) : Int × Int × Bool := (ts[j.toNat]?).getD (0, 0, false)
theorem get_eq (xs : List S69) (j : Int) (h0 : 0 ≤ j) (h1 : j < (xs.length : Int)) : tr (rd_T69 xs j) = getT (xs.map tr) j := by
 have hj : j.toNat < xs.length := by omega
 have e : j = ((j.toNat : Nat) : Int) := by omega
 have h := rd_impl_Node xs j.toNat hj
 rw [← e] at h
 unfold getT
 rw [h, List.getElem?_map, List.getElem?_eq_getElem hj]
 rfl
def depT (ts : List (Int × Int × Bool)) : Nat → Int → Int → Int
 | 0, _, _ => 0
 | d + 1, x, i => if x = 0 then i else if atT ts x 0 < 0 then 0 else depT ts d (getT ts (atT ts x 0)).2.1 (i + 1)
def comT (ts : List (Int × Int × Bool)) (top : Int) : Nat → Int → Bool
 | 0, _ => false
 | d + 1, x => if x = top then true else if atT ts x 0 < 0 then false else comT ts top d (getT ts (atT ts x 0)).2.1
def undT (ts : List (Int × Int × Bool)) (id : Int) : List Int := if atT ts id 0 < 0 then [] else (ts.filter (fun y => comT ts id 9 y.1)).map (·.1)
def kidT (ts : List (Int × Int × Bool)) (id : Int) : List Int := (ts.filter (fun y => decide (y.2.1 = id))).map (·.1)
def parT (ts : List (Int × Int × Bool)) (id : Int) : Bool := if id = 0 then true else if atT ts id 0 < 0 then false else (getT ts (atT ts id 0)).2.2
section
variable (xs : List S69) (hn : xs.length ≤ 1048576)
include hn
theorem at_v (id : Int) : Ev (fun k => spec_NodeAt.f k xs id) (atT (xs.map tr) id 0) ∧ Ev (fun k => impl_NodeAt.f k xs id) (atT (xs.map tr) id 0) := by
 have h := NodeAt_v xs hn id
 rw [atT_eq] at h
 exact h
omit hn in
theorem at_bd (id : Int) : atT (xs.map tr) id 0 = -1 ∨ (0 ≤ atT (xs.map tr) id 0 ∧ atT (xs.map tr) id 0 < (xs.length : Int)) := by
 have h := nodeAtP_bd xs id 0 (by omega)
 rw [atT_eq] at h
 omega
theorem dep_l : ∀ (d : Nat) (i x : Int), i + d = 9 → 0 ≤ i → Ev (fun k => spec_DepthOf.l0 k x i i xs) (depT (xs.map tr) d x i) := by
 intro d
 induction d with
 | zero =>
  intro i x hi h0
  refine ev_done (fun k => ?_)
  rw [spec_DepthOf.l0, if_neg (by omega), depT]
 | succ d ih =>
  intro i x hi h0
  rw [depT]
  by_cases hx : x = 0
  ·refine ev_done (fun k => ?_)
   rw [spec_DepthOf.l0, if_pos (by omega), if_pos hx, if_pos hx]
  ·rw [if_neg hx]
   refine Ev.step (f := _) (fun k => by rw [spec_DepthOf.l0, if_pos (by omega), if_neg hx]) ?_
   refine Ev.bind (at_v xs hn x).1 ?_
   have hb := at_bd xs x
   by_cases hm : atT (xs.map tr) x 0 < 0
   ·simp only [if_pos hm]
    exact Ev.now _
   ·have g := get_eq xs (atT (xs.map tr) x 0) (by omega) (by omega)
    simp only [if_neg hm, if_pos (show 0 ≤ atT (xs.map tr) x 0 by omega), if_pos (show atT (xs.map tr) x 0 < (xs.length : Int) by omega), w64 (x := i + 1) (by omega) (by omega)]
    rw [← g]
    exact ih (i + 1) _ (by omega) (by omega)
theorem dep_v (x : Int) : Ev (fun k => impl_DepthOf.f k xs x) (depT (xs.map tr) 9 x 0) ∧ Ev (fun k => spec_DepthOf.f k xs x) (depT (xs.map tr) 9 x 0) := by
 obtain ⟨r, h1, h2⟩ := DepthOf_v xs hn x
 have h3 : Ev (fun k => spec_DepthOf.f k xs x) (depT (xs.map tr) 9 x 0) := dep_l xs hn 9 0 x (by omega) (by omega)
 rw [Ev_one h1 h3] at h2
 exact ⟨h2, h3⟩
theorem com_l (top : Int) : ∀ (d : Nat) (i x : Int), i + d = 9 → 0 ≤ i → Ev (fun k => spec_l15Under.l0 k x top i xs) (comT (xs.map tr) top d x) := by
 intro d
 induction d with
 | zero =>
  intro i x hi h0
  refine ev_done (fun k => ?_)
  rw [spec_l15Under.l0, if_neg (by omega), comT]
 | succ d ih =>
  intro i x hi h0
  rw [comT]
  by_cases hx : x = top
  ·refine ev_done (fun k => ?_)
   rw [spec_l15Under.l0, if_pos (by omega), if_pos hx, if_pos hx]
  ·rw [if_neg hx]
   refine Ev.step (f := _) (fun k => by rw [spec_l15Under.l0, if_pos (by omega), if_neg hx]) ?_
   refine Ev.bind (at_v xs hn x).1 ?_
   have hb := at_bd xs x
   by_cases hm : atT (xs.map tr) x 0 < 0
   ·simp only [if_pos hm]
    exact Ev.now _
   ·have g := get_eq xs (atT (xs.map tr) x 0) (by omega) (by omega)
    simp only [if_neg hm, if_pos (show 0 ≤ atT (xs.map tr) x 0 by omega), if_pos (show atT (xs.map tr) x 0 < (xs.length : Int) by omega), w64 (x := i + 1) (by omega) (by omega)]
    rw [← g]
    exact ih (i + 1) _ (by omega) (by omega)
theorem und_l (id : Int) : ∀ (d i : Nat) (acc : List Int), i + d = xs.length → acc.length ≤ i → Ev (fun k => spec_UnderOf.l0 k id acc (i : Int) xs) (acc ++ (((xs.map tr).drop i).filter (fun y => comT (xs.map tr) id 9 y.1)).map (·.1)) := by
 intro d
 induction d with
 | zero =>
  intro i acc hi ha
  refine ev_done (fun k => ?_)
  rw [spec_UnderOf.l0, if_neg (by omega), List.drop_of_length_le (by rw [List.length_map]; omega)]
  simp
 | succ d ih =>
  intro i acc hi ha
  have hi2 : i < xs.length := by omega
  have e := rd_impl_Node xs i hi2
  have hc : Ev (fun k => spec_l15Under.f k xs xs[i].f0 id) (comT (xs.map tr) id 9 xs[i].f0) := com_l xs hn id 9 0 _ (by omega) (by omega)
  have hd : (xs.map tr).drop i = tr xs[i] :: (xs.map tr).drop (i + 1) := by
   rw [List.drop_eq_getElem_cons (by rw [List.length_map]; exact hi2), List.getElem_map]
  rw [hd]
  refine Ev.step (f := _) (fun k => by rw [spec_UnderOf.l0, if_pos (show (i : Int) < (xs.length : Int) by omega), if_pos (show (0 : Int) ≤ (i : Int) by omega), e, step64 hi2 (by omega)]) ?_
  refine Ev.bind hc ?_
  cases hq : comT (xs.map tr) id 9 xs[i].f0 with
  | true =>
   rw [List.filter_cons_of_pos (by exact hq)]
   simp only [if_true, if_pos (show acc.length < 17592186044416 by omega)]
   have h := ih (i + 1) (acc ++ [xs[i].f0]) (by omega) (by rw [List.length_append]; simp; omega)
   rw [List.append_assoc] at h
   exact h
  | false =>
   rw [List.filter_cons_of_neg (by rw [show (tr xs[i]).1 = xs[i].f0 from rfl, hq]; simp)]
   simp only [Bool.false_eq_true, if_false]
   exact ih (i + 1) acc (by omega) (by omega)
theorem und_v (id : Int) : Ev (fun k => impl_UnderOf.f k xs id) (undT (xs.map tr) id) ∧ Ev (fun k => spec_UnderOf.f k xs id) (undT (xs.map tr) id) := by
 obtain ⟨r, h1, h2, _⟩ := UnderOf_v xs hn id
 have h3 : Ev (fun k => spec_UnderOf.f k xs id) (undT (xs.map tr) id) := by
  unfold spec_UnderOf.f undT
  simp only [Option.bind_some]
  refine Ev.bind (at_v xs hn id).1 ?_
  by_cases hm : atT (xs.map tr) id 0 < 0
  ·simp only [if_pos hm]
   exact Ev.now _
  ·simp only [if_neg hm]
   have h := und_l xs hn id xs.length 0 [] (by omega) (by simp)
   exact h
 rw [Ev_one h1 h3] at h2
 exact ⟨h2, h3⟩
theorem kid_l (id : Int) : ∀ (d i : Nat) (acc : List Int), i + d = xs.length → acc.length ≤ i → Ev (fun k => impl_KidsOf.l0 k id acc xs (xs.length : Int) (i : Int)) (acc ++ kidT ((xs.map tr).drop i) id) := by
 intro d
 induction d with
 | zero =>
  intro i acc hi ha
  refine ev_done (fun k => ?_)
  rw [impl_KidsOf.l0, if_neg (by omega), List.drop_of_length_le (by rw [List.length_map]; omega)]
  simp [kidT]
 | succ d ih =>
  intro i acc hi ha
  have hi2 : i < xs.length := by omega
  have e := rd_impl_Node xs i hi2
  have hd : (xs.map tr).drop i = tr xs[i] :: (xs.map tr).drop (i + 1) := by
   rw [List.drop_eq_getElem_cons (by rw [List.length_map]; exact hi2), List.getElem_map]
  rw [hd]
  unfold kidT
  by_cases h : xs[i].f1 = id
  ·rw [List.filter_cons_of_pos (by exact decide_eq_true h)]
   have h2 := ih (i + 1) (acc ++ [xs[i].f0]) (by omega) (by rw [List.length_append]; simp; omega)
   rw [List.append_assoc] at h2
   refine Ev.step (fun k => ?_) h2
   rw [impl_KidsOf.l0, if_pos (by omega), if_pos (by omega), if_pos (by omega), e, if_pos h, if_pos (by omega), step64 hi2 (by omega)]
  ·rw [List.filter_cons_of_neg (by rw [show (tr xs[i]).2.1 = xs[i].f1 from rfl]; simpa using h)]
   refine Ev.step (fun k => ?_) (ih (i + 1) acc (by omega) (by omega))
   rw [impl_KidsOf.l0, if_pos (by omega), if_pos (by omega), if_pos (by omega), e, if_neg h, step64 hi2 (by omega)]
theorem kid_v (id : Int) : Ev (fun k => impl_KidsOf.f k xs id) (kidT (xs.map tr) id) := by
 have h := kid_l xs hn id xs.length 0 [] (by omega) (by simp)
 exact h
theorem par_v (id : Int) : Ev (fun k => impl_Scene_isParent.f k xs id) (parT (xs.map tr) id) := by
 have h := isParent_v xs hn id
 have e : parB xs id = parT (xs.map tr) id := by
  unfold parB parT
  rw [atT_eq]
  by_cases h0 : id = 0
  ·rw [if_pos h0, if_pos h0]
  ·rw [if_neg h0, if_neg h0]
   have hb := at_bd xs id
   by_cases hm : atT (xs.map tr) id 0 < 0
   ·rw [if_pos hm, if_pos hm]
   ·rw [if_neg hm, if_neg hm, ← get_eq xs _ (by omega) (by omega)]
    rfl
 rw [e] at h
 exact h
end

/-! TreeG -/
def candT (ts : List (Int × Int × Bool)) : List Int := 0 :: (ts.filter (fun y => y.2.2 && decide (depT ts 9 y.1 0 < 4))).map (·.1)
/-- The trees that may be drawn, node by node. -/
def genT : Nat → List (List (Int × Int × Bool))
 | 0 => [[]]
 | n + 1 => (genT n).flatMap fun ts => (candT ts).flatMap fun p => [ts ++ [(((n + 1 : Nat) : Int), p, true)], ts ++ [(((n + 1 : Nat) : Int), p, false)]]
def okT (ts : List (Int × Int × Bool)) (i : Int) (x : Int × Int × Bool) : Bool :=
 decide (atT ts x.1 0 = i) && (parT ts x.2.1 && (decide (1 ≤ depT ts 9 x.1 0 ∧ depT ts 9 x.1 0 ≤ 4) && (decide (depT ts 9 x.1 0 = depT ts 9 x.2.1 0 + 1) && ((undT ts x.1).contains x.1 && (undT ts x.1).all (fun u => decide (0 ≤ atT ts u 0) && (decide ((getT ts (atT ts u 0)).1 = x.1) || (undT ts x.1).contains (getT ts (atT ts u 0)).2.1))))))
def allT (ts : List (Int × Int × Bool)) : List (Int × Int × Bool) → Int → Bool
 | [], _ => true
 | x :: r, i => okT ts i x && allT ts r (i + 1)
def sumT (ts : List (Int × Int × Bool)) : List (Int × Int × Bool) → Int
 | [] => 0
 | x :: r => ((kidT ts x.1).length : Int) + sumT ts r
def goodT (ts : List (Int × Int × Bool)) : Bool := allT ts ts 0 && (decide (((kidT ts 0).length : Int) + sumT ts ts = (ts.length : Int)) && (decide (depT ts 9 98 0 = 0) && decide ((undT ts 98).length = 0)))
def rotT : List (Int × Int × Bool) → List (Int × Int × Bool)
 | [] => []
 | x :: t => t ++ [x]
def chkT (n : Nat) : Bool := (genT n).all (fun ts => goodT ts && goodT (rotT ts))
theorem chk_0 : chkT 0 = true := by decide +kernel
theorem chk_1 : chkT 1 = true := by decide +kernel
theorem chk_2 : chkT 2 = true := by decide +kernel
theorem chk_3 : chkT 3 = true := by decide +kernel
theorem chk_4 : chkT 4 = true := by decide +kernel
theorem chk_5 : chkT 5 = true := by decide +kernel
theorem gen_good {n : Nat} (hn : n ≤ 5) {ts : List (Int × Int × Bool)} (h : ts ∈ genT n) : goodT ts = true ∧ goodT (rotT ts) = true := by
 have hc : chkT n = true := by
  match n, hn with
  | 0, _ => exact chk_0
  | 1, _ => exact chk_1
  | 2, _ => exact chk_2
  | 3, _ => exact chk_3
  | 4, _ => exact chk_4
  | 5, _ => exact chk_5
 unfold chkT at hc
 rw [List.all_eq_true] at hc
 have := hc ts h
 rwa [Bool.and_eq_true] at this
theorem cand_mem {ts : List (Int × Int × Bool)} {p : Int} (h : p ∈ candT ts) : p = 0 ∨ ∃ y ∈ ts, p = y.1 := by
 unfold candT at h
 rcases List.mem_cons.mp h with h | h
 ·exact .inl h
 ·obtain ⟨y, hy, he⟩ := List.mem_map.mp h
  exact .inr ⟨y, (List.mem_filter.mp hy).1, he.symm⟩
theorem gen_succ {n : Nat} {ts : List (Int × Int × Bool)} {p : Int} {g : Bool} (h : ts ∈ genT n) (hp : p ∈ candT ts) : ts ++ [(((n + 1 : Nat) : Int), p, g)] ∈ genT (n + 1) := by
 rw [genT]
 refine List.mem_flatMap.mpr ⟨ts, h, List.mem_flatMap.mpr ⟨p, hp, ?_⟩⟩
 cases g <;> simp
theorem gen_ids : ∀ (n : Nat) (ts : List (Int × Int × Bool)), ts ∈ genT n → ∀ y ∈ ts, 1 ≤ y.1 ∧ y.1 ≤ (n : Int)
 | 0, ts, h, y, hy => by
  rw [genT, List.mem_singleton] at h
  subst h
  exact absurd hy List.not_mem_nil
 | n + 1, ts, h, y, hy => by
  rw [genT] at h
  obtain ⟨us, hu, h⟩ := List.mem_flatMap.mp h
  obtain ⟨p, hp, h⟩ := List.mem_flatMap.mp h
  have ih := gen_ids n us hu
  have hb : ∀ g : Bool, ts = us ++ [(((n + 1 : Nat) : Int), p, g)] → 1 ≤ y.1 ∧ y.1 ≤ ((n + 1 : Nat) : Int) := by
   intro g e
   subst e
   rcases List.mem_append.mp hy with h2 | h2
   ·have := ih y h2
    omega
   ·rw [List.mem_singleton] at h2
    subst h2
    show 1 ≤ ((n + 1 : Nat) : Int) ∧ ((n + 1 : Nat) : Int) ≤ ((n + 1 : Nat) : Int)
    omega
  rcases List.mem_cons.mp h with e | h
  ·exact hb true e
  ·rw [List.mem_singleton] at h
   exact hb false h
def sceneP (zs : List S69) : Prop := (∀ x ∈ zs, nodeOkP x) ∧ zs.length ≤ 5 ∧ goodT (zs.map tr) = true
section
variable (l : List Int) (hn : l.length ≤ 1048576)
include hn
theorem scene_end (n : Nat) (h5 : n ≤ 5) (xs : List S69) (hx : xs.length = n) (hg : xs.map tr ∈ genT n) (ho : ∀ x ∈ xs, nodeOkP x) (p s : Int) (hp : 0 ≤ p) (hl : p ≤ l.length) (b q t : Int) (e : spec_l01Below.f l p s 6 = some (b, q, t)) (hb : ¬ (n : Int) < b) (hq : 0 ≤ q) (hql : q ≤ l.length) :
  ∃ zs q' t', Ev (fun k => spec_l15Scene.l0 k (n : Int) l p s xs) (zs, q', t') ∧ sceneP zs := by
 obtain ⟨g1, g2⟩ := gen_good h5 hg
 by_cases h1 : (xs.length : Int) > 1
 ·obtain ⟨o, q2, t2, e2, v2, w2⟩ := once_k l q t 3 hq hql hn (by omega) (by omega)
  cases o with
  | false =>
   refine ⟨xs, q2, t2, ev_done (fun k => ?_), ho, by omega, g1⟩
   rw [spec_l15Scene.l0, e, Option.bind_some, if_neg hb, if_pos h1, e2, Option.bind_some, if_neg (by simp)]
  | true =>
   match xs, hx, hg, ho, h1, g2 with
   | x :: r, hx, hg, ho, h1, g2 =>
    refine ⟨r ++ [x], q2, t2, ev_done (fun k => ?_), ?_, ?_, ?_⟩
    ·rw [spec_l15Scene.l0, e, Option.bind_some, if_neg hb, if_pos h1, e2, Option.bind_some, if_pos rfl, if_pos (by omega)]
     simp only [Option.bind_some]
     rw [if_pos (by omega)]
     have e0 := rd_impl_Node (x :: r) 0 (by simp)
     rw [show ((0 : Nat) : Int) = 0 from rfl] at e0
     simp only [Option.bind_some, List.nil_append, List.drop_succ_cons, List.drop_zero, List.length_cons, List.length_nil] at hx ⊢
     rw [if_pos (by omega), if_pos (by omega), e0]
     rfl
    ·intro y hy
     rcases List.mem_append.mp hy with h | h
     ·exact ho y (List.mem_cons_of_mem _ h)
     ·rw [List.mem_singleton.mp h]
      exact ho x List.mem_cons_self
    ·rw [List.length_append]
     simp only [List.length_cons, List.length_nil] at hx ⊢
     omega
    ·rw [List.map_append]
     exact g2
 ·refine ⟨xs, q, t, ev_done (fun k => ?_), ho, by omega, g1⟩
  rw [spec_l15Scene.l0, e, Option.bind_some, if_neg hb, if_neg h1]
theorem scene_l1 (n : Nat) (xs : List S69) (hx : xs.length ≤ 1048576) (R : List S69 × Int × Int → Prop)
  (hK : ∀ (par p s : Int), par ∈ candT (xs.map tr) → 0 ≤ p → p ≤ l.length → ∃ r, Ev (fun k => spec_l15Scene.l1 k (n : Int) par (xs.length : Int) l p s xs) r ∧ R r) :
  ∀ (e j : Nat) (par p s : Int), j + e = xs.length → par ∈ candT (xs.map tr) → 0 ≤ p → p ≤ l.length → ∃ r, Ev (fun k => spec_l15Scene.l1 k (n : Int) par (j : Int) l p s xs) r ∧ R r := by
 intro e
 induction e with
 | zero =>
  intro j par p s hj hpar hp hl
  obtain rfl : j = xs.length := by omega
  exact hK par p s hpar hp hl
 | succ e ih =>
  intro j par p s hj hpar hp hl
  have hj2 : j < xs.length := by omega
  have ej := rd_impl_Node xs j hj2
  have est := step64 hj2 (show xs.length ≤ 4611686018427387904 by omega)
  by_cases hg : xs[j].f2 = true
  ·by_cases hd : depT (xs.map tr) 9 xs[j].f0 0 < 4
   ·obtain ⟨o, q2, t2, e2, v2, w2⟩ := once_k l p s 2 hp hl hn (by omega) (by omega)
    have hm : xs[j].f0 ∈ candT (xs.map tr) := by
     unfold candT
     refine List.mem_cons_of_mem _ (List.mem_map.mpr ⟨tr xs[j], List.mem_filter.mpr ⟨List.mem_map.mpr ⟨xs[j], List.getElem_mem hj2, rfl⟩, ?_⟩, rfl⟩)
     rw [Bool.and_eq_true]
     exact ⟨hg, decide_eq_true hd⟩
    have st : ∀ r, Ev (fun k => (spec_l01Once.f l p s 2).bind fun bt480 => (if bt480.1 = true then (spec_l15Scene.l1 k (n : Int) xs[j].f0 ((j + 1 : Nat) : Int) l bt480.2.1 bt480.2.2 xs) else (spec_l15Scene.l1 k (n : Int) par ((j + 1 : Nat) : Int) l bt480.2.1 bt480.2.2 xs))) r → Ev (fun k => spec_l15Scene.l1 k (n : Int) par (j : Int) l p s xs) r := by
     intro r hr
     refine Ev.step (f := _) (fun k => by rw [spec_l15Scene.l1, if_pos (show (j : Int) < (xs.length : Int) by omega), if_pos (show (0 : Int) ≤ (j : Int) by omega), ej, if_pos hg, est]) ?_
     refine Ev.bind (dep_v xs hx xs[j].f0).2 ?_
     simp only [if_pos hd]
     exact hr
    cases o with
    | true =>
     obtain ⟨r, h1, h2⟩ := ih (j + 1) xs[j].f0 q2 t2 (by omega) hm v2 w2
     refine ⟨r, st r ?_, h2⟩
     simp only [e2, Option.bind_some, if_true]
     exact h1
    | false =>
     obtain ⟨r, h1, h2⟩ := ih (j + 1) par q2 t2 (by omega) hpar v2 w2
     refine ⟨r, st r ?_, h2⟩
     simp only [e2, Option.bind_some, Bool.false_eq_true, if_false]
     exact h1
   ·obtain ⟨r, h1, h2⟩ := ih (j + 1) par p s (by omega) hpar hp hl
    refine ⟨r, ?_, h2⟩
    refine Ev.step (f := _) (fun k => by rw [spec_l15Scene.l1, if_pos (show (j : Int) < (xs.length : Int) by omega), if_pos (show (0 : Int) ≤ (j : Int) by omega), ej, if_pos hg, est]) ?_
    refine Ev.bind (dep_v xs hx xs[j].f0).2 ?_
    simp only [if_neg hd]
    exact h1
  ·obtain ⟨r, h1, h2⟩ := ih (j + 1) par p s (by omega) hpar hp hl
   refine ⟨r, Ev.step (fun k => ?_) h1, h2⟩
   rw [spec_l15Scene.l1, if_pos (show (j : Int) < (xs.length : Int) by omega), if_pos (show (0 : Int) ≤ (j : Int) by omega), ej, if_neg hg, est]
theorem scene_l0 : ∀ (d n : Nat) (xs : List S69) (p s : Int), n + d = 5 → xs.length = n → xs.map tr ∈ genT n → (∀ x ∈ xs, nodeOkP x) → 0 ≤ p → p ≤ l.length → ∃ zs q t, Ev (fun k => spec_l15Scene.l0 k (n : Int) l p s xs) (zs, q, t) ∧ sceneP zs := by
 intro d
 induction d with
 | zero =>
  intro n xs p s hd hx hg ho hp hl
  obtain ⟨b, q, t, e, b0, b1, v, w⟩ := below_r l p s 6 hp hl hn (by omega) (by omega)
  exact scene_end l hn n (by omega) xs hx hg ho p s hp hl b q t e (by omega) v w
 | succ d ih =>
  intro n xs p s hd hx hg ho hp hl
  obtain ⟨b, q, t, e, b0, b1, v, w⟩ := below_r l p s 6 hp hl hn (by omega) (by omega)
  by_cases hb : (n : Int) < b
  ·have key := scene_l1 l hn n xs (by omega) (fun r => sceneP r.1) (fun par p s hpar hp hl => by
    have hpb : 0 ≤ par ∧ par ≤ (n : Int) := by
     rcases cand_mem hpar with h | ⟨y, hy, h⟩
     ·omega
     ·have := gen_ids n _ hg y hy
      omega
    have e1 : wrap64 ((n : Int) + 1) = ((n + 1 : Nat) : Int) := step64 (n := 100) (by omega) (by omega)
    obtain ⟨x, q, t, h1, h2, ⟨h3, h4⟩, v, w⟩ := Node_k l hn ((n + 1 : Nat) : Int) par (by omega) (by omega) (by omega) p s hp hl
    obtain ⟨zs, q', t', k1, k2⟩ := ih (n + 1) (xs ++ [x]) q t (by omega) (by rw [List.length_append, hx]; rfl) (by
     rw [List.map_append]
     have := gen_succ (g := x.f2) hg hpar
     rw [← h3, ← h4] at this
     exact this) (fun y hy => by
     rcases List.mem_append.mp hy with h | h
     ·exact ho y h
     ·rw [List.mem_singleton.mp h]
      exact h2) v w
    refine ⟨(zs, q', t'), ?_, k2⟩
    refine Ev.step (f := _) (fun k => by rw [spec_l15Scene.l1, if_neg (show ¬ (xs.length : Int) < (xs.length : Int) by omega), e1]) ?_
    refine Ev.bind h1 ?_
    simp only [Option.bind_some]
    refine Ev.congr (fun k => if_pos (show xs.length + 1 < 429077708400 by omega)) ?_
    exact k1) xs.length 0 0 q t (by omega) List.mem_cons_self v w
   obtain ⟨⟨zs, q', t'⟩, h1, h2⟩ := key
   refine ⟨zs, q', t', Ev.step (fun k => ?_) h1, h2⟩
   rw [spec_l15Scene.l0, e, Option.bind_some, if_pos hb]
   rfl
  ·exact scene_end l hn n (by omega) xs hx hg ho p s hp hl b q t e hb v w
theorem DrawScene_k : ∃ zs, Ev (fun k => spec_DrawScene.f k l) zs ∧ sceneP zs := by
 obtain ⟨s, hs⟩ := new_v l hn
 obtain ⟨zs, q, t, h1, h2⟩ := scene_l0 l hn 5 0 [] 0 s (by omega) rfl (by rw [genT]; exact List.mem_singleton.mpr rfl) (fun x hx => absurd hx List.not_mem_nil) (by omega) (by omega)
 refine ⟨zs, ?_, h2⟩
 unfold spec_DrawScene.f
 refine Ev.bind hs ?_
 exact Ev.bind h1 (Ev.now _)
end

/-! law_FnTrees -/
theorem in_l (xs : List Int) (hn : xs.length ≤ 1048576) (a : Int) : ∀ (d i : Nat), i + d = xs.length → Ev (fun k => laws_in.l0 k xs a (i : Int)) ((xs.drop i).contains a) := by
 intro d
 induction d with
 | zero =>
  intro i hi
  refine ev_done (fun k => ?_)
  rw [laws_in.l0, if_neg (by omega), List.drop_of_length_le (by omega)]
  rfl
 | succ d ih =>
  intro i hi
  have hi2 : i < xs.length := by omega
  rw [List.drop_eq_getElem_cons hi2, List.contains_cons]
  by_cases h : xs[i] = a
  ·refine ev_done (fun k => ?_)
   rw [laws_in.l0, if_pos (by omega), if_pos (by omega), rd_int _ _ hi2, if_pos h, h, beq_self_eq_true, Bool.true_or]
  ·rw [beq_eq_false_iff_ne.mpr (fun e => h e.symm), Bool.false_or]
   refine Ev.step (fun k => ?_) (ih (i + 1) (by omega))
   rw [laws_in.l0, if_pos (by omega), if_pos (by omega), rd_int _ _ hi2, if_neg h, step64 hi2 (by omega)]
theorem in_v (xs : List Int) (hn : xs.length ≤ 1048576) (a : Int) : Ev (fun k => laws_in.f k xs a) (xs.contains a) := by
 have h := in_l xs hn a xs.length 0 (by omega)
 exact h
theorem ints_l (xs : List Int) (hn : xs.length ≤ 1048576) : ∀ (d i : Nat), i + d = xs.length → Ev (fun k => laws_sameInts.l0 k xs xs (i : Int)) true := by
 intro d
 induction d with
 | zero =>
  intro i hi
  refine ev_done (fun k => ?_)
  rw [laws_sameInts.l0, if_neg (by omega)]
 | succ d ih =>
  intro i hi
  have hi2 : i < xs.length := by omega
  refine Ev.step (fun k => ?_) (ih (i + 1) (by omega))
  rw [laws_sameInts.l0, if_pos (by omega), if_pos (by omega), if_pos (by omega), if_pos rfl, step64 hi2 (by omega)]
theorem ints_v (xs : List Int) (hn : xs.length ≤ 1048576) : Ev (fun k => laws_sameInts.f k xs xs) true := by
 unfold laws_sameInts.f
 refine Ev.congr (fun k => if_pos rfl) ?_
 exact ints_l xs hn xs.length 0 (by omega)
section
variable (xs : List S69) (hn : xs.length ≤ 5) (ho : ∀ x ∈ xs, nodeOkP x)
include hn
theorem und_len (id : Int) : (undT (xs.map tr) id).length ≤ 5 := by
 unfold undT
 split
 ·simp
 ·rw [List.length_map]
  have := List.length_filter_le (fun y => comT (xs.map tr) id 9 y.1) (xs.map tr)
  rw [List.length_map] at this
  omega
theorem kid_len (id : Int) : (kidT (xs.map tr) id).length ≤ 5 := by
 unfold kidT
 rw [List.length_map]
 have := List.length_filter_le (fun y => decide (y.2.1 = id)) (xs.map tr)
 rw [List.length_map] at this
 omega
theorem law_l1 (x4 : Int) (i : Nat) (hi : i < xs.length) (U : List Int) (hU : U.length ≤ 5) (hA : ∀ u ∈ U, (decide (0 ≤ atT (xs.map tr) u 0) && (decide ((getT (xs.map tr) (atT (xs.map tr) u 0)).1 = xs[i].f0) || U.contains (getT (xs.map tr) (atT (xs.map tr) u 0)).2.1)) = true) {r : Bool}
  (hr : Ev (fun k => laws_FnTrees.l0 k x4 ((i + 1 : Nat) : Int) xs) r) : ∀ (d j : Nat), j + d = U.length → Ev (fun k => laws_FnTrees.l1 k x4 (i : Int) U (j : Int) xs) r := by
 intro d
 induction d with
 | zero =>
  intro j hj
  refine Ev.step (fun k => ?_) hr
  rw [laws_FnTrees.l1, if_neg (by omega), step64 hi (by omega)]
 | succ d ih =>
  intro j hj
  have hj2 : j < U.length := by omega
  have ha := hA _ (List.getElem_mem hj2)
  have ih2 := ih (j + 1) (by omega)
  have hst := step64 hj2 (show U.length ≤ 4611686018427387904 by omega)
  have ex := rd_impl_Node xs i hi
  rw [Bool.and_eq_true, Bool.or_eq_true, decide_eq_true_eq, decide_eq_true_eq] at ha
  obtain ⟨h0, h1⟩ := ha
  have hb := at_bd xs U[j]
  have g := get_eq xs (atT (xs.map tr) U[j] 0) h0 (by omega)
  rw [← g] at h1
  refine Ev.step (f := _) (fun k => by rw [laws_FnTrees.l1, if_pos (show (j : Int) < (U.length : Int) by omega), if_pos (show (0 : Int) ≤ (j : Int) by omega), rd_int _ _ hj2, ex, hst]) ?_
  refine Ev.bind (at_v xs (by omega) U[j]).2 ?_
  refine Ev.congr (fun k => (if_pos h0).trans (if_pos (by omega))) ?_
  by_cases hq : (rd_T69 xs (atT (xs.map tr) U[j] 0)).f0 = xs[i].f0
  ·exact Ev.congr (fun k => if_pos hq) ih2
  ·have hc : U.contains (rd_T69 xs (atT (xs.map tr) U[j] 0)).f1 = true := by
    rcases h1 with h | h
    ·exact absurd h hq
    ·exact h
   refine Ev.congr (fun k => if_neg hq) ?_
   refine Ev.bind (in_v U (by omega) _) ?_
   exact Ev.congr (fun k => if_pos hc) ih2
include ho
omit hn in
theorem node_t (i : Nat) (hi : i < xs.length) : Ev (fun k => impl_NodeOk.f k xs[i].f0 xs[i].f1 xs[i].f2 xs[i].f3.f0 xs[i].f3.f1 xs[i].f3.f2 xs[i].f3.f3 xs[i].f3.f4 xs[i].f3.f5 xs[i].f4.f0 xs[i].f4.f1 xs[i].f5 xs[i].f6 xs[i].f7 xs[i].f8.f0 xs[i].f8.f1.f0 xs[i].f8.f1.f1 xs[i].f8.f1.f2 xs[i].f8.f1.f3 xs[i].f8.f2.f0 xs[i].f8.f2.f1 xs[i].f8.f2.f2 xs[i].f8.f2.f3 xs[i].f8.f3.f0 xs[i].f8.f3.f1 xs[i].f8.f4.f0 xs[i].f8.f4.f1 xs[i].f9 xs[i].f10 xs[i].f11.f0 xs[i].f11.f1) true := by
 obtain ⟨h1, h2⟩ := ho _ (List.getElem_mem hi)
 have h := impl_NodeOk_v (a0 := xs[i].f0) (a1 := xs[i].f1) (a2 := xs[i].f2) (a3 := xs[i].f3.f0) (a4 := xs[i].f3.f1) (a5 := xs[i].f3.f2) (a6 := xs[i].f3.f3) (a7 := xs[i].f3.f4) (a8 := xs[i].f3.f5) (l9 := xs[i].f4.f0) (l10 := xs[i].f4.f1) (a11 := xs[i].f5) (a12 := xs[i].f6) (l13 := xs[i].f7) (a14 := xs[i].f8.f0) (a15 := xs[i].f8.f1.f0) (a16 := xs[i].f8.f1.f1) (a17 := xs[i].f8.f1.f2) (a18 := xs[i].f8.f1.f3) (a19 := xs[i].f8.f2.f0) (a20 := xs[i].f8.f2.f1) (a21 := xs[i].f8.f2.f2) (a22 := xs[i].f8.f2.f3) (a23 := xs[i].f8.f3.f0) (a24 := xs[i].f8.f3.f1) (a25 := xs[i].f8.f4.f0) (a26 := xs[i].f8.f4.f1) (a27 := xs[i].f9) (a28 := xs[i].f10) (l29 := xs[i].f11.f0) (l30 := xs[i].f11.f1) h2
 rw [h1] at h
 exact h
theorem scene_ok : ∀ (d i : Nat), i + d = xs.length → allT (xs.map tr) ((xs.map tr).drop i) (i : Int) = true → Ev (fun k => impl_SceneOk.l0 k xs (xs.length : Int) (i : Int) xs) true := by
 intro d
 induction d with
 | zero =>
  intro i hi h
  refine ev_done (fun k => ?_)
  rw [impl_SceneOk.l0, if_neg (by omega)]
 | succ d ih =>
  intro i hi h
  have hi2 : i < xs.length := by omega
  have e := rd_impl_Node xs i hi2
  have hd : (xs.map tr).drop i = tr xs[i] :: (xs.map tr).drop (i + 1) := by
   rw [List.drop_eq_getElem_cons (by rw [List.length_map]; exact hi2), List.getElem_map]
  rw [hd, allT, Bool.and_eq_true] at h
  obtain ⟨h1, h2⟩ := h
  unfold okT at h1
  rw [Bool.and_eq_true, Bool.and_eq_true, Bool.and_eq_true, decide_eq_true_eq, decide_eq_true_eq] at h1
  obtain ⟨a1, a2, a3, _⟩ := h1
  refine Ev.step (f := _) (fun k => by rw [impl_SceneOk.l0, if_pos (show (i : Int) < (xs.length : Int) by omega), if_pos (show (0 : Int) ≤ (i : Int) by omega), if_pos (show (i : Int) < (xs.length : Int) by omega), e, step64 hi2 (by omega)]) ?_
  refine Ev.bind (node_t xs ho i hi2) ?_
  refine Ev.congr (fun k => if_pos rfl) ?_
  refine Ev.bind (at_v xs (by omega) xs[i].f0).2 ?_
  refine Ev.congr (fun k => if_pos a1) ?_
  refine Ev.bind (par_v xs (by omega) xs[i].f1) ?_
  refine Ev.congr (fun k => if_pos a2) ?_
  refine Ev.bind (dep_v xs (by omega) xs[i].f0).1 ?_
  simp only [impl_inRange_v, Option.bind_some]
  refine Ev.congr (fun k => if_pos (decide_eq_true a3)) ?_
  exact ih (i + 1) (by omega) (by rw [show (((i + 1 : Nat)) : Int) = (i : Int) + 1 by omega]; exact h2)
theorem law_l0 (hg : goodT (xs.map tr) = true) : ∀ (d i : Nat) (x4 : Int), i + d = xs.length → 0 ≤ x4 → x4 ≤ 5 + 5 * (i : Int) → x4 + sumT (xs.map tr) ((xs.map tr).drop i) = (xs.length : Int) → allT (xs.map tr) ((xs.map tr).drop i) (i : Int) = true → Ev (fun k => laws_FnTrees.l0 k x4 (i : Int) xs) true := by
 unfold goodT at hg
 rw [Bool.and_eq_true, Bool.and_eq_true, Bool.and_eq_true, decide_eq_true_eq, decide_eq_true_eq, decide_eq_true_eq] at hg
 obtain ⟨_, _, g1, g2⟩ := hg
 intro d
 induction d with
 | zero =>
  intro i x4 hi h0 h1 hs h
  obtain rfl : i = xs.length := by omega
  rw [List.drop_of_length_le (by rw [List.length_map]; omega), sumT] at hs
  refine Ev.step (f := _) (fun k => by rw [laws_FnTrees.l0, if_neg (show ¬ (xs.length : Int) < (xs.length : Int) by omega), if_pos (show x4 = (xs.length : Int) by omega)]) ?_
  refine Ev.bind (dep_v xs (by omega) 0).1 ?_
  refine Ev.congr (fun k => if_pos (by simp [depT])) ?_
  refine Ev.bind (dep_v xs (by omega) 98).1 ?_
  refine Ev.congr (fun k => if_pos g1) ?_
  refine Ev.bind (und_v xs (by omega) 98).1 ?_
  rw [g2]
  exact Ev.now _
 | succ d ih =>
  intro i x4 hi h0 h1 hs h
  have hi2 : i < xs.length := by omega
  have e := rd_impl_Node xs i hi2
  have hd : (xs.map tr).drop i = tr xs[i] :: (xs.map tr).drop (i + 1) := by
   rw [List.drop_eq_getElem_cons (by rw [List.length_map]; exact hi2), List.getElem_map]
  rw [hd, allT, Bool.and_eq_true] at h
  rw [hd, sumT] at hs
  obtain ⟨h2, h3⟩ := h
  unfold okT at h2
  rw [Bool.and_eq_true, Bool.and_eq_true, Bool.and_eq_true, Bool.and_eq_true, Bool.and_eq_true, decide_eq_true_eq, decide_eq_true_eq, decide_eq_true_eq, List.all_eq_true] at h2
  obtain ⟨a1, a2, a3, a4, a5, a6⟩ := h2
  have kl := kid_len xs hn xs[i].f0
  have ul := und_len xs hn xs[i].f0
  have e4 : wrap64 (x4 + ((kidT (xs.map tr) xs[i].f0).length : Int)) = x4 + ((kidT (xs.map tr) xs[i].f0).length : Int) := w64 (by omega) (by omega)
  have nx := ih (i + 1) (x4 + ((kidT (xs.map tr) xs[i].f0).length : Int)) (by omega) (by omega) (by omega) (by rw [← hs]; show x4 + _ + _ = x4 + (((kidT (xs.map tr) xs[i].f0).length : Int) + _); omega) (by rw [show (((i + 1 : Nat)) : Int) = (i : Int) + 1 by omega]; exact h3)
  have ne : (depT (xs.map tr) 9 xs[i].f0 0 != wrap64 (depT (xs.map tr) 9 xs[i].f1 0 + 1)) = false := by
   have a4' : depT (xs.map tr) 9 xs[i].f0 0 = depT (xs.map tr) 9 xs[i].f1 0 + 1 := a4
   have a3' : 1 ≤ depT (xs.map tr) 9 xs[i].f0 0 ∧ depT (xs.map tr) 9 xs[i].f0 0 ≤ 4 := a3
   rw [w64 (by omega) (by omega), ← a4']
   exact bne_self_eq_false _
  refine Ev.step (f := _) (fun k => by rw [laws_FnTrees.l0, if_pos (show (i : Int) < (xs.length : Int) by omega), if_pos (show (0 : Int) ≤ (i : Int) by omega), e]) ?_
  refine Ev.bind (kid_v xs (by omega) xs[i].f0) ?_
  refine Ev.bind (node_t xs ho i hi2) ?_
  refine Ev.congr (fun k => if_pos rfl) ?_
  refine Ev.bind (at_v xs (by omega) xs[i].f0).2 ?_
  refine Ev.congr (fun k => if_pos a1) ?_
  refine Ev.bind (dep_v xs (by omega) xs[i].f0).1 ?_
  refine Ev.bind (dep_v xs (by omega) xs[i].f1).1 ?_
  rw [ne, e4]
  refine Ev.step (f := _) (fun k => by rw [laws_FnTrees.j1, if_neg (show ¬ false = true by simp), e]) ?_
  refine Ev.bind (und_v xs (by omega) xs[i].f0).1 ?_
  refine Ev.bind (in_v _ (by omega) xs[i].f0) ?_
  refine Ev.congr (fun k => if_pos a5) ?_
  refine Ev.bind (und_v xs (by omega) xs[i].f0).2 ?_
  refine Ev.bind (ints_v _ (by omega)) ?_
  refine Ev.step (f := _) (fun k => by rw [laws_FnTrees.j2, if_neg (show ¬ (!true) = true by simp)]) ?_
  exact law_l1 xs hn _ i hi2 _ ul a6 nx (undT (xs.map tr) xs[i].f0).length 0 (by omega)
end
theorem FnTrees : laws_FnTrees.Pure := by
 intro l _ _ _
 by_cases h : (l.length : Int) > 1048576
 ·refine ⟨1, ?_⟩
  unfold laws_FnTrees.f laws_big.f
  rw [decide_eq_true h]
  simp
 have hn : l.length ≤ 1048576 := by omega
 obtain ⟨zs, hz, ho, h5, hg⟩ := DrawScene_k l hn
 refine Ev.rounds ?_
 unfold laws_FnTrees.f laws_big.f
 simp only [Option.bind_some, decide_eq_false h, Bool.false_eq_true, if_false]
 have hg2 := hg
 unfold goodT at hg2
 rw [Bool.and_eq_true, Bool.and_eq_true, decide_eq_true_eq] at hg2
 obtain ⟨g1, g2, _⟩ := hg2
 rw [List.length_map] at g2
 have kl := kid_len zs h5 0
 refine Ev.bind hz ?_
 refine Ev.bind (kid_v zs (by omega) 0) ?_
 have hs : Ev (fun k => impl_SceneOk.f k zs) true := by
  unfold impl_SceneOk.f
  refine Ev.congr (fun k => if_neg (by omega)) ?_
  exact scene_ok zs h5 ho zs.length 0 (by omega) g1
 refine Ev.bind hs ?_
 refine Ev.congr (fun k => if_pos rfl) ?_
 exact law_l0 zs h5 ho hg zs.length 0 _ (by omega) (by omega) (by omega) (by rw [List.drop_zero]; exact g2) g1

end Go.Proofs.Ytjfienkbcacijaa.Pure
