/- The pure statement of the law FnExactFlatOf, for every input: what the printed functions compute makes the law answer true. No conditions beyond what the row reads. -/
import Derived.Test.YtdpnimngndemiaaTFnExactFlatOf
namespace Go.Proofs.Ytdpnimngndemiaa.QFnExactFlatOf
open Go.RowKit Go.Proofs.Ytdpnimngndemiaa.MFnExactFlatOf Go.Proofs.Ytdpnimngndemiaa.TFnExactFlatOf Go.Proofs.YtdpnimngndemiaaW.PrintWords Go.Proofs.YtdpnimngndemiaaW.PrintLast
set_option linter.unusedVariables false
set_option linter.unusedSimpArgs false

/-! base -/
theorem w64 {x : Int} (h1 : -9223372036854775808 ≤ x) (h2 : x ≤ 9223372036854775807) : wrap64 x = x := by
  unfold wrap64
  omega

theorem wf64 {x : Int} (h : (Lit.int .i64 x).wf = true) : -9223372036854775808 ≤ x ∧ x ≤ 9223372036854775807 := by
  have h2 : (decide (IntKind.i64.min ≤ x) && decide (x ≤ IntKind.i64.max)) = true := h
  rw [Bool.and_eq_true, decide_eq_true_eq, decide_eq_true_eq] at h2
  exact ⟨h2.1, h2.2⟩

theorem take_set_succ {α : Type} (xs : List α) (i : Nat) (v : α) (h : i < xs.length) : (xs.set i v).take (i + 1) = xs.take i ++ [v] := by
  rw [List.take_succ_eq_append_getElem (by simpa using h), List.take_set_of_le (Nat.le_refl i), List.getElem_set_self]

theorem step64 {i n : Nat} (h : i < n) (hn : n ≤ 4611686018427387904) : wrap64 ((i : Int) + 1) = ((i + 1 : Nat) : Int) := by
  rw [w64 (by omega) (by omega)]
  omega

theorem ev_done {α : Type} {g : Nat → Option α} {r : α} (h : ∀ k, g (k + 1) = some r) : Ev g r := Ev.step (f := fun _ => some r) h (Ev.now r)

theorem ev_const {α : Type} {o : Option α} {r : α} (h : o = some r) : Ev (fun _ => o) r := by
  subst h
  exact Ev.now r

/-! spec_l01In -/
theorem spec_l01In_v (a b c : Int) : spec_l01In.f a b c = some (decide (b ≤ a ∧ a ≤ c)) := by
  unfold spec_l01In.f
  by_cases h : a ≥ b
  · rw [if_pos h]
    simp [h]
  · rw [if_neg h]
    simp
    omega

/-! spec_PointOk -/
def pointOkP (a b : Int) : Prop := (-8388608 ≤ a ∧ a ≤ 8388608) ∧ (-8388608 ≤ b ∧ b ≤ 8388608)
instance (a b : Int) : Decidable (pointOkP a b) := by unfold pointOkP; infer_instance
theorem spec_PointOk_v (a b : Int) : spec_PointOk.f a b = some (decide (pointOkP a b)) := by
  unfold spec_PointOk.f pointOkP
  simp only [spec_l01In_v, Option.bind_some, decide_eq_true_eq]
  repeat' split
  all_goals first | (refine congrArg some (decide_eq_decide.mpr ?_); omega) | (refine congrArg some (Eq.symm (decide_eq_false ?_)); omega)

/-! PathB -/
def needB (v : Int) : Int := if v = 1 ∨ v = 2 then 1 else if v = 3 then 2 else if v = 4 then 3 else if v = 5 then 0 else -1
theorem needB_bd (v : Int) : -1 ≤ needB v ∧ needB v ≤ 3 := by
  unfold needB
  repeat' split
  all_goals omega
def prevB (l : List Int) : Nat → Int
  | 0 => 5
  | i + 1 => rd l (i : Int)
def verbsB : Int → List Int → Int → Option Int
  | _, [], n => some n
  | p, v :: vs, n => if needB v < 0 then none else if p = 5 ∧ v ≠ 1 then none else verbsB v vs (n + needB v)
def pointsB (l : List S46) : Bool := l.all (fun p => decide (pointOkP p.f0 p.f1))
def endB (pts : List S46) : Option Int → Bool
  | none => false
  | some m => m == (pts.length : Int)
def pathB (l : List Int) (pts : List S46) : Bool := decide (pts.length ≤ 24) && (decide (l.length ≤ 24) && (pointsB pts && endB pts (verbsB 5 l 0)))

/-! impl_inRange -/
theorem impl_inRange_v (a b c : Int) : impl_inRange.f a b c = some (decide (b ≤ a ∧ a ≤ c)) := by
  unfold impl_inRange.f
  by_cases h : a ≥ b
  · rw [if_pos h]
    simp [h]
  · rw [if_neg h]
    simp
    omega

/-! impl_isFar -/
theorem impl_isFar_v (a : Int) : impl_isFar.f a = some (decide (-8388608 ≤ a ∧ a ≤ 8388608)) := by
  unfold impl_isFar.f
  simp only [impl_inRange_v, Option.bind_some]

/-! impl_PointOk -/
theorem impl_PointOk_v (a b : Int) : impl_PointOk.f a b = some (decide (pointOkP a b)) := by
  unfold impl_PointOk.f pointOkP
  simp only [impl_isFar_v, Option.bind_some, decide_eq_true_eq]
  repeat' split
  all_goals first | (refine congrArg some (decide_eq_decide.mpr ?_); omega) | (refine congrArg some (Eq.symm (decide_eq_false ?_)); omega)

/-! rd_int -/
theorem rd_int (xs : List Int) (i : Nat) (h : i < xs.length) : rd xs (i : Int) = xs[i] := by
  unfold rd
  simp [h]

/-! rd_impl_Point -/
theorem rd_impl_Point (xs : List S46) (i : Nat) (h : i < xs.length) : rd_T46 xs (i : Int) = xs[i] := by
  unfold rd_T46
  simp [h]

/-! PathOk -/
theorem impl_NeedOf_v (v : Int) : Ev (fun k => impl_NeedOf.f k v) (needB v) := by
  unfold impl_NeedOf.f needB
  by_cases h1 : v = 1
  · subst h1
    exact ev_done (fun k => rfl)
  · simp only [if_neg h1]
    by_cases h2 : v = 2
    · subst h2
      exact ev_done (fun k => rfl)
    · refine ev_done (fun k => ?_)
      simp only [impl_NeedOf.j0]
      have e : (v == 2) = false := beq_eq_false_iff_ne.mpr h2
      rw [if_neg (by simp [e]), if_neg (show ¬ (v = 1 ∨ v = 2) by omega)]
      repeat' split
      all_goals rfl
theorem impl_pointsOk_l (l : List S46) (hn : l.length ≤ 1048576) : ∀ (d i : Nat), i + d = l.length → Ev (fun k => impl_pointsOk.l0 k l (l.length : Int) (i : Int)) (pointsB (l.drop i)) := by
  intro d
  induction d with
  | zero =>
    intro i hi
    refine ev_done (fun k => ?_)
    simp only [impl_pointsOk.l0]
    rw [if_neg (by omega), List.drop_of_length_le (by omega)]
    rfl
  | succ d ih =>
    intro i hi
    have hi2 : i < l.length := by omega
    rw [List.drop_eq_getElem_cons hi2, pointsB, List.all_cons]
    by_cases hx : pointOkP l[i].f0 l[i].f1
    · rw [decide_eq_true hx, Bool.true_and]
      refine Ev.step (fun k => ?_) (ih (i + 1) (by omega))
      simp only [impl_pointsOk.l0, impl_PointOk_v, Option.bind_some]
      rw [if_pos (by omega), if_pos (by omega), if_pos (by omega), rd_impl_Point _ _ hi2, step64 hi2 (by omega), if_pos (by simpa using hx)]
    · rw [decide_eq_false hx, Bool.false_and]
      refine ev_done (fun k => ?_)
      simp only [impl_pointsOk.l0, impl_PointOk_v, Option.bind_some]
      rw [if_pos (by omega), if_pos (by omega), if_pos (by omega), rd_impl_Point _ _ hi2, if_neg (by simpa using hx)]
theorem impl_path_l (l : List Int) (pts : List S46) (hn : l.length ≤ 24) : ∀ (d i : Nat) (n : Int), i + d = l.length → 0 ≤ n → n ≤ 3 * (i : Int) →
    Ev (fun k => impl_PathOk.l0 k n l (l.length : Int) (i : Int) l pts) (endB pts (verbsB (prevB l i) (l.drop i) n)) := by
  intro d
  induction d with
  | zero =>
    intro i n hi h0 h1
    refine ev_done (fun k => ?_)
    simp only [impl_PathOk.l0]
    rw [if_neg (by omega), List.drop_of_length_le (by omega)]
    rfl
  | succ d ih =>
    intro i n hi h0 h1
    have hi2 : i < l.length := by omega
    have hb := needB_bd l[i]
    rw [List.drop_eq_getElem_cons hi2, verbsB]
    refine Ev.step (fun k => rfl) ?_
    simp only [impl_PathOk.l0, if_pos (show (i : Int) < (l.length : Int) by omega), if_pos (show (0 : Int) ≤ (i : Int) by omega), rd_int _ _ hi2]
    refine Ev.bind (impl_NeedOf_v _) ?_
    by_cases hneg : needB l[i] < 0
    · rw [if_pos hneg]
      simp only [if_pos hneg]
      cases i with
      | zero => exact Ev.now _
      | succ j =>
        simp only [if_neg (show ¬ ((j + 1 : Nat) : Int) = 0 by omega), w64 (x := ((j + 1 : Nat) : Int) - 1) (by omega) (by omega)]
        rw [if_pos (by omega), if_pos (by omega)]
        exact Ev.now _
    · rw [if_neg hneg]
      simp only [if_neg hneg, w64 (x := n + needB l[i]) (by omega) (by omega), step64 hi2 (show l.length ≤ 4611686018427387904 by omega)]
      have hr := ih (i + 1) (n + needB l[i]) (by omega) (by omega) (by omega)
      rw [show prevB l (i + 1) = l[i] from rd_int l i hi2] at hr
      cases i with
      | zero =>
        simp only [if_pos (show ((0 : Nat) : Int) = 0 from rfl)]
        by_cases hv : l[0] = 1
        · rw [if_neg (fun h => h.2 hv)]
          simp only [if_pos hv]
          exact hr
        · rw [if_pos ⟨rfl, hv⟩]
          simp only [if_neg hv]
          exact Ev.now _
      | succ j =>
        simp only [if_neg (show ¬ ((j + 1 : Nat) : Int) = 0 by omega), w64 (x := ((j + 1 : Nat) : Int) - 1) (by omega) (by omega)]
        simp only [show ((j + 1 : Nat) : Int) - 1 = (j : Int) by omega, if_pos (show (0 : Int) ≤ (j : Int) by omega), if_pos (show (j : Int) < (l.length : Int) by omega)]
        show Ev _ (endB pts (if rd l (j : Int) = 5 ∧ l[j + 1] ≠ 1 then none else _))
        by_cases hp : rd l (j : Int) = 5
        · simp only [if_pos hp]
          by_cases hv : l[j + 1] = 1
          · rw [if_neg (fun h => h.2 hv)]
            simp only [if_pos hv]
            exact hr
          · rw [if_pos ⟨hp, hv⟩]
            simp only [if_neg hv]
            exact Ev.now _
        · rw [if_neg (fun h => hp h.1)]
          simp only [if_neg hp]
          exact hr
theorem impl_PathOk_v (l : List Int) (pts : List S46) : Ev (fun k => impl_PathOk.f k l pts) (pathB l pts) := by
  unfold impl_PathOk.f pathB
  have hno : Ev (fun k => impl_PathOk.j0 k true l pts) false := ev_done (fun k => rfl)
  by_cases h1 : pts.length ≤ 24
  · rw [decide_eq_true h1, Bool.true_and]
    simp only [if_neg (show ¬ (pts.length : Int) > 24 by omega)]
    by_cases h2 : l.length ≤ 24
    · rw [decide_eq_true h2, Bool.true_and]
      simp only [if_neg (show ¬ (l.length : Int) > 24 by omega)]
      have hp : Ev (fun k => impl_pointsOk.f k pts) (pointsB pts) := impl_pointsOk_l pts (by omega) pts.length 0 (by omega)
      refine Ev.bind hp ?_
      cases pointsB pts with
      | true => exact Ev.step (fun k => rfl) (impl_path_l l pts h2 l.length 0 0 (by omega) (by omega) (by omega))
      | false => exact hno
    · rw [decide_eq_false h2, Bool.false_and]
      simp only [if_pos (show (l.length : Int) > 24 by omega)]
      exact hno
  · rw [decide_eq_false h1, Bool.false_and]
    simp only [if_pos (show (pts.length : Int) > 24 by omega)]
    exact hno

/-! spec_FloorDiv -/
theorem spec_FloorDiv_tot (a b : Int) : ∃ q, spec_FloorDiv.f a b = some q := by
  unfold spec_FloorDiv.f
  by_cases h : b < 1
  · exact ⟨0, by rw [if_pos h]⟩
  · rw [if_neg h, if_neg (by omega)]
    split <;> exact ⟨_, rfl⟩
theorem spec_FloorDiv_v {a b : Int} (ha : -9223372036854775808 ≤ a) (ha2 : a ≤ 9223372036854775807) (hb : 1 ≤ b) (hb2 : b ≤ 9223372036854775807) : spec_FloorDiv.f a b = some (a / b) := by
  have hq : -9223372036854775808 ≤ a / b ∧ a / b ≤ 9223372036854775807 := by
    refine ⟨(Int.le_ediv_iff_mul_le (by omega)).mpr ?_, ?_⟩
    · have : 9223372036854775808 * 1 ≤ 9223372036854775808 * b := Int.mul_le_mul_of_nonneg_left hb (by omega)
      rw [Int.neg_mul]
      omega
    · rcases Int.le_total 0 a with h | h
      · exact Int.le_trans (Int.ediv_le_self b h) ha2
      · have : a / b ≤ 0 := Int.ediv_le_of_le_mul (by omega) (by omega)
        omega
  have hm := Int.emod_nonneg a (show b ≠ 0 by omega)
  have hml := Int.emod_lt_of_pos a (show 0 < b by omega)
  have hd := Int.mul_ediv_add_emod a b
  unfold spec_FloorDiv.f
  rw [if_neg (by omega), if_neg (by omega)]
  by_cases h0 : 0 ≤ a
  · rw [Int.tmod_eq_emod_of_nonneg h0, if_neg (by omega), Int.tdiv_eq_ediv_of_nonneg h0, w64 hq.1 hq.2]
  · have e1 : Int.tdiv a b = if a % b = 0 then a / b else a / b + 1 := by
      rw [Int.tdiv_eq_ediv]
      have hs : b.sign = 1 := Int.sign_eq_one_of_pos (by omega)
      by_cases hz : a % b = 0
      · rw [if_pos hz, if_pos (.inr (Int.dvd_of_emod_eq_zero hz))]
        omega
      · rw [if_neg hz, if_neg (by
          rintro (h | h)
          · omega
          · exact hz (Int.emod_eq_zero_of_dvd h)), hs]
    have e2 : Int.tmod a b = a - b * Int.tdiv a b := by have := Int.mul_tdiv_add_tmod a b; omega
    by_cases hz : a % b = 0
    · rw [if_pos hz] at e1
      rw [if_neg (by rw [e2, e1]; omega), e1, w64 hq.1 hq.2]
    · rw [if_neg hz] at e1
      have hlt : a / b + 1 ≤ 0 := by
        have : a / b < 0 := Int.ediv_neg_of_neg_of_pos (by omega) (by omega)
        omega
      rw [if_pos (by rw [e2, e1, Int.mul_add]; omega), e1, w64 (x := a / b + 1) (by omega) (by omega), w64 (by omega) (by omega)]
      congr 1
      omega

/-! spec_RoundDiv -/
theorem spec_RoundDiv_tot (a b : Int) : ∃ q, spec_RoundDiv.f a b = some q := by
  obtain ⟨q, hq⟩ := spec_FloorDiv_tot a b
  unfold spec_RoundDiv.f
  rw [hq, Option.bind_some]
  split
  · exact ⟨_, rfl⟩
  · split <;> exact ⟨_, rfl⟩

/-! impl_FloorDiv -/
theorem impl_FloorDiv_s (a b : Int) : impl_FloorDiv.f a b = spec_FloorDiv.f a b := rfl

/-! impl_RoundDiv -/
theorem impl_RoundDiv_s (a b : Int) : impl_RoundDiv.f a b = spec_RoundDiv.f a b := rfl

/-! Clamp -/
def clampI (x low high : Int) : Int := if x < low then low else if x > high then high else x
theorem spec_Clamp_v (x low high : Int) : spec_Clamp.f x low high = some (clampI x low high) := by
  unfold spec_Clamp.f clampI
  split
  · rfl
  · split <;> rfl
theorem impl_Clamp_v (x low high : Int) : impl_Clamp.f x low high = some (clampI x low high) := by
  unfold impl_Clamp.f clampI
  split
  · rfl
  · split <;> rfl

/-! FlatQ -/
abbrev Pt := S46
theorem ww (x : Int) : wrap64 (wrap64 x) = wrap64 x := by
  unfold wrap64
  omega
def rdV (x b : Int) : Int := (spec_RoundDiv.f x b).getD 0
theorem spec_rd_v (x b : Int) : spec_RoundDiv.f x b = some (rdV x b) := by
  obtain ⟨q, h⟩ := spec_RoundDiv_tot x b
  unfold rdV
  rw [h]
  rfl
theorem impl_rd_v (x b : Int) : impl_RoundDiv.f x b = some (rdV x b) := by
  rw [impl_RoundDiv_s, spec_rd_v]
def q0 (t : Int) : Int := wrap64 ((wrap64 (4 - t)) * (wrap64 (4 - t)))
def q1 (t : Int) : Int := wrap64 ((wrap64 (2 * t)) * (wrap64 (4 - t)))
def q2 (t : Int) : Int := wrap64 (t * t)
def quadV (a c e t : Int) : Int := rdV (wrap64 ((wrap64 ((wrap64 (q0 t * a)) + (wrap64 (q1 t * c)))) + (wrap64 (q2 t * e)))) 16
def c0 (t : Int) : Int := wrap64 ((wrap64 ((wrap64 (8 - t)) * (wrap64 (8 - t)))) * (wrap64 (8 - t)))
def c1 (t : Int) : Int := wrap64 ((wrap64 ((wrap64 (3 * t)) * (wrap64 (8 - t)))) * (wrap64 (8 - t)))
def c2 (t : Int) : Int := wrap64 ((wrap64 ((wrap64 (3 * t)) * t)) * (wrap64 (8 - t)))
def c3 (t : Int) : Int := wrap64 ((wrap64 (t * t)) * t)
def cubV (a c e g t : Int) : Int := rdV (wrap64 ((wrap64 ((wrap64 ((wrap64 (c0 t * a)) + (wrap64 (c1 t * c)))) + (wrap64 (c2 t * e)))) + (wrap64 (c3 t * g)))) 512
def okPt (p : Pt) : Bool := decide (pointOkP p.f0 p.f1)
def quadP (a b c : Pt) (i : Int) : Pt := if okPt a = true ∧ okPt b = true ∧ okPt c = true then ⟨quadV a.f0 b.f0 c.f0 (clampI i 0 4), quadV a.f1 b.f1 c.f1 (clampI i 0 4)⟩ else ⟨0, 0⟩
def cubP (a b c d : Pt) (i : Int) : Pt := if okPt a = true ∧ okPt b = true ∧ okPt c = true ∧ okPt d = true then ⟨cubV a.f0 b.f0 c.f0 d.f0 (clampI i 0 8), cubV a.f1 b.f1 c.f1 d.f1 (clampI i 0 8)⟩ else ⟨0, 0⟩
theorem spec_quad_v (a b c : Pt) (i : Int) : Ev (fun k => spec_QuadAt.f k a.f0 a.f1 b.f0 b.f1 c.f0 c.f1 i) ((quadP a b c i).f0, (quadP a b c i).f1) := by
  have h0 : Ev (fun k => spec_QuadAt.j0 k i true a.f0 a.f1 b.f0 b.f1 c.f0 c.f1) (0, 0) := ev_done (fun k => rfl)
  have h1 : Ev (fun k => spec_QuadAt.j0 k i false a.f0 a.f1 b.f0 b.f1 c.f0 c.f1) (quadV a.f0 b.f0 c.f0 (clampI i 0 4), quadV a.f1 b.f1 c.f1 (clampI i 0 4)) := ev_done (fun k => by
    simp only [spec_QuadAt.j0, Bool.false_eq_true, if_false, spec_Clamp_v, spec_rd_v, Option.bind_some]
    rfl)
  unfold spec_QuadAt.f quadP okPt
  simp only [spec_PointOk_v, Option.bind_some]
  cases decide (pointOkP a.f0 a.f1) with
  | false => exact h0
  | true =>
    cases decide (pointOkP b.f0 b.f1) with
    | false => exact h0
    | true =>
      cases decide (pointOkP c.f0 c.f1) with
      | false => exact h0
      | true => exact h1
theorem spec_cubic_v (a b c d : Pt) (i : Int) : Ev (fun k => spec_CubicAt.f k a.f0 a.f1 b.f0 b.f1 c.f0 c.f1 d.f0 d.f1 i) ((cubP a b c d i).f0, (cubP a b c d i).f1) := by
  have h0 : Ev (fun k => spec_CubicAt.j0 k i true a.f0 a.f1 b.f0 b.f1 c.f0 c.f1 d.f0 d.f1) (0, 0) := ev_done (fun k => rfl)
  have h1 : Ev (fun k => spec_CubicAt.j0 k i false a.f0 a.f1 b.f0 b.f1 c.f0 c.f1 d.f0 d.f1) (cubV a.f0 b.f0 c.f0 d.f0 (clampI i 0 8), cubV a.f1 b.f1 c.f1 d.f1 (clampI i 0 8)) := ev_done (fun k => by
    simp only [spec_CubicAt.j0, Bool.false_eq_true, if_false, spec_Clamp_v, spec_rd_v, Option.bind_some]
    rfl)
  unfold spec_CubicAt.f cubP okPt
  simp only [spec_PointOk_v, Option.bind_some]
  cases decide (pointOkP a.f0 a.f1) with
  | false => exact h0
  | true =>
    cases decide (pointOkP b.f0 b.f1) with
    | false => exact h0
    | true =>
      cases decide (pointOkP c.f0 c.f1) with
      | false => exact h0
      | true =>
        cases decide (pointOkP d.f0 d.f1) with
        | false => exact h0
        | true => exact h1
theorem impl_points_v (l : List Pt) (hn : l.length ≤ 1048576) : Ev (fun k => impl_pointsOk.f k l) (pointsB l) := impl_pointsOk_l l hn l.length 0 (by omega)
theorem weighed_s (ps : List Pt) (ws : List Int) (by_ : Int) (hn : ps.length ≤ 1048576) (hw : ws.length = ps.length) (i : Nat) (hi : i < ps.length) (x y : Int) (k : Nat) : impl_weighed.l0 (k + 1) ws by_ x y ps (ps.length : Int) (i : Int) = impl_weighed.l0 k ws by_ (wrap64 (x + wrap64 (ps[i].f0 * ws[i]))) (wrap64 (y + wrap64 (ps[i].f1 * ws[i]))) ps (ps.length : Int) ((i + 1 : Nat) : Int) := by
  simp only [impl_weighed.l0]
  rw [if_pos (by omega), if_pos (by omega), if_pos (by omega), if_pos (by omega), rd_impl_Point ps i hi, rd_int ws i (by omega), step64 hi (by omega)]
theorem weighed_e (ps : List Pt) (ws : List Int) (by_ : Int) (i : Nat) (hi : i = ps.length) (x y : Int) (k : Nat) : impl_weighed.l0 (k + 1) ws by_ x y ps (ps.length : Int) (i : Int) = some (rdV x by_, rdV y by_) := by
  simp only [impl_weighed.l0]
  rw [if_neg (by omega), impl_rd_v, impl_rd_v]
  rfl
theorem impl_quad_v (a b c : Pt) (i : Int) : Ev (fun k => impl_QuadAt.f k a.f0 a.f1 b.f0 b.f1 c.f0 c.f1 i) ((quadP a b c i).f0, (quadP a b c i).f1) := by
  unfold impl_QuadAt.f
  simp only [impl_Clamp_v, Option.bind_some]
  generalize ht : clampI i 0 4 = t
  refine Ev.bind (?_ : Ev _ ((quadP a b c i).f0, (quadP a b c i).f1)) (Ev.now _)
  unfold impl_weighed.f
  refine Ev.bind (impl_points_v [a, b, c] (by simp)) ?_
  have e : pointsB [a, b, c] = (okPt a && (okPt b && okPt c)) := by simp [pointsB, okPt]
  rw [e]
  by_cases h : okPt a = true ∧ okPt b = true ∧ okPt c = true
  · unfold quadP
    rw [if_pos h, h.1, h.2.1, h.2.2, ht]
    simp only [Bool.and_self, if_true]
    have hs := weighed_s [a, b, c] [q0 t, q1 t, q2 t] 16 (by simp) rfl
    refine Ev.step (fun k => hs 0 (by simp) 0 0 k) (Ev.step (fun k => hs 1 (by simp) _ _ k) (Ev.step (fun k => hs 2 (by simp) _ _ k) (ev_done (fun k => ?_))))
    rw [weighed_e [a, b, c] [q0 t, q1 t, q2 t] 16 3 rfl]
    simp only [List.getElem_cons_zero, List.getElem_cons_succ, Int.zero_add, ww, Int.mul_comm _ (q0 t), Int.mul_comm _ (q1 t), Int.mul_comm _ (q2 t)]
    rfl
  · unfold quadP
    rw [if_neg h]
    have e2 : (okPt a && (okPt b && okPt c)) = false := by
      cases h1 : okPt a <;> cases h2 : okPt b <;> cases h3 : okPt c <;> simp_all
    rw [e2]
    exact Ev.now _
theorem impl_cubic_v (a b c d : Pt) (i : Int) : Ev (fun k => impl_CubicAt.f k a.f0 a.f1 b.f0 b.f1 c.f0 c.f1 d.f0 d.f1 i) ((cubP a b c d i).f0, (cubP a b c d i).f1) := by
  unfold impl_CubicAt.f
  simp only [impl_Clamp_v, Option.bind_some]
  generalize ht : clampI i 0 8 = t
  refine Ev.bind (?_ : Ev _ ((cubP a b c d i).f0, (cubP a b c d i).f1)) (Ev.now _)
  unfold impl_weighed.f
  refine Ev.bind (impl_points_v [a, b, c, d] (by simp)) ?_
  have e : pointsB [a, b, c, d] = (okPt a && (okPt b && (okPt c && okPt d))) := by simp [pointsB, okPt]
  rw [e]
  by_cases h : okPt a = true ∧ okPt b = true ∧ okPt c = true ∧ okPt d = true
  · unfold cubP
    rw [if_pos h, h.1, h.2.1, h.2.2.1, h.2.2.2, ht]
    simp only [Bool.and_self, if_true]
    have hs := weighed_s [a, b, c, d] [c0 t, c1 t, c2 t, c3 t] 512 (by simp) rfl
    refine Ev.step (fun k => hs 0 (by simp) 0 0 k) (Ev.step (fun k => hs 1 (by simp) _ _ k) (Ev.step (fun k => hs 2 (by simp) _ _ k) (Ev.step (fun k => hs 3 (by simp) _ _ k) (ev_done (fun k => ?_)))))
    rw [weighed_e [a, b, c, d] [c0 t, c1 t, c2 t, c3 t] 512 4 rfl]
    simp only [List.getElem_cons_zero, List.getElem_cons_succ, Int.zero_add, ww, Int.mul_comm _ (c0 t), Int.mul_comm _ (c1 t), Int.mul_comm _ (c2 t), Int.mul_comm _ (c3 t)]
    rfl
  · unfold cubP
    rw [if_neg h]
    have e2 : (okPt a && (okPt b && (okPt c && okPt d))) = false := by
      cases h1 : okPt a <;> cases h2 : okPt b <;> cases h3 : okPt c <;> cases h4 : okPt d <;> simp_all
    rw [e2]
    exact Ev.now _

/-! PathOk_spec -/
theorem spec_NeedOf_v (v : Int) : spec_NeedOf.f v = some (needB v) := by
  unfold spec_NeedOf.f
  simp only [spec_l01In_v, Option.bind_some]
  by_cases h : 1 ≤ v ∧ v ≤ 5
  · rw [decide_eq_true h, if_pos rfl]
    have h5 : v = 1 ∨ v = 2 ∨ v = 3 ∨ v = 4 ∨ v = 5 := by omega
    rcases h5 with rfl | rfl | rfl | rfl | rfl <;> simp [wrap64, rd, needB]
  · rw [decide_eq_false h, if_neg (by simp)]
    unfold needB
    rw [if_neg (by omega), if_neg (by omega), if_neg (by omega), if_neg (by omega)]
theorem spec_points_l (l : List Int) (pts : List S46) (n : Int) (hn : pts.length ≤ 1048576) : ∀ (d i : Nat), i + d = pts.length → Ev (fun k => spec_PathOk.l1 k n (i : Int) l pts) (pointsB (pts.drop i) && (n == (pts.length : Int))) := by
  intro d
  induction d with
  | zero =>
    intro i hi
    refine ev_done (fun k => ?_)
    simp only [spec_PathOk.l1]
    rw [if_neg (by omega), List.drop_of_length_le (by omega)]
    rfl
  | succ d ih =>
    intro i hi
    have hi2 : i < pts.length := by omega
    rw [List.drop_eq_getElem_cons hi2, pointsB, List.all_cons]
    by_cases hx : pointOkP pts[i].f0 pts[i].f1
    · rw [decide_eq_true hx, Bool.true_and]
      refine Ev.step (fun k => ?_) (ih (i + 1) (by omega))
      simp only [spec_PathOk.l1, spec_PointOk_v, Option.bind_some]
      rw [if_pos (by omega), if_pos (by omega), rd_impl_Point _ _ hi2, step64 hi2 (by omega), if_pos (by simpa using hx)]
    · rw [decide_eq_false hx, Bool.false_and, Bool.false_and]
      refine ev_done (fun k => ?_)
      simp only [spec_PathOk.l1, spec_PointOk_v, Option.bind_some]
      rw [if_pos (by omega), if_pos (by omega), rd_impl_Point _ _ hi2, if_neg (by simpa using hx)]
theorem spec_path_l (l : List Int) (pts : List S46) (hn : l.length ≤ 24) (hp : pts.length ≤ 24) : ∀ (d i : Nat) (n : Int), i + d = l.length → 0 ≤ n → n ≤ 3 * (i : Int) →
    Ev (fun k => spec_PathOk.l0 k n (i : Int) l pts) (pointsB pts && endB pts (verbsB (prevB l i) (l.drop i) n)) := by
  intro d
  induction d with
  | zero =>
    intro i n hi h0 h1
    rw [List.drop_of_length_le (by omega)]
    refine Ev.step (fun k => ?_) (spec_points_l l pts n (by omega) pts.length 0 (by omega))
    simp only [spec_PathOk.l0]
    rw [if_neg (by omega)]
    rfl
  | succ d ih =>
    intro i n hi h0 h1
    have hi2 : i < l.length := by omega
    have hb := needB_bd l[i]
    have hno : (pointsB pts && false) = false := Bool.and_false _
    rw [List.drop_eq_getElem_cons hi2, verbsB]
    by_cases hneg : needB l[i] < 0
    · rw [if_pos hneg]
      show Ev _ (pointsB pts && false)
      rw [hno]
      refine ev_done (fun k => ?_)
      simp only [spec_PathOk.l0, rd_int _ _ hi2, spec_NeedOf_v, Option.bind_some]
      rw [if_pos (by omega), if_pos (by omega), if_pos hneg]
    · rw [if_neg hneg]
      have hr := ih (i + 1) (n + needB l[i]) (by omega) (by omega) (by omega)
      rw [show prevB l (i + 1) = l[i] from rd_int l i hi2] at hr
      cases i with
      | zero =>
        by_cases hv : l[0] = 1
        · rw [if_neg (fun h => h.2 hv)]
          refine Ev.step (fun k => ?_) hr
          simp only [spec_PathOk.l0, rd_int _ _ hi2, spec_NeedOf_v, Option.bind_some]
          rw [if_pos (by omega), if_pos (by omega), if_neg hneg, if_pos (by omega), if_pos hv, w64 (x := n + needB l[0]) (by omega) (by omega), step64 hi2 (by omega)]
        · rw [if_pos ⟨rfl, hv⟩]
          show Ev _ (pointsB pts && false)
          rw [hno]
          refine ev_done (fun k => ?_)
          simp only [spec_PathOk.l0, rd_int _ _ hi2, spec_NeedOf_v, Option.bind_some]
          rw [if_pos (by omega), if_pos (by omega), if_neg hneg, if_pos (by omega), if_neg hv]
      | succ j =>
        have ej : wrap64 (((j + 1 : Nat) : Int) - 1) = (j : Int) := by rw [w64 (by omega) (by omega)]; omega
        show Ev _ (pointsB pts && endB pts (if rd l (j : Int) = 5 ∧ l[j + 1] ≠ 1 then none else _))
        by_cases hp5 : rd l (j : Int) = 5
        · by_cases hv : l[j + 1] = 1
          · rw [if_neg (fun h => h.2 hv)]
            refine Ev.step (fun k => ?_) hr
            simp only [spec_PathOk.l0, rd_int _ _ hi2, spec_NeedOf_v, Option.bind_some, ej]
            rw [if_pos (by omega), if_pos (by omega), if_neg hneg, if_neg (by omega), if_pos (by omega), if_pos (by omega), if_pos hp5, if_pos hv, w64 (x := n + needB l[j + 1]) (by omega) (by omega), step64 hi2 (by omega)]
          · rw [if_pos ⟨hp5, hv⟩]
            show Ev _ (pointsB pts && false)
            rw [hno]
            refine ev_done (fun k => ?_)
            simp only [spec_PathOk.l0, rd_int _ _ hi2, spec_NeedOf_v, Option.bind_some, ej]
            rw [if_pos (by omega), if_pos (by omega), if_neg hneg, if_neg (by omega), if_pos (by omega), if_pos (by omega), if_pos hp5, if_neg hv]
        · rw [if_neg (fun h => hp5 h.1)]
          refine Ev.step (fun k => ?_) hr
          simp only [spec_PathOk.l0, rd_int _ _ hi2, spec_NeedOf_v, Option.bind_some, ej]
          rw [if_pos (by omega), if_pos (by omega), if_neg hneg, if_neg (by omega), if_pos (by omega), if_pos (by omega), if_neg hp5, w64 (x := n + needB l[j + 1]) (by omega) (by omega), step64 hi2 (by omega)]
theorem spec_PathOk_v (l : List Int) (pts : List S46) : Ev (fun k => spec_PathOk.f k l pts) (pathB l pts) := by
  unfold spec_PathOk.f pathB
  have hno : Ev (fun k => spec_PathOk.j0 k true l pts) false := ev_done (fun k => rfl)
  by_cases h1 : pts.length ≤ 24
  · rw [decide_eq_true h1, Bool.true_and]
    simp only [if_neg (show ¬ (pts.length : Int) > 24 by omega)]
    by_cases h2 : l.length ≤ 24
    · rw [decide_eq_true h2, Bool.true_and, decide_eq_false (show ¬ (l.length : Int) > 24 by omega)]
      exact Ev.step (fun k => rfl) (spec_path_l l pts h2 h1 l.length 0 0 (by omega) (by omega) (by omega))
    · rw [decide_eq_false h2, Bool.false_and, decide_eq_true (show (l.length : Int) > 24 by omega)]
      exact hno
  · rw [decide_eq_false h1, Bool.false_and]
    simp only [if_pos (show (pts.length : Int) > 24 by omega)]
    exact hno

/-! rd_impl_PointSS -/
theorem rd_impl_PointSS (xs : List (List S46)) (i : Nat) (h : i < xs.length) : rd_L3 xs (i : Int) = xs[i] := by
  unfold rd_L3
  simp [h]

/-! FlatMain -/
def qFrom (a b c : Pt) : Nat → List Pt
  | 0 => []
  | m + 1 => quadP a b c (4 - (m : Int)) :: qFrom a b c m
def cFrom (a b c d : Pt) : Nat → List Pt
  | 0 => []
  | m + 1 => cubP a b c d (8 - (m : Int)) :: cFrom a b c d m
theorem qFrom_length (a b c : Pt) : ∀ m, (qFrom a b c m).length = m
  | 0 => rfl
  | m + 1 => by rw [qFrom, List.length_cons, qFrom_length a b c m]
theorem cFrom_length (a b c d : Pt) : ∀ m, (cFrom a b c d m).length = m
  | 0 => rfl
  | m + 1 => by rw [cFrom, List.length_cons, cFrom_length a b c d m]
abbrev pAt (l : List Pt) (i : Int) : Pt := rd_T46 l i
def lastP (now : List Pt) : Pt := pAt now ((now.length : Int) - 1)
def neP (a b : Pt) : Bool := !(a.f0 == b.f0) || !(a.f1 == b.f1)
def addF (v : Int) (ps now : List Pt) : List Pt :=
  if v = 2 then [pAt ps 0] else if v = 3 then qFrom (lastP now) (pAt ps 0) (pAt ps 1) 4 else if v = 4 then cFrom (lastP now) (pAt ps 0) (pAt ps 1) (pAt ps 2) 8 else if neP (pAt now 0) (lastP now) = true then [pAt now 0] else []
def closed (out : List (List Pt)) (now : List Pt) : List (List Pt) := if 0 < now.length then out ++ [now] else out
def flatF : List Int → List Pt → List (List Pt) → List Pt → List (List Pt)
  | [], _, out, now => closed out now
  | v :: vs, ps, out, now => if v = 1 then flatF vs (ps.drop 1) (closed out now) [pAt ps 0] else flatF vs (ps.drop (needB v).toNat) out (now ++ addF v ps now)
theorem addF_length (v : Int) (ps now : List Pt) : (addF v ps now).length ≤ 8 := by
  unfold addF
  repeat' split
  all_goals simp [qFrom_length, cFrom_length]
theorem flatten_one (v a b : Int) (ps : List Pt) (hv : v = 1 ∨ v = 2) (hp : 0 < ps.length) : Ev (fun k => impl_flatten.f k v a b ps) [pAt ps 0] := by
  unfold impl_flatten.f
  rcases hv with rfl | rfl
  · refine ev_done (fun k => ?_)
    simp only [impl_flatten.j0, if_pos]
    rw [if_pos (by decide), if_pos (by omega), if_pos (by simp)]
    rfl
  · refine ev_done (fun k => ?_)
    simp only [impl_flatten.j0]
    rw [if_neg (by omega), if_pos (by decide), if_pos (by omega), if_pos (by simp)]
    rfl
theorem flatten_none (v a b : Int) (ps : List Pt) (hv : v = 5) : Ev (fun k => impl_flatten.f k v a b ps) [] := by
  subst hv
  unfold impl_flatten.f
  refine ev_done (fun k => ?_)
  simp only [impl_flatten.j0]
  rw [if_neg (by omega), if_neg (by decide), if_neg (by omega), if_neg (by omega)]
theorem flatten_q (p : Pt) (ps : List Pt) (hp : 2 ≤ ps.length) : ∀ (m : Nat) (acc : List Pt), m ≤ 4 → acc.length + m ≤ 100 → Ev (fun k => impl_flatten.l0 k ps acc (5 - (m : Int)) p.f0 p.f1) (acc ++ qFrom p (pAt ps 0) (pAt ps 1) m) := by
  intro m
  induction m with
  | zero =>
    intro acc _ _
    refine ev_done (fun k => ?_)
    simp only [impl_flatten.l0]
    rw [if_neg (by omega), qFrom, List.append_nil]
  | succ m ih =>
    intro acc hm hl
    have e : (5 : Int) - ((m + 1 : Nat) : Int) = 4 - (m : Int) := by omega
    rw [e, qFrom]
    have h := ih (acc ++ [quadP p (pAt ps 0) (pAt ps 1) (4 - (m : Int))]) (by omega) (by simp; omega)
    rw [List.append_assoc, List.singleton_append] at h
    refine Ev.step (fun k => rfl) ?_
    simp only [impl_flatten.l0, if_pos (show 4 - (m : Int) ≤ 4 by omega), if_pos (show (0 : Int) < (ps.length : Int) by omega), if_pos (show (1 : Int) < (ps.length : Int) by omega)]
    refine Ev.bind (impl_quad_v p (pAt ps 0) (pAt ps 1) (4 - (m : Int))) ?_
    simp only [if_pos (show acc.length < 8796093022208 by omega), show (4 : Int) - (m : Int) + 1 = 5 - (m : Int) by omega, w64 (x := 5 - (m : Int)) (by omega) (by omega)]
    exact h
theorem flatten_c (p : Pt) (ps : List Pt) (hp : 3 ≤ ps.length) : ∀ (m : Nat) (acc : List Pt), m ≤ 8 → acc.length + m ≤ 100 → Ev (fun k => impl_flatten.l1 k ps acc (9 - (m : Int)) p.f0 p.f1) (acc ++ cFrom p (pAt ps 0) (pAt ps 1) (pAt ps 2) m) := by
  intro m
  induction m with
  | zero =>
    intro acc _ _
    refine ev_done (fun k => ?_)
    simp only [impl_flatten.l1]
    rw [if_neg (by omega), cFrom, List.append_nil]
  | succ m ih =>
    intro acc hm hl
    have e : (9 : Int) - ((m + 1 : Nat) : Int) = 8 - (m : Int) := by omega
    rw [e, cFrom]
    have h := ih (acc ++ [cubP p (pAt ps 0) (pAt ps 1) (pAt ps 2) (8 - (m : Int))]) (by omega) (by simp; omega)
    rw [List.append_assoc, List.singleton_append] at h
    refine Ev.step (fun k => rfl) ?_
    simp only [impl_flatten.l1, if_pos (show 8 - (m : Int) ≤ 8 by omega), if_pos (show (0 : Int) < (ps.length : Int) by omega), if_pos (show (1 : Int) < (ps.length : Int) by omega), if_pos (show (2 : Int) < (ps.length : Int) by omega)]
    refine Ev.bind (impl_cubic_v p (pAt ps 0) (pAt ps 1) (pAt ps 2) (8 - (m : Int))) ?_
    simp only [if_pos (show acc.length < 8796093022208 by omega), show (8 : Int) - (m : Int) + 1 = 9 - (m : Int) by omega, w64 (x := 9 - (m : Int)) (by omega) (by omega)]
    exact h
theorem flatten_v (v : Int) (hv : v = 2 ∨ v = 3 ∨ v = 4) (now ps : List Pt) (hp : needB v ≤ (ps.length : Int)) : Ev (fun k => impl_flatten.f k v (lastP now).f0 (lastP now).f1 ps) (addF v ps now) := by
  rcases hv with rfl | rfl | rfl
  · exact flatten_one 2 _ _ ps (.inr rfl) (by have : needB 2 = 1 := rfl; omega)
  · have h := flatten_q (lastP now) ps (by have : needB 3 = 2 := rfl; omega) 4 [] (by omega) (by simp)
    unfold impl_flatten.f
    exact Ev.step (fun k => rfl) h
  · have h := flatten_c (lastP now) ps (by have : needB 4 = 3 := rfl; omega) 8 [] (by omega) (by simp)
    unfold impl_flatten.f
    exact Ev.step (fun k => rfl) h
section
variable (l : List Int) (pts : List Pt) (hp : pts.length ≤ 24)
include hp
theorem spec_q (out : List (List Pt)) (i n : Nat) (hi : i < l.length) (p : Pt) (h1 : n + 2 ≤ pts.length) (r : List (List Pt)) : ∀ (m : Nat) (now : List Pt), m ≤ 4 → now.length + m ≤ 1000 →
    Ev (fun k => spec_FlatOf.l0 k out (now ++ qFrom p (pAt pts n) (pAt pts ((n + 1 : Nat) : Int)) m) (wrap64 ((n : Int) + needB l[i])) (wrap64 ((i : Int) + 1)) l pts) r → Ev (fun k => spec_FlatOf.l1 k out now n (i : Int) (5 - (m : Int)) l pts p.f0 p.f1) r := by
  intro m
  induction m with
  | zero =>
    intro now _ _ h
    rw [qFrom, List.append_nil] at h
    refine Ev.step (fun k => ?_) h
    simp only [spec_FlatOf.l1, rd_int _ _ hi, spec_NeedOf_v, Option.bind_some]
    rw [if_neg (by omega), if_pos (by omega), if_pos (by omega)]
  | succ m ih =>
    intro now hm hl h
    have e : (5 : Int) - ((m + 1 : Nat) : Int) = 4 - (m : Int) := by omega
    have e1 : wrap64 ((n : Int) + 1) = ((n + 1 : Nat) : Int) := step64 (n := n + 1) (by omega) (by omega)
    rw [qFrom, ← List.singleton_append, ← List.append_assoc] at h
    rw [e]
    have hh := ih _ (by omega) (by simp; omega) h
    refine Ev.step (fun k => rfl) ?_
    simp only [spec_FlatOf.l1, e1, if_pos (show 4 - (m : Int) ≤ 4 by omega), if_pos (show (0 : Int) ≤ (n : Int) by omega), if_pos (show (n : Int) < (pts.length : Int) by omega), if_pos (show (0 : Int) ≤ ((n + 1 : Nat) : Int) by omega), if_pos (show ((n + 1 : Nat) : Int) < (pts.length : Int) by omega)]
    refine Ev.bind (spec_quad_v p (pAt pts n) (pAt pts ((n + 1 : Nat) : Int)) (4 - (m : Int))) ?_
    simp only [if_pos (show now.length < 8796093022208 by omega), show (4 : Int) - (m : Int) + 1 = 5 - (m : Int) by omega, w64 (x := 5 - (m : Int)) (by omega) (by omega)]
    exact hh
theorem spec_c (out : List (List Pt)) (i n : Nat) (hi : i < l.length) (p : Pt) (h1 : n + 3 ≤ pts.length) (r : List (List Pt)) : ∀ (m : Nat) (now : List Pt), m ≤ 8 → now.length + m ≤ 1000 →
    Ev (fun k => spec_FlatOf.l0 k out (now ++ cFrom p (pAt pts n) (pAt pts ((n + 1 : Nat) : Int)) (pAt pts ((n + 2 : Nat) : Int)) m) (wrap64 ((n : Int) + needB l[i])) (wrap64 ((i : Int) + 1)) l pts) r → Ev (fun k => spec_FlatOf.l2 k out now n (i : Int) (9 - (m : Int)) l pts p.f0 p.f1) r := by
  intro m
  induction m with
  | zero =>
    intro now _ _ h
    rw [cFrom, List.append_nil] at h
    refine Ev.step (fun k => ?_) h
    simp only [spec_FlatOf.l2, rd_int _ _ hi, spec_NeedOf_v, Option.bind_some]
    rw [if_neg (by omega), if_pos (by omega), if_pos (by omega)]
  | succ m ih =>
    intro now hm hl h
    have e : (9 : Int) - ((m + 1 : Nat) : Int) = 8 - (m : Int) := by omega
    have e1 : wrap64 ((n : Int) + 1) = ((n + 1 : Nat) : Int) := step64 (n := n + 1) (by omega) (by omega)
    have e2 : wrap64 ((n : Int) + 2) = ((n + 2 : Nat) : Int) := by
      rw [w64 (by omega) (by omega)]
      omega
    rw [cFrom, ← List.singleton_append, ← List.append_assoc] at h
    rw [e]
    have hh := ih _ (by omega) (by simp; omega) h
    refine Ev.step (fun k => rfl) ?_
    simp only [spec_FlatOf.l2, e1, e2, if_pos (show 8 - (m : Int) ≤ 8 by omega), if_pos (show (0 : Int) ≤ (n : Int) by omega), if_pos (show (n : Int) < (pts.length : Int) by omega), if_pos (show (0 : Int) ≤ ((n + 1 : Nat) : Int) by omega), if_pos (show ((n + 1 : Nat) : Int) < (pts.length : Int) by omega), if_pos (show (0 : Int) ≤ ((n + 2 : Nat) : Int) by omega), if_pos (show ((n + 2 : Nat) : Int) < (pts.length : Int) by omega)]
    refine Ev.bind (spec_cubic_v p (pAt pts n) (pAt pts ((n + 1 : Nat) : Int)) (pAt pts ((n + 2 : Nat) : Int)) (8 - (m : Int))) ?_
    simp only [if_pos (show now.length < 8796093022208 by omega), show (8 : Int) - (m : Int) + 1 = 9 - (m : Int) by omega, w64 (x := 9 - (m : Int)) (by omega) (by omega)]
    exact hh
end
theorem pAt_drop (pts : List Pt) (n j : Nat) (h : n + j < pts.length) : pAt (pts.drop n) (j : Int) = pAt pts ((n + j : Nat) : Int) := by
  show rd_T46 _ _ = rd_T46 _ _
  rw [rd_impl_Point _ _ (by simp; omega), rd_impl_Point _ _ h, List.getElem_drop]
theorem pAt_take (ps : List Pt) (m j : Nat) (hj : j < m) (h : m ≤ ps.length) : pAt (ps.take m) (j : Int) = pAt ps (j : Int) := by
  show rd_T46 _ _ = rd_T46 _ _
  rw [rd_impl_Point _ _ (by simp; omega), rd_impl_Point _ _ (by omega), List.getElem_take]
theorem addF_take (v : Int) (ps now : List Pt) (m : Nat) (hm : needB v = (m : Int)) (h : m ≤ ps.length) : addF v (ps.take m) now = addF v ps now := by
  unfold addF
  by_cases h2 : v = 2
  · subst h2
    have e : needB 2 = 1 := rfl
    have a0 : pAt (ps.take m) 0 = pAt ps 0 := pAt_take ps m 0 (by omega) h
    rw [if_pos rfl, if_pos rfl, a0]
  · rw [if_neg h2, if_neg h2]
    by_cases h3 : v = 3
    · subst h3
      have e : needB 3 = 2 := rfl
      have a0 : pAt (ps.take m) 0 = pAt ps 0 := pAt_take ps m 0 (by omega) h
      have a1 : pAt (ps.take m) 1 = pAt ps 1 := pAt_take ps m 1 (by omega) h
      rw [if_pos rfl, if_pos rfl, a0, a1]
    · rw [if_neg h3, if_neg h3]
      by_cases h4 : v = 4
      · subst h4
        have e : needB 4 = 3 := rfl
        have a0 : pAt (ps.take m) 0 = pAt ps 0 := pAt_take ps m 0 (by omega) h
        have a1 : pAt (ps.take m) 1 = pAt ps 1 := pAt_take ps m 1 (by omega) h
        have a2 : pAt (ps.take m) 2 = pAt ps 2 := pAt_take ps m 2 (by omega) h
        rw [if_pos rfl, if_pos rfl, a0, a1, a2]
      · rw [if_neg h4, if_neg h4]
theorem verbsB_le : ∀ (vs : List Int) (p n m : Int), verbsB p vs n = some m → n ≤ m
  | [], _, n, m, h => by
    obtain rfl := Option.some.inj h
    omega
  | v :: vs, p, n, m, h => by
    rw [verbsB] at h
    split at h
    · cases h
    · split at h
      · cases h
      · have := verbsB_le vs v _ m h
        omega
theorem last_set {α : Type} (out : List α) (a b : α) : (out ++ [a]).set out.length b = out ++ [b] := by simp
section
variable (l : List Int) (pts : List Pt) (hn : l.length ≤ 24)
include hn
/-- One verb that is no move, as the program takes it. -/
theorem impl_step (out : List (List Pt)) (now : List Pt) (i n nd : Nat) (hi : i < l.length) (hv : l[i] = 2 ∨ l[i] = 3 ∨ l[i] = 4 ∨ l[i] = 5) (hnd : needB l[i] = (nd : Int)) (hnn : n + nd ≤ pts.length) (ho : out.length ≤ 100) (hw : 0 < now.length) (hw2 : now.length ≤ 1000) (r : List (List Pt))
    (h : Ev (fun k => impl_FlatOf.l0 k (out ++ [now ++ addF l[i] (pts.drop n) now]) (pts.drop (n + nd)) l (l.length : Int) ((i + 1 : Nat) : Int)) r) : Ev (fun k => impl_FlatOf.l0 k (out ++ [now]) (pts.drop n) l (l.length : Int) (i : Int)) r := by
  have idx : wrap64 (((out ++ [now]).length : Int) - 1) = (out.length : Int) := by
    rw [List.length_append, List.length_singleton, w64 (by omega) (by omega)]
    omega
  have rl : ∀ x : List Pt, rd_L3 (out ++ [x]) (out.length : Int) = x := fun x => by
    rw [rd_impl_PointSS _ _ (by simp)]
    simp
  have hlast : wrap64 ((now.length : Int) - 1) = (now.length : Int) - 1 := w64 (by omega) (by omega)
  have q1 : (0 : Int) ≤ (out.length : Int) := by omega
  have q2 : (out.length : Int) < ((out ++ [now]).length : Int) := by
    rw [List.length_append, List.length_singleton]
    omega
  have q3 : (0 : Int) < (now.length : Int) := by omega
  have q4 : (0 : Int) ≤ (now.length : Int) - 1 := by omega
  have q5 : (now.length : Int) - 1 < (now.length : Int) := by omega
  have hl8 := addF_length l[i] (pts.drop n) now
  have hn1 : l[i] ≠ 1 := by omega
  have hlp : (nd : Int) ≤ ((pts.drop n).length : Int) := by
    rw [List.length_drop]
    omega
  refine Ev.step (fun k => rfl) ?_
  simp only [impl_FlatOf.l0, if_pos (show (i : Int) < (l.length : Int) by omega), if_pos (show (0 : Int) ≤ (i : Int) by omega), rd_int _ _ hi]
  refine Ev.bind (impl_NeedOf_v _) ?_
  simp only [hnd, if_pos (show (0 : Int) ≤ (nd : Int) by omega), if_pos hlp, Int.toNat_natCast, Option.bind_some, if_neg hn1, List.drop_drop, idx, rl, if_pos q1, if_pos q2, if_pos q3, hlast, if_pos q4, if_pos q5, last_set, step64 hi (show l.length ≤ 4611686018427387904 by omega)]
  have ha := addF_take l[i] (pts.drop n) now nd hnd (by rw [List.length_drop]; omega)
  by_cases h5 : l[i] = 5
  · simp only [if_pos h5]
    have hf := flatten_none l[i] (lastP now).f0 (lastP now).f1 ((pts.drop n).take nd) h5
    unfold addF at h
    rw [if_neg (by omega), if_neg (by omega), if_neg (by omega)] at h
    by_cases hne : neP (pAt now 0) (lastP now) = true
    · rw [if_pos hne] at h
      have hne2 : (!(((rd_T46 now 0).f0) == ((rd_T46 now ((now.length : Int) - 1)).f0)) || (!(((rd_T46 now 0).f1) == ((rd_T46 now ((now.length : Int) - 1)).f1)))) = true := hne
      simp only [if_pos hne2, if_pos (show now.length < 8796093022208 by omega)]
      refine Ev.bind hf ?_
      simp only [List.append_nil, List.length_nil, if_pos (show (now ++ [(⟨(rd_T46 now 0).f0, (rd_T46 now 0).f1⟩ : Pt)]).length + 0 < 8796093022208 by simp; omega)]
      exact h
    · rw [if_neg hne, List.append_nil] at h
      have hne2 : ¬ (!(((rd_T46 now 0).f0) == ((rd_T46 now ((now.length : Int) - 1)).f0)) || (!(((rd_T46 now 0).f1) == ((rd_T46 now ((now.length : Int) - 1)).f1)))) = true := hne
      simp only [if_neg hne2]
      refine Ev.bind hf ?_
      simp only [List.append_nil, List.length_nil, if_pos (show now.length + 0 < 8796093022208 by omega)]
      exact h
  · simp only [if_neg h5]
    have hf := flatten_v l[i] (by omega) now ((pts.drop n).take nd) (by rw [hnd, List.length_take, List.length_drop]; omega)
    rw [ha] at hf
    refine Ev.bind hf ?_
    simp only [if_pos (show now.length + (addF l[i] (pts.drop n) now).length < 8796093022208 by omega)]
    exact h
end
section
variable (l : List Int) (pts : List Pt) (hn : l.length ≤ 24) (hp : pts.length ≤ 24)
include hn hp
theorem flat_main : ∀ (d i n : Nat) (out : List (List Pt)) (now : List Pt), i + d = l.length → verbsB (prevB l i) (l.drop i) (n : Int) = some (pts.length : Int) → (0 < i → 0 < now.length) → (i = 0 → out = [] ∧ now = []) → out.length ≤ i → now.length ≤ 9 * i →
    Ev (fun k => spec_FlatOf.l0 k out now (n : Int) (i : Int) l pts) (flatF (l.drop i) (pts.drop n) out now) ∧ Ev (fun k => impl_FlatOf.l0 k (closed out now) (pts.drop n) l (l.length : Int) (i : Int)) (flatF (l.drop i) (pts.drop n) out now) := by
  intro d
  induction d with
  | zero =>
    intro i n out now hi hv hw hz ho hl
    rw [List.drop_of_length_le (show l.length ≤ i by omega), flatF]
    refine ⟨?_, ev_done (fun k => ?_)⟩
    · unfold closed
      by_cases hc : 0 < now.length
      · rw [if_pos hc]
        refine ev_done (fun k => ?_)
        simp only [spec_FlatOf.l0]
        rw [if_neg (by omega), if_pos (by omega), if_pos (by omega)]
      · rw [if_neg hc]
        refine ev_done (fun k => ?_)
        simp only [spec_FlatOf.l0]
        rw [if_neg (by omega), if_neg (by omega)]
    · simp only [impl_FlatOf.l0]
      rw [if_neg (by omega)]
  | succ d ih =>
    intro i n out now hi hv hw hz ho hl
    have hi2 : i < l.length := by omega
    rw [List.drop_eq_getElem_cons hi2, verbsB] at hv
    have hb := needB_bd l[i]
    split at hv
    · cases hv
    rename_i hneg
    split at hv
    · cases hv
    rename_i hfirst
    have hle := verbsB_le _ _ _ _ hv
    obtain ⟨nd, hnd⟩ : ∃ nd : Nat, needB l[i] = (nd : Int) := ⟨(needB l[i]).toNat, by omega⟩
    have hstep : wrap64 ((i : Int) + 1) = ((i + 1 : Nat) : Int) := step64 hi2 (by omega)
    have hnn : wrap64 ((n : Int) + needB l[i]) = ((n + nd : Nat) : Int) := by
      rw [hnd, w64 (by omega) (by omega)]
      omega
    have hprev : prevB l (i + 1) = l[i] := rd_int l i hi2
    have hv2 : verbsB (prevB l (i + 1)) (l.drop (i + 1)) ((n + nd : Nat) : Int) = some (pts.length : Int) := by
      rw [hprev, show ((n + nd : Nat) : Int) = (n : Int) + needB l[i] by omega]
      exact hv
    have h5 : l[i] = 1 ∨ l[i] = 2 ∨ l[i] = 3 ∨ l[i] = 4 ∨ l[i] = 5 := by
      unfold needB at hneg
      repeat' split at hneg
      all_goals omega
    have hi0 : l[i] ≠ 1 → 0 < i := by
      intro h
      cases i with
      | zero => exact absurd ⟨rfl, h⟩ hfirst
      | succ j => omega
    rw [List.drop_eq_getElem_cons hi2]
    by_cases e1 : l[i] = 1
    · have hd1 : nd = 1 := by
        rw [e1] at hnd
        have : needB 1 = 1 := rfl
        omega
      subst hd1
      have hp0 : pAt (pts.drop n) 0 = pAt pts (n : Int) := pAt_drop pts n 0 (by omega)
      have hcl : (closed out now).length ≤ i + 1 := by
        unfold closed
        split
        · simp
          omega
        · omega
      have H := ih (i + 1) (n + 1) (closed out now) [pAt (pts.drop n) 0] (by omega) hv2 (fun _ => by simp) (fun h => by omega) hcl (by simp; omega)
      rw [flatF, if_pos e1, List.drop_drop]
      refine ⟨?_, ?_⟩
      · refine Ev.step (fun k => ?_) H.1
        simp only [spec_FlatOf.l0, rd_int _ _ hi2, spec_NeedOf_v, Option.bind_some, hstep, hnn, hp0]
        rw [if_pos (by omega), if_pos (by omega), if_pos e1]
        by_cases hip : (i : Int) > 0
        · have hwl := hw (by omega)
          rw [if_pos hip, if_pos (by omega), if_pos (by omega), if_pos (by omega)]
          unfold closed
          rw [if_pos hwl]
        · obtain ⟨rfl, rfl⟩ := hz (by omega)
          rw [if_neg hip, if_pos (by omega), if_pos (by omega)]
          rfl
      · have hf := flatten_one l[i] 0 0 ((pts.drop n).take 1) (.inl e1) (by rw [List.length_take, List.length_drop]; omega)
        have ht : pAt ((pts.drop n).take 1) 0 = pAt (pts.drop n) 0 := pAt_take (pts.drop n) 1 0 (by omega) (by rw [List.length_drop]; omega)
        rw [ht] at hf
        have hlp : ((1 : Nat) : Int) ≤ ((pts.drop n).length : Int) := by
          rw [List.length_drop]
          omega
        refine Ev.step (fun k => rfl) ?_
        simp only [impl_FlatOf.l0, if_pos (show (i : Int) < (l.length : Int) by omega), if_pos (show (0 : Int) ≤ (i : Int) by omega), rd_int _ _ hi2]
        refine Ev.bind (impl_NeedOf_v _) ?_
        simp only [hnd, if_pos (show (0 : Int) ≤ ((1 : Nat) : Int) by omega), if_pos hlp, Int.toNat_natCast, Option.bind_some, if_pos e1, List.drop_drop, hstep]
        refine Ev.bind hf ?_
        simp only [if_pos (show (closed out now).length < 5864062014805 by omega)]
        exact H.2
    · have hip := hi0 e1
      have hwl := hw hip
      have hl8 := addF_length l[i] (pts.drop n) now
      have H := ih (i + 1) (n + nd) out (now ++ addF l[i] (pts.drop n) now) (by omega) hv2 (fun _ => by simp; omega) (fun h => by omega) (by omega) (by simp; omega)
      have hcl : closed out now = out ++ [now] := if_pos hwl
      have hcl2 : closed out (now ++ addF l[i] (pts.drop n) now) = out ++ [now ++ addF l[i] (pts.drop n) now] := if_pos (by simp; omega)
      rw [hcl2] at H
      rw [flatF, if_neg e1, List.drop_drop, hnd, Int.toNat_natCast, hcl]
      refine ⟨?_, impl_step l pts hn out now i n nd hi2 (by omega) hnd (by omega) (by omega) hwl (by omega) _ H.2⟩
      have hlast : wrap64 ((now.length : Int) - 1) = (now.length : Int) - 1 := w64 (by omega) (by omega)
      replace H := H.1
      rw [show ((n + nd : Nat) : Int) = wrap64 ((n : Int) + needB l[i]) from hnn.symm, show ((i + 1 : Nat) : Int) = wrap64 ((i : Int) + 1) from hstep.symm] at H
      rcases h5 with e | e | e | e | e
      · exact absurd e e1
      · have hd1 : nd = 1 := by
          rw [e] at hnd
          have : needB 2 = 1 := rfl
          omega
        have hp0 : pAt (pts.drop n) 0 = pAt pts (n : Int) := pAt_drop pts n 0 (by omega)
        rw [show addF l[i] (pts.drop n) now = [pAt pts (n : Int)] by unfold addF; rw [if_pos e, hp0]] at H ⊢
        refine Ev.step (fun k => ?_) H
        simp only [spec_FlatOf.l0, rd_int _ _ hi2, spec_NeedOf_v, Option.bind_some]
        rw [if_pos (by omega), if_pos (by omega), if_neg e1, if_pos e, if_pos (by omega), if_pos (by omega), if_pos (by omega)]
      · have hd1 : nd = 2 := by
          rw [e] at hnd
          have : needB 3 = 2 := rfl
          omega
        have hp0 : pAt (pts.drop n) 0 = pAt pts (n : Int) := pAt_drop pts n 0 (by omega)
        have hp1 : pAt (pts.drop n) 1 = pAt pts ((n + 1 : Nat) : Int) := pAt_drop pts n 1 (by omega)
        rw [show addF l[i] (pts.drop n) now = qFrom (lastP now) (pAt pts (n : Int)) (pAt pts ((n + 1 : Nat) : Int)) 4 by unfold addF; rw [if_neg (by omega), if_pos e, hp0, hp1]] at H ⊢
        refine Ev.step (fun k => ?_) (spec_q l pts hp out i n hi2 (lastP now) (by omega) _ 4 now (by omega) (by omega) H)
        simp only [spec_FlatOf.l0, rd_int _ _ hi2, hlast]
        rw [if_pos (by omega), if_pos (by omega), if_neg e1, if_neg (by omega), if_pos e, if_pos (by omega), if_pos (by omega)]
        rfl
      · have hd1 : nd = 3 := by
          rw [e] at hnd
          have : needB 4 = 3 := rfl
          omega
        have hp0 : pAt (pts.drop n) 0 = pAt pts (n : Int) := pAt_drop pts n 0 (by omega)
        have hp1 : pAt (pts.drop n) 1 = pAt pts ((n + 1 : Nat) : Int) := pAt_drop pts n 1 (by omega)
        have hp2 : pAt (pts.drop n) 2 = pAt pts ((n + 2 : Nat) : Int) := pAt_drop pts n 2 (by omega)
        rw [show addF l[i] (pts.drop n) now = cFrom (lastP now) (pAt pts (n : Int)) (pAt pts ((n + 1 : Nat) : Int)) (pAt pts ((n + 2 : Nat) : Int)) 8 by unfold addF; rw [if_neg (by omega), if_neg (by omega), if_pos e, hp0, hp1, hp2]] at H ⊢
        refine Ev.step (fun k => ?_) (spec_c l pts hp out i n hi2 (lastP now) (by omega) _ 8 now (by omega) (by omega) H)
        simp only [spec_FlatOf.l0, rd_int _ _ hi2, hlast]
        rw [if_pos (by omega), if_pos (by omega), if_neg e1, if_neg (by omega), if_neg (by omega), if_pos e, if_pos (by omega), if_pos (by omega)]
        rfl
      · have ha : addF l[i] (pts.drop n) now = if neP (pAt now 0) (lastP now) = true then [pAt now 0] else [] := by
          unfold addF
          rw [if_neg (by omega), if_neg (by omega), if_neg (by omega)]
        rw [ha] at H ⊢
        by_cases hne : neP (pAt now 0) (lastP now) = true
        · rw [if_pos hne] at H ⊢
          have hne2 : (!(((rd_T46 now 0).f0) == ((rd_T46 now ((now.length : Int) - 1)).f0)) || (!(((rd_T46 now 0).f1) == ((rd_T46 now ((now.length : Int) - 1)).f1)))) = true := hne
          refine Ev.step (fun k => ?_) H
          simp only [spec_FlatOf.l0, rd_int _ _ hi2, hlast, spec_NeedOf_v, Option.bind_some]
          rw [if_pos (by omega), if_pos (by omega), if_neg e1, if_neg (by omega), if_neg (by omega), if_neg (by omega), if_pos e, if_pos (by omega), if_pos (by omega), if_pos (by omega), if_pos hne2, if_pos (by omega)]
        · rw [if_neg hne, List.append_nil] at H ⊢
          have hne2 : ¬ (!(((rd_T46 now 0).f0) == ((rd_T46 now ((now.length : Int) - 1)).f0)) || (!(((rd_T46 now 0).f1) == ((rd_T46 now ((now.length : Int) - 1)).f1)))) = true := hne
          refine Ev.step (fun k => ?_) H
          simp only [spec_FlatOf.l0, rd_int _ _ hi2, hlast, spec_NeedOf_v, Option.bind_some]
          rw [if_pos (by omega), if_pos (by omega), if_neg e1, if_neg (by omega), if_neg (by omega), if_neg (by omega), if_pos e, if_pos (by omega), if_pos (by omega), if_pos (by omega), if_neg hne2]
end
theorem closed_good (out : List (List Pt)) (now : List Pt) (h1 : ∀ x ∈ out, x.length ≤ 300) (h2 : now.length ≤ 300) : (closed out now).length ≤ out.length + 1 ∧ ∀ x ∈ closed out now, x.length ≤ 300 := by
  unfold closed
  split
  · refine ⟨by simp, fun x hx => ?_⟩
    rcases List.mem_append.mp hx with h | h
    · exact h1 x h
    · obtain rfl := List.mem_singleton.mp h
      exact h2
  · exact ⟨by omega, h1⟩
theorem flatF_good : ∀ (vs : List Int) (ps : List Pt) (out : List (List Pt)) (now : List Pt), (∀ x ∈ out, x.length ≤ 300) → now.length + 8 * vs.length ≤ 300 → (flatF vs ps out now).length ≤ out.length + 1 + vs.length ∧ ∀ x ∈ flatF vs ps out now, x.length ≤ 300
  | [], _, out, now, h1, h2 => closed_good out now h1 (by simpa using h2)
  | v :: vs, ps, out, now, h1, h2 => by
    rw [List.length_cons] at h2
    rw [flatF, List.length_cons]
    split
    · obtain ⟨a, b⟩ := closed_good out now h1 (by omega)
      obtain ⟨c, d⟩ := flatF_good vs (ps.drop 1) (closed out now) [pAt ps 0] b (by simp; omega)
      exact ⟨by omega, d⟩
    · have := addF_length v ps now
      obtain ⟨c, d⟩ := flatF_good vs (ps.drop (needB v).toNat) out (now ++ addF v ps now) h1 (by rw [List.length_append]; omega)
      exact ⟨by omega, d⟩
theorem flat_v (l : List Int) (pts : List Pt) (h : pathB l pts = true) : Ev (fun k => spec_FlatOf.f k l pts) (flatF l pts [] []) ∧ Ev (fun k => impl_FlatOf.f k l pts) (flatF l pts [] []) ∧ (flatF l pts [] []).length ≤ 30 ∧ ∀ x ∈ flatF l pts [] [], x.length ≤ 300 := by
  have hs := spec_PathOk_v l pts
  have hi := impl_PathOk_v l pts
  rw [h] at hs hi
  unfold pathB at h
  simp only [Bool.and_eq_true, decide_eq_true_eq] at h
  obtain ⟨b1, b2, _, b3⟩ := h
  have hv : verbsB 5 l 0 = some (pts.length : Int) := by
    cases hq : verbsB 5 l 0 with
    | none => rw [hq] at b3; simp [endB] at b3
    | some m => rw [hq] at b3; simp [endB] at b3; rw [b3]
  obtain ⟨k1, k2⟩ := flat_main l pts b2 b1 l.length 0 0 [] [] (by omega) hv (fun h => absurd h (by omega)) (fun _ => ⟨rfl, rfl⟩) (by simp) (by simp)
  obtain ⟨g1, g2⟩ := flatF_good l pts [] [] (by simp) (by simp; omega)
  simp only [List.length_nil] at g1
  refine ⟨?_, ?_, by omega, g2⟩
  · unfold spec_FlatOf.f
    simp only [Option.bind_some]
    exact Ev.bind hs k1
  · unfold impl_FlatOf.f
    exact Ev.bind hi k2
theorem flat_no (l : List Int) (pts : List Pt) (h : pathB l pts = false) : Ev (fun k => spec_FlatOf.f k l pts) [] ∧ Ev (fun k => impl_FlatOf.f k l pts) [] := by
  have hs := spec_PathOk_v l pts
  have hi := impl_PathOk_v l pts
  rw [h] at hs hi
  refine ⟨?_, ?_⟩
  · unfold spec_FlatOf.f
    simp only [Option.bind_some]
    exact Ev.bind hs (Ev.now _)
  · unfold impl_FlatOf.f
    exact Ev.bind hi (Ev.now _)
theorem FlatOf_b (l : List Int) (pts : List Pt) : ∃ Q : List (List Pt), Ev (fun k => spec_FlatOf.f k l pts) Q ∧ Ev (fun k => impl_FlatOf.f k l pts) Q ∧ Q.length ≤ 30 ∧ ∀ x ∈ Q, x.length ≤ 300 := by
  cases h : pathB l pts with
  | true => exact ⟨_, flat_v l pts h⟩
  | false => exact ⟨[], (flat_no l pts h).1, (flat_no l pts h).2, by simp, by simp⟩

/-! laws_szIntS -/
theorem laws_szIntS_v (l : List Int) (a : Int) (h0 : 0 ≤ a) (h1 : a ≤ 1048576) (hl : l.length ≤ maxLen) : laws_szIntS.f l a = some (if (l.length : Int) ≤ a then a - (l.length : Int) else -1) := by
  unfold maxLen at hl
  have hw : wrap64 (a - (l.length : Int)) = a - (l.length : Int) := w64 (by omega) (by omega)
  unfold laws_szIntS.f
  rw [hw]
  by_cases h : (l.length : Int) ≤ a
  · rw [if_neg (by omega), if_pos h]
  · rw [if_pos (by omega), if_neg h]

/-! laws_szPointS -/
theorem laws_szPointS_v (l : List S69) (a : Int) (h0 : 0 ≤ a) (h1 : a ≤ 1048576) (hl : l.length ≤ maxLen) : laws_szPointS.f l a = some (if (l.length : Int) ≤ a then a - (l.length : Int) else -1) := by
  unfold maxLen at hl
  have hw : wrap64 (a - (l.length : Int)) = a - (l.length : Int) := w64 (by omega) (by omega)
  unfold laws_szPointS.f
  rw [hw]
  by_cases h : (l.length : Int) ≤ a
  · rw [if_neg (by omega), if_pos h]
  · rw [if_pos (by omega), if_neg h]

/-! laws_toIntS -/
def convInt (x : Int) : Int := x
theorem laws_toIntS_l (x0 : List Int) (hn : x0.length ≤ 1048576) : ∀ (d i : Nat) (x3 : List Int), x3.length = x0.length → i + d = x0.length →
    Ev (fun k => laws_toIntS.l0 k x0 x3 (i : Int)) (x3.take i ++ (x0.drop i).map convInt) := by
  intro d
  induction d with
  | zero =>
    intro i x3 hl hi
    refine ev_done (fun k => ?_)
    simp only [laws_toIntS.l0]
    rw [if_neg (by omega), List.take_of_length_le (by omega), List.drop_of_length_le (by omega)]
    simp
  | succ d ih =>
    intro i x3 hl hi
    have hi2 : i < x0.length := by omega
    refine Ev.step (f := fun k => laws_toIntS.l0 k x0 (x3.set i (convInt x0[i])) ((i + 1 : Nat) : Int)) (fun k => ?_) ?_
    · simp only [laws_toIntS.l0]
      rw [if_pos (by omega), if_pos (by omega), step64 hi2 (by omega), rd_int _ _ hi2]
      rw [if_pos (by omega)]
      rfl
    · have h := ih (i + 1) (x3.set i (convInt x0[i])) (by simpa using hl) (by omega)
      rw [take_set_succ _ _ _ (by omega)] at h
      rw [List.drop_eq_getElem_cons hi2]
      rw [List.append_assoc] at h
      exact h
theorem laws_toIntS_v (x0 : List Int) (hn : x0.length ≤ 1048576) : Ev (fun k => laws_toIntS.f k x0) (x0.map convInt) := by
  have h := laws_toIntS_l x0 hn x0.length 0 (List.replicate x0.length 0) (by simp) (by omega)
  refine Ev.congr (fun k => ?_) (by simpa using h)
  unfold laws_toIntS.f
  rw [if_pos (by omega), if_pos (by omega)]
  simp
theorem laws_toIntS_w (x0 : List Int) (hn : x0.length ≤ 1048576) : Ev (fun k => laws_toIntS.f k x0) x0 := by
  have h := laws_toIntS_v x0 hn
  rw [show x0.map convInt = x0 from (List.map_congr_left (fun _ _ => rfl)).trans (List.map_id x0)] at h
  exact h

/-! rd_laws_Point -/
theorem rd_laws_Point (xs : List S69) (i : Nat) (h : i < xs.length) : rd_T69 xs (i : Int) = xs[i] := by
  unfold rd_T69
  simp [h]

/-! laws_toPointS -/
def convPoint (x : S69) : S46 := ⟨x.f0, x.f1⟩
theorem laws_toPointS_l (x0 : List S69) (hn : x0.length ≤ 1048576) : ∀ (d i : Nat) (x3 : List S46), x3.length = x0.length → i + d = x0.length →
    Ev (fun k => laws_toPointS.l0 k x0 x3 (i : Int)) (x3.take i ++ (x0.drop i).map convPoint) := by
  intro d
  induction d with
  | zero =>
    intro i x3 hl hi
    refine ev_done (fun k => ?_)
    simp only [laws_toPointS.l0]
    rw [if_neg (by omega), List.take_of_length_le (by omega), List.drop_of_length_le (by omega)]
    simp
  | succ d ih =>
    intro i x3 hl hi
    have hi2 : i < x0.length := by omega
    refine Ev.step (f := fun k => laws_toPointS.l0 k x0 (x3.set i (convPoint x0[i])) ((i + 1 : Nat) : Int)) (fun k => ?_) ?_
    · simp only [laws_toPointS.l0, laws_toPoint.f, Option.bind_some]
      rw [if_pos (by omega), if_pos (by omega), step64 hi2 (by omega), rd_laws_Point _ _ hi2]
      rw [if_pos (by omega)]
      rfl
    · have h := ih (i + 1) (x3.set i (convPoint x0[i])) (by simpa using hl) (by omega)
      rw [take_set_succ _ _ _ (by omega)] at h
      rw [List.drop_eq_getElem_cons hi2]
      rw [List.append_assoc] at h
      exact h
theorem laws_toPointS_v (x0 : List S69) (hn : x0.length ≤ 1048576) : Ev (fun k => laws_toPointS.f k x0) (x0.map convPoint) := by
  have h := laws_toPointS_l x0 hn x0.length 0 (List.replicate x0.length z46) (by simp) (by omega)
  refine Ev.congr (fun k => ?_) (by simpa using h)
  unfold laws_toPointS.f
  rw [if_pos (by omega), if_pos (by omega)]
  simp

/-! laws_eqIntS -/
theorem laws_eqIntS_l (x0 : List Int) (hn : x0.length ≤ 1048576) : ∀ (d i : Nat), i + d = x0.length → Ev (fun k => laws_eqIntS.l0 k x0 x0 (i : Int)) true := by
  intro d
  induction d with
  | zero =>
    intro i hi
    refine ev_done (fun k => ?_)
    simp only [laws_eqIntS.l0]
    rw [if_neg (by omega)]
  | succ d ih =>
    intro i hi
    have hi2 : i < x0.length := by omega
    refine Ev.step (fun k => ?_) (ih (i + 1) (by omega))
    simp only [laws_eqIntS.l0]
    rw [if_pos (by omega), if_pos (by omega), if_pos (by omega), step64 hi2 (by omega)]
    simp
theorem laws_eqIntS_v (x0 : List Int) (hn : x0.length ≤ 1048576) : Ev (fun k => laws_eqIntS.f k x0 x0) true := by
  refine Ev.congr (fun k => ?_) (laws_eqIntS_l x0 hn x0.length 0 (by omega))
  unfold laws_eqIntS.f
  rw [if_pos rfl]
  rfl

/-! laws_eqPointS -/
theorem laws_eqPointS_l (x0 : List S46) (hn : x0.length ≤ 1048576) : ∀ (d i : Nat), i + d = x0.length → Ev (fun k => laws_eqPointS.l0 k x0 x0 (i : Int)) true := by
  intro d
  induction d with
  | zero =>
    intro i hi
    refine ev_done (fun k => ?_)
    simp only [laws_eqPointS.l0]
    rw [if_neg (by omega)]
  | succ d ih =>
    intro i hi
    have hi2 : i < x0.length := by omega
    refine Ev.step (fun k => ?_) (ih (i + 1) (by omega))
    simp only [laws_eqPointS.l0, laws_eqPoint.f]
    rw [if_pos (by omega), if_pos (by omega), if_pos (by omega), step64 hi2 (by omega)]
    simp
theorem laws_eqPointS_v (x0 : List S46) (hn : x0.length ≤ 1048576) : Ev (fun k => laws_eqPointS.f k x0 x0) true := by
  refine Ev.congr (fun k => ?_) (laws_eqPointS_l x0 hn x0.length 0 (by omega))
  unfold laws_eqPointS.f
  rw [if_pos rfl]
  rfl

/-! PathM -/
theorem szInt_m (l : List Int) (n : Int) (h0 : 0 ≤ n) (h1 : n ≤ 1048576) (hl : l.length ≤ maxLen) : ∃ m, laws_szIntS.f l n = some m ∧ m ≤ n ∧ (0 ≤ m → l.length ≤ 1048576) := by
  refine ⟨_, laws_szIntS_v l n h0 h1 hl, ?_, ?_⟩
  · split <;> omega
  · split <;> omega
theorem szPoint_m (l : List S69) (n : Int) (h0 : 0 ≤ n) (h1 : n ≤ 1048576) (hl : l.length ≤ maxLen) : ∃ m, laws_szPointS.f l n = some m ∧ m ≤ n ∧ (0 ≤ m → l.length ≤ 1048576) := by
  refine ⟨_, laws_szPointS_v l n h0 h1 hl, ?_, ?_⟩
  · split <;> omega
  · split <;> omega
theorem szPath_m (l : List Int) (p : List S69) (n : Int) (h0 : 0 ≤ n) (h1 : n ≤ 1048576) (hl : l.length ≤ maxLen) (hp : p.length ≤ maxLen) : ∃ m, laws_szPath.f l p n = some m ∧ m ≤ n ∧ (0 ≤ m → l.length ≤ 1048576 ∧ p.length ≤ 1048576) := by
  obtain ⟨m, e1, b1, c1⟩ := szInt_m l n h0 h1 hl
  unfold laws_szPath.f
  rw [e1, Option.bind_some]
  by_cases hm : m < 0
  · rw [if_pos hm]
    exact ⟨-1, rfl, by omega, by omega⟩
  · rw [if_neg hm]
    obtain ⟨q, e2, b2, c2⟩ := szPoint_m p m (by omega) (by omega) hp
    rw [e2, Option.bind_some]
    by_cases hq : q < 0
    · rw [if_pos hq]
      exact ⟨-1, rfl, by omega, by omega⟩
    · rw [if_neg hq]
      exact ⟨q, rfl, by omega, fun _ => ⟨c1 (by omega), c2 (by omega)⟩⟩
theorem toPath_v (l : List Int) (p : List S69) (hl : l.length ≤ 1048576) (hp : p.length ≤ 1048576) : Ev (fun k => laws_toPath.f k l p) (l, p.map convPoint) := by
  unfold laws_toPath.f
  exact Ev.bind (laws_toIntS_w l hl) (Ev.bind (laws_toPointS_v p hp) (Ev.now _))
theorem eqPath_v (l : List Int) (p : List S46) (hl : l.length ≤ 1048576) (hp : p.length ≤ 1048576) : Ev (fun k => laws_eqPath.f k l p l p) true := by
  unfold laws_eqPath.f
  refine Ev.bind (laws_eqIntS_v l hl) ?_
  simp only [if_true]
  refine Ev.bind (laws_eqPointS_v p hp) ?_
  simp only [if_true]
  exact Ev.now _

/-! markSS -/
theorem eqSS_l (x0 : List (List S46)) (hn : x0.length ≤ 4194304) (hm : ∀ x ∈ x0, x.length ≤ 1048576) : ∀ (d i : Nat), i + d = x0.length → Ev (fun k => laws_eqPointSS.l0 k x0 x0 (i : Int)) true := by
  intro d
  induction d with
  | zero =>
    intro i hi
    refine ev_done (fun k => ?_)
    simp only [laws_eqPointSS.l0]
    rw [if_neg (by omega)]
  | succ d ih =>
    intro i hi
    have hi2 : i < x0.length := by omega
    refine Ev.step (f := fun k => (laws_eqPointS.f k x0[i] x0[i]).bind fun t => if t = true then laws_eqPointSS.l0 k x0 x0 ((i + 1 : Nat) : Int) else some false) (fun k => ?_) (Ev.bind (laws_eqPointS_v _ (hm _ (List.getElem_mem hi2))) ?_)
    · simp only [laws_eqPointSS.l0]
      rw [if_pos (by omega), if_pos (by omega), if_pos (by omega), step64 hi2 (by omega), rd_impl_PointSS _ _ hi2]
    · simp only [if_true]
      exact ih (i + 1) (by omega)
theorem eqSS_v (x0 : List (List S46)) (hn : x0.length ≤ 4194304) (hm : ∀ x ∈ x0, x.length ≤ 1048576) : Ev (fun k => laws_eqPointSS.f k x0 x0) true := by
  refine Ev.congr (fun k => ?_) (eqSS_l x0 hn hm x0.length 0 (by omega))
  unfold laws_eqPointSS.f
  rw [if_pos rfl]
  rfl
theorem take_get {α : Type} {R x : List α} {i : Nat} (h : R.take (i + 1) = x.take (i + 1)) (hR : i < R.length) (hx : i < x.length) : R[i] = x[i] := by
  have h1 : (R.take (i + 1))[i]? = R[i]? := by rw [List.getElem?_take_of_lt (by omega)]
  have h2 : (x.take (i + 1))[i]? = x[i]? := by rw [List.getElem?_take_of_lt (by omega)]
  rw [h, h2, List.getElem?_eq_getElem hx, List.getElem?_eq_getElem hR] at h1
  exact (Option.some.inj h1).symm
theorem take_less {α : Type} {R x : List α} {i : Nat} (h : R.take (i + 1) = x.take (i + 1)) : R.take i = x.take i := by
  have := congrArg (List.take i) h
  rwa [List.take_take, List.take_take, Nat.min_eq_left (by omega)] at this
theorem markS_l : ∀ (d i : Nat) (x0 : List S46) (z : Int), i + d = x0.length → x0.length ≤ 1048576 → 0 ≤ z → z + 2 * d ≤ 1152921504606846976 → ∃ R : List S46, R.length = x0.length ∧ R.take i = x0.take i ∧ Ev (fun k => laws_markPointS.l0 k x0 z (i : Int)) (z + 2 * (d : Int), R) ∧ Ev (fun k => laws_heldPointS.l0 k R z (i : Int)) (z + 2 * (d : Int)) := by
  intro d
  induction d with
  | zero =>
    intro i x0 z hi _ _ _
    refine ⟨x0, rfl, rfl, ev_done (fun k => ?_), ev_done (fun k => ?_)⟩
    · simp only [laws_markPointS.l0]
      rw [if_neg (by omega)]
      simp
    · simp only [laws_heldPointS.l0]
      rw [if_neg (by omega)]
      simp
  | succ d ih =>
    intro i x0 z hi hn h0 h1
    have hi2 : i < x0.length := by omega
    have e1 : wrap64 (z + 1) = z + 1 := w64 (by omega) (by omega)
    have e2 : wrap64 (z + 1 + 1) = z + 2 := by rw [w64 (by omega) (by omega)]; omega
    have e3 : z + 2 * ((d + 1 : Nat) : Int) = z + 2 + 2 * (d : Int) := by omega
    have ea : (rd_T46 (x0.set i ⟨z, (rd_T46 x0 (i : Int)).f1⟩) (i : Int)).f0 = z := by
      rw [rd_impl_Point _ i (by simpa using hi2)]
      simp
    obtain ⟨R, hl, ht, hM, hH⟩ := ih (i + 1) ((x0.set i ⟨z, (rd_T46 x0 (i : Int)).f1⟩).set i ⟨(rd_T46 (x0.set i ⟨z, (rd_T46 x0 (i : Int)).f1⟩) (i : Int)).f0, z + 1⟩) (z + 2) (by simp; omega) (by simpa using hn) (by omega) (by omega)
    have hl2 : R.length = x0.length := by simpa using hl
    have hR : R[i]'(by omega) = ⟨z, z + 1⟩ := by
      rw [take_get ht (by omega) (by simpa using hi2), ea]
      simp
    refine ⟨R, hl2, ?_, ?_, ?_⟩
    · rw [take_less ht, List.take_set_of_le (by omega), List.take_set_of_le (by omega)]
    · rw [e3]
      refine Ev.step (fun k => ?_) hM
      simp only [laws_markPointS.l0]
      rw [if_pos (by omega), if_pos (by omega), Option.bind_some, e1, e2, step64 hi2 (by omega)]
      rfl
    · rw [e3]
      refine Ev.step (fun k => ?_) hH
      simp only [laws_heldPointS.l0, rd_impl_Point R i (by omega), hR, if_true]
      rw [if_pos (by omega), if_pos (by omega), e1, if_pos rfl, e2, step64 hi2 (by omega)]
theorem markSS_l : ∀ (d i : Nat) (x0 : List (List S46)) (z : Int), i + d = x0.length → x0.length ≤ 4194304 → (∀ (j : Nat) (h : j < x0.length), i ≤ j → x0[j].length ≤ 1048576) → 0 ≤ z → z + 2097152 * d ≤ 1152921504606846976 →
    ∃ (K : Int) (R : List (List S46)), R.length = x0.length ∧ R.take i = x0.take i ∧ Ev (fun k => laws_markPointSS.l0 k x0 z (i : Int)) (K, R) ∧ 0 ≤ K ∧ Ev (fun k => laws_heldPointSS.l0 k R z (i : Int)) K := by
  intro d
  induction d with
  | zero =>
    intro i x0 z hi _ _ h0 _
    refine ⟨z, x0, rfl, rfl, ev_done (fun k => ?_), h0, ev_done (fun k => ?_)⟩
    · simp only [laws_markPointSS.l0]
      rw [if_neg (by omega)]
    · simp only [laws_heldPointSS.l0]
      rw [if_neg (by omega)]
  | succ d ih =>
    intro i x0 z hi hn hm h0 h1
    have hi2 : i < x0.length := by omega
    have hl := hm i hi2 (Nat.le_refl _)
    obtain ⟨S, _, _, hM, hH⟩ := markS_l x0[i].length 0 x0[i] z (by omega) hl h0 (by omega)
    obtain ⟨K, R, hRl, hRt, hMs, hK, hHs⟩ := ih (i + 1) (x0.set i S) (z + 2 * (x0[i].length : Int)) (by simp; omega) (by simpa using hn) (fun j hj hij => by
      rw [List.getElem_set_ne (by omega)]
      exact hm j (by simpa using hj) (by omega)) (by omega) (by omega)
    have hl2 : R.length = x0.length := by simpa using hRl
    have hR : R[i]'(by omega) = S := by
      rw [take_get hRt (by omega) (by simpa using hi2)]
      simp
    refine ⟨K, R, hl2, ?_, ?_, hK, ?_⟩
    · rw [take_less hRt, List.take_set_of_le (by omega)]
    · refine Ev.step (f := fun k => (laws_markPointS.f k x0[i] z).bind fun bt => laws_markPointSS.l0 k (x0.set i bt.2) bt.1 ((i + 1 : Nat) : Int)) (fun k => ?_) (Ev.bind hM hMs)
      simp only [laws_markPointSS.l0]
      rw [if_pos (by omega), if_pos (by omega), rd_impl_PointSS _ _ hi2, step64 hi2 (by omega)]
      rfl
    · refine Ev.step (f := fun k => (laws_heldPointS.f k S z).bind fun t => if t < 0 then some (-1) else laws_heldPointSS.l0 k R t ((i + 1 : Nat) : Int)) (fun k => ?_) (Ev.bind hH ?_)
      · simp only [laws_heldPointSS.l0, rd_impl_PointSS R i (by omega), hR]
        rw [if_pos (by omega), if_pos (by omega), step64 (n := R.length) (by omega) (by omega)]
      · simp only [if_neg (show ¬ (z + 2 * (x0[i].length : Int) < 0) by omega)]
        exact hHs

/-! marksInt -/
def marksInt : Nat → Int → List Int
  | 0, _ => []
  | n + 1, c => c :: marksInt n (c + 1)
theorem marksInt_length : ∀ (n : Nat) (c : Int), (marksInt n c).length = n
  | 0, _ => rfl
  | n + 1, c => by rw [marksInt, List.length_cons, marksInt_length n]

/-! laws_markIntS -/
theorem laws_markIntS_l : ∀ (d i : Nat) (x0 : List Int) (c : Int), x0.length ≤ 4194304 → i + d = x0.length → 0 ≤ c → c + 1 * (d : Int) ≤ 1152921504606846976 →
    Ev (fun k => laws_markIntS.l0 k x0 c (i : Int)) (c + 1 * (d : Int), x0.take i ++ marksInt d c) := by
  intro d
  induction d with
  | zero =>
    intro i x0 c hn hi h0 h1
    refine ev_done (fun k => ?_)
    simp only [laws_markIntS.l0]
    rw [if_neg (by omega), List.take_of_length_le (by omega)]
    simp [marksInt]
  | succ d ih =>
    intro i x0 c hn hi h0 h1
    have hi2 : i < x0.length := by omega
    have e1 : wrap64 (c + 1) = c + 1 := by rw [w64 (by omega) (by omega)] <;> omega
    refine Ev.step (f := fun k => laws_markIntS.l0 k (x0.set i c) (c + 1) ((i + 1 : Nat) : Int)) (fun k => ?_) ?_
    · simp only [laws_markIntS.l0, Option.bind_some, Int.toNat_natCast, List.set_set, e1, step64 hi2 (show x0.length ≤ 4611686018427387904 by omega)]
      rw [if_pos (by omega), if_pos (by omega)]
    · have h := ih (i + 1) (x0.set i c) (c + 1) (by simpa using hn) (by simp; omega) (by omega) (by omega)
      rw [take_set_succ _ _ _ (by omega), List.append_assoc] at h
      have e : c + 1 * ((d + 1 : Nat) : Int) = c + 1 + 1 * (d : Int) := by omega
      rw [e]
      exact h
theorem laws_markIntS_v (x0 : List Int) (c : Int) (hn : x0.length ≤ 4194304) (h0 : 0 ≤ c) (h1 : c ≤ 1125899906842624) : Ev (fun k => laws_markIntS.f k x0 c) (c + 1 * (x0.length : Int), marksInt x0.length c) := by
  have h := laws_markIntS_l x0.length 0 x0 c hn (by omega) h0 (by omega)
  exact h

/-! marksPoint -/
def marksPoint : Nat → Int → List S46
  | 0, _ => []
  | n + 1, c => ⟨c, c + 1⟩ :: marksPoint n (c + 2)
theorem marksPoint_length : ∀ (n : Nat) (c : Int), (marksPoint n c).length = n
  | 0, _ => rfl
  | n + 1, c => by rw [marksPoint, List.length_cons, marksPoint_length n]

/-! laws_markPointS -/
theorem laws_markPointS_l : ∀ (d i : Nat) (x0 : List S46) (c : Int), x0.length ≤ 4194304 → i + d = x0.length → 0 ≤ c → c + 2 * (d : Int) ≤ 1152921504606846976 →
    Ev (fun k => laws_markPointS.l0 k x0 c (i : Int)) (c + 2 * (d : Int), x0.take i ++ marksPoint d c) := by
  intro d
  induction d with
  | zero =>
    intro i x0 c hn hi h0 h1
    refine ev_done (fun k => ?_)
    simp only [laws_markPointS.l0]
    rw [if_neg (by omega), List.take_of_length_le (by omega)]
    simp [marksPoint]
  | succ d ih =>
    intro i x0 c hn hi h0 h1
    have hi2 : i < x0.length := by omega
    have e1 : wrap64 (c + 1) = c + 1 := by rw [w64 (by omega) (by omega)] <;> omega
    have e2 : wrap64 (c + 1 + 1) = c + 2 := by rw [w64 (by omega) (by omega)] <;> omega
    have hs : ∀ v, rd_T46 (x0.set i v) (i : Int) = v := fun v => by rw [rd_impl_Point _ _ (by simpa using hi2)]; simp
    refine Ev.step (f := fun k => laws_markPointS.l0 k (x0.set i ⟨c, c + 1⟩) (c + 2) ((i + 1 : Nat) : Int)) (fun k => ?_) ?_
    · simp only [laws_markPointS.l0, Option.bind_some, Int.toNat_natCast, List.set_set, hs, e1, e2, step64 hi2 (show x0.length ≤ 4611686018427387904 by omega)]
      rw [if_pos (by omega), if_pos (by omega)]
    · have h := ih (i + 1) (x0.set i ⟨c, c + 1⟩) (c + 2) (by simpa using hn) (by simp; omega) (by omega) (by omega)
      rw [take_set_succ _ _ _ (by omega), List.append_assoc] at h
      have e : c + 2 * ((d + 1 : Nat) : Int) = c + 2 + 2 * (d : Int) := by omega
      rw [e]
      exact h
theorem laws_markPointS_v (x0 : List S46) (c : Int) (hn : x0.length ≤ 4194304) (h0 : 0 ≤ c) (h1 : c ≤ 1125899906842624) : Ev (fun k => laws_markPointS.f k x0 c) (c + 2 * (x0.length : Int), marksPoint x0.length c) := by
  have h := laws_markPointS_l x0.length 0 x0 c hn (by omega) h0 (by omega)
  exact h

/-! law_FnExactFlatOf -/
theorem markPath_v (l : List Int) (p : List Pt) (hl : l.length ≤ 1048576) (hp : p.length ≤ 1048576) : ∃ (K : Int) (a : List Int) (b : List Pt), 0 ≤ K ∧ Ev (fun k => laws_markPath.f k l p 1) (K, a, b) := by
  have h1 := laws_markIntS_v l 1 (by omega) (by omega) (by omega)
  have h2 := laws_markPointS_v p (1 + 1 * (l.length : Int)) (by omega) (by omega) (by omega)
  refine ⟨1 + 1 * (l.length : Int) + 2 * (p.length : Int), marksInt l.length 1, marksPoint p.length (1 + 1 * (l.length : Int)), by omega, ?_⟩
  unfold laws_markPath.f
  exact Ev.bind h1 (Ev.bind h2 (Ev.now _))
theorem pure : PureS := by
  intro l p hl hp
  obtain ⟨m, hz, _, hm⟩ := szPath_m l p 1048576 (by omega) (by omega) hl.1 hp.1
  refine Ev.rounds ?_
  simp only [laws_FnExactFlatOf.f]
  refine Ev.bind (ev_const hz) ?_
  by_cases h : m < 0
  · simp only [if_pos h]
    exact Ev.now true
  · simp only [if_neg h]
    obtain ⟨hl2, hp2⟩ := hm (by omega)
    have ht := toPath_v l p hl2 hp2
    obtain ⟨Q, k1, k2, q1, q2⟩ := FlatOf_b l (p.map convPoint)
    have qm : ∀ v ∈ Q, v.length ≤ 1048576 := fun v hv => by
      have := q2 v hv
      omega
    have he := eqSS_v Q (by omega) qm
    obtain ⟨K, a, b, hK, hM⟩ := markPath_v l (p.map convPoint) hl2 (by simpa using hp2)
    obtain ⟨K2, R2, _, _, hM2, hK2, hH2⟩ := markSS_l Q.length 0 Q 1 (by omega) (by omega) (fun j hj _ => qm _ (List.getElem_mem hj)) (by omega) (by omega)
    replace hM2 : Ev (fun k => laws_markPointSS.f k Q 1) (K2, R2) := hM2
    replace hH2 : Ev (fun k => laws_heldPointSS.f k R2 1) K2 := hH2
    refine Ev.bind ht (Ev.bind k1 (Ev.bind ht (Ev.bind k2 (Ev.bind he ?_))))
    simp only [if_true]
    refine Ev.bind ht (Ev.bind (eqPath_v l (p.map convPoint) hl2 (by simpa using hp2)) ?_)
    simp only [if_true]
    refine Ev.bind hM ?_
    simp only [if_neg (show ¬ K < 0 by omega)]
    refine Ev.bind he ?_
    simp only [Bool.not_true]
    refine Ev.step (fun k => rfl) ?_
    simp only [laws_FnExactFlatOf.j0, Bool.false_eq_true, if_false]
    refine Ev.bind hM2 (Ev.bind hH2 ?_)
    simp only [if_neg (show ¬ K2 < 0 by omega), if_true]
    refine Ev.bind ht (Ev.bind k2 (Ev.bind he ?_))
    simp only [if_true]
    refine Ev.bind hH2 ?_
    simp only [if_neg (show ¬ K2 < 0 by omega), if_true]
    exact Ev.now true

end Go.Proofs.Ytdpnimngndemiaa.QFnExactFlatOf
