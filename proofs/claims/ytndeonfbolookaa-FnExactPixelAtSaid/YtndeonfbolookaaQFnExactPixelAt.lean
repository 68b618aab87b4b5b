/- The pure statement of the law FnExactPixelAt, for every input: what the printed functions compute makes the law answer true. No conditions beyond what the row reads. -/
import Derived.Test.YtndeonfbolookaaTFnExactPixelAt
namespace Go.Proofs.Ytndeonfbolookaa.QFnExactPixelAt
open Go.RowKit Go.Proofs.Ytndeonfbolookaa.MFnExactPixelAt Go.Proofs.Ytndeonfbolookaa.TFnExactPixelAt Go.Proofs.YtndeonfbolookaaW.PrintWords Go.Proofs.YtndeonfbolookaaW.PrintLast
set_option linter.unusedVariables false
set_option linter.unusedSimpArgs false

/-! base -/
theorem w64 {x : Int} (h1 : -9223372036854775808 ≤ x) (h2 : x ≤ 9223372036854775807) : wrap64 x = x := by
  unfold wrap64
  omega

theorem wf64 {x : Int} (h : (Lit.int .i64 x).wf = true) : -9223372036854775808 ≤ x ∧ x ≤ 9223372036854775807 := by
  have h2 : (decide (IntKind.i64.min ≤ x) && decide (x ≤ IntKind.i64.max)) = true := h
  rw [Bool.and_eq_true, decide_eq_true_eq, decide_eq_true_eq] at h2
  exact ⟨h2.1, h2.2⟩

theorem take_set_succ {α : Type} (xs : List α) (i : Nat) (v : α) (h : i < xs.length) : (xs.set i v).take (i + 1) = xs.take i ++ [v] := by
  rw [List.take_succ_eq_append_getElem (by simpa using h), List.take_set_of_le (Nat.le_refl i), List.getElem_set_self]

theorem step64 {i n : Nat} (h : i < n) (hn : n ≤ 4611686018427387904) : wrap64 ((i : Int) + 1) = ((i + 1 : Nat) : Int) := by
  rw [w64 (by omega) (by omega)]
  omega

theorem ev_done {α : Type} {g : Nat → Option α} {r : α} (h : ∀ k, g (k + 1) = some r) : Ev g r := Ev.step (f := fun _ => some r) h (Ev.now r)

theorem ev_const {α : Type} {o : Option α} {r : α} (h : o = some r) : Ev (fun _ => o) r := by
  subst h
  exact Ev.now r

/-! spec_l01In -/
theorem spec_l01In_v (a b c : Int) : spec_l01In.f a b c = some (decide (b ≤ a ∧ a ≤ c)) := by
  unfold spec_l01In.f
  by_cases h : a ≥ b
  · rw [if_pos h]
    simp [h]
  · rw [if_neg h]
    simp
    omega

/-! impl_inRange -/
theorem impl_inRange_v (a b c : Int) : impl_inRange.f a b c = some (decide (b ≤ a ∧ a ≤ c)) := by
  unfold impl_inRange.f
  by_cases h : a ≥ b
  · rw [if_pos h]
    simp [h]
  · rw [if_neg h]
    simp
    omega

/-! spec_ColorOk -/
theorem spec_ColorOk_v (a b c d : Int) : spec_ColorOk.f a b c d = some (decide ((0 ≤ a ∧ a ≤ 255) ∧ (0 ≤ b ∧ b ≤ 255) ∧ (0 ≤ c ∧ c ≤ 255) ∧ (0 ≤ d ∧ d ≤ 255))) := by
  unfold spec_ColorOk.f
  simp only [spec_l01In_v, Option.bind_some, decide_eq_true_eq]
  repeat' split
  all_goals first | (refine congrArg some (decide_eq_decide.mpr ?_); omega) | (refine congrArg some (Eq.symm (decide_eq_false ?_)); omega)

/-! spec_LaidOk -/
def laidOkP (a b c d : Int) : Prop := ((0 ≤ a ∧ a ≤ 255) ∧ (0 ≤ b ∧ b ≤ 255) ∧ (0 ≤ c ∧ c ≤ 255) ∧ (0 ≤ d ∧ d ≤ 255)) ∧ a ≤ d ∧ b ≤ d ∧ c ≤ d
instance (a b c d : Int) : Decidable (laidOkP a b c d) := by unfold laidOkP; infer_instance
theorem spec_LaidOk_v (a b c d : Int) : spec_LaidOk.f a b c d = some (decide (laidOkP a b c d)) := by
  unfold spec_LaidOk.f laidOkP
  simp only [spec_ColorOk_v, Option.bind_some, decide_eq_true_eq]
  repeat' split
  all_goals first | (refine congrArg some (decide_eq_decide.mpr ?_); omega) | (refine congrArg some (Eq.symm (decide_eq_false ?_)); omega)

/-! impl_isByte -/
theorem impl_isByte_v (a : Int) : impl_isByte.f a = some (decide (0 ≤ a ∧ a ≤ 255)) := by
  unfold impl_isByte.f
  simp only [impl_inRange_v, Option.bind_some]

/-! impl_ColorOk -/
theorem impl_ColorOk_v (a b c d : Int) : impl_ColorOk.f a b c d = some (decide ((0 ≤ a ∧ a ≤ 255) ∧ (0 ≤ b ∧ b ≤ 255) ∧ (0 ≤ c ∧ c ≤ 255) ∧ (0 ≤ d ∧ d ≤ 255))) := by
  unfold impl_ColorOk.f
  simp only [impl_isByte_v, Option.bind_some, decide_eq_true_eq]
  repeat' split
  all_goals first | (refine congrArg some (decide_eq_decide.mpr ?_); omega) | (refine congrArg some (Eq.symm (decide_eq_false ?_)); omega)

/-! impl_LaidOk -/
theorem impl_LaidOk_v (a b c d : Int) : impl_LaidOk.f a b c d = some (decide (laidOkP a b c d)) := by
  unfold impl_LaidOk.f laidOkP
  simp only [impl_ColorOk_v, Option.bind_some, decide_eq_true_eq]
  repeat' split
  all_goals first | (refine congrArg some (decide_eq_decide.mpr ?_); omega) | (refine congrArg some (Eq.symm (decide_eq_false ?_)); omega)

/-! rd_impl_Color -/
theorem rd_impl_Color (xs : List S27) (i : Nat) (h : i < xs.length) : rd_T27 xs (i : Int) = xs[i] := by
  unfold rd_T27
  simp [h]

/-! SurfaceOk -/
def allLaid (l : List S27) : Bool := l.all (fun x => decide (laidOkP x.f0 x.f1 x.f2 x.f3))
def surfOkB (a b : Int) (l : List S27) : Bool := decide ((1 ≤ a ∧ a ≤ 12) ∧ (1 ≤ b ∧ b ≤ 12) ∧ (l.length : Int) = a * b) && allLaid l
theorem spec_SurfaceOk_l (a b : Int) (l : List S27) (hn : l.length ≤ 1048576) : ∀ (m i : Nat), i + m = l.length → Ev (fun k => spec_SurfaceOk.l0 k (i : Int) a b l) (allLaid (l.drop i)) := by
  intro m
  induction m with
  | zero =>
    intro i hi
    refine ev_done (fun k => ?_)
    simp only [spec_SurfaceOk.l0]
    rw [if_neg (by omega), List.drop_of_length_le (by omega)]
    rfl
  | succ m ih =>
    intro i hi
    have hi2 : i < l.length := by omega
    rw [List.drop_eq_getElem_cons hi2, allLaid, List.all_cons]
    by_cases hx : laidOkP l[i].f0 l[i].f1 l[i].f2 l[i].f3
    · rw [decide_eq_true hx, Bool.true_and]
      refine Ev.step (fun k => ?_) (ih (i + 1) (by omega))
      simp only [spec_SurfaceOk.l0, spec_LaidOk_v, Option.bind_some]
      rw [if_pos (by omega), if_pos (by omega), rd_impl_Color _ _ hi2, step64 hi2 (by omega), if_pos (decide_eq_true hx)]
    · rw [decide_eq_false hx, Bool.false_and]
      refine ev_done (fun k => ?_)
      simp only [spec_SurfaceOk.l0, spec_LaidOk_v, Option.bind_some]
      rw [if_pos (by omega), if_pos (by omega), rd_impl_Color _ _ hi2, if_neg (by simpa using hx)]
theorem impl_SurfaceOk_l (l : List S27) (hn : l.length ≤ 1048576) : ∀ (m i : Nat), i + m = l.length → Ev (fun k => impl_SurfaceOk.l0 k l (l.length : Int) (i : Int)) (allLaid (l.drop i)) := by
  intro m
  induction m with
  | zero =>
    intro i hi
    refine ev_done (fun k => ?_)
    simp only [impl_SurfaceOk.l0]
    rw [if_neg (by omega), List.drop_of_length_le (by omega)]
    rfl
  | succ m ih =>
    intro i hi
    have hi2 : i < l.length := by omega
    rw [List.drop_eq_getElem_cons hi2, allLaid, List.all_cons]
    by_cases hx : laidOkP l[i].f0 l[i].f1 l[i].f2 l[i].f3
    · rw [decide_eq_true hx, Bool.true_and]
      refine Ev.step (fun k => ?_) (ih (i + 1) (by omega))
      simp only [impl_SurfaceOk.l0, impl_LaidOk_v, Option.bind_some]
      rw [if_pos (by omega), if_pos (by omega), if_pos (by omega), rd_impl_Color _ _ hi2, step64 hi2 (by omega), if_pos (decide_eq_true hx)]
    · rw [decide_eq_false hx, Bool.false_and]
      refine ev_done (fun k => ?_)
      simp only [impl_SurfaceOk.l0, impl_LaidOk_v, Option.bind_some]
      rw [if_pos (by omega), if_pos (by omega), if_pos (by omega), rd_impl_Color _ _ hi2, if_neg (by simpa using hx)]
theorem side_w {a b : Int} (ha : 1 ≤ a ∧ a ≤ 12) (hb : 1 ≤ b ∧ b ≤ 12) : wrap64 (a * b) = a * b ∧ 1 ≤ a * b ∧ a * b ≤ 144 := by
  have e1 : 1 * 1 ≤ a * b := Int.mul_le_mul (by omega) (by omega) (by omega) (by omega)
  have e2 : a * b ≤ 12 * 12 := Int.mul_le_mul (by omega) (by omega) (by omega) (by omega)
  exact ⟨w64 (by omega) (by omega), by omega, by omega⟩
theorem spec_SurfaceOk_v (a b : Int) (l : List S27) (hn : l.length ≤ 1048576) : Ev (fun k => spec_SurfaceOk.f k a b l) (surfOkB a b l) := by
  unfold spec_SurfaceOk.f surfOkB
  simp only [spec_l01In_v, Option.bind_some]
  by_cases ha : 1 ≤ a ∧ a ≤ 12
  · simp only [decide_eq_true ha, if_true]
    by_cases hb : 1 ≤ b ∧ b ≤ 12
    · simp only [decide_eq_true hb, if_true, (side_w ha hb).1]
      by_cases hl : (l.length : Int) = a * b
      · rw [decide_eq_true ⟨ha, hb, hl⟩, Bool.true_and]
        refine Ev.step (fun k => ?_) (spec_SurfaceOk_l a b l hn l.length 0 (by omega))
        simp only [spec_SurfaceOk.j0]
        rw [if_neg (by simp [hl])]
        rfl
      · rw [decide_eq_false (fun z => hl z.2.2), Bool.false_and]
        refine ev_done (fun k => ?_)
        simp only [spec_SurfaceOk.j0]
        rw [if_pos (by simpa using hl)]
    · rw [decide_eq_false (p := ((1 ≤ a ∧ a ≤ 12) ∧ (1 ≤ b ∧ b ≤ 12) ∧ (l.length : Int) = a * b)) (fun z => hb z.2.1), Bool.false_and]
      simp only [decide_eq_false hb, Bool.false_eq_true, if_false]
      refine ev_done (fun k => ?_)
      simp only [spec_SurfaceOk.j0, if_true]
  · rw [decide_eq_false (p := ((1 ≤ a ∧ a ≤ 12) ∧ (1 ≤ b ∧ b ≤ 12) ∧ (l.length : Int) = a * b)) (fun z => ha z.1), Bool.false_and]
    simp only [decide_eq_false ha, Bool.false_eq_true, if_false]
    refine ev_done (fun k => ?_)
    simp only [spec_SurfaceOk.j0, if_true]
theorem impl_SurfaceOk_v (a b : Int) (l : List S27) (hn : l.length ≤ 1048576) : Ev (fun k => impl_SurfaceOk.f k a b l) (surfOkB a b l) := by
  unfold impl_SurfaceOk.f surfOkB impl_isSide.f
  simp only [impl_inRange_v, Option.bind_some]
  by_cases ha : 1 ≤ a ∧ a ≤ 12
  · simp only [decide_eq_true ha, if_true]
    by_cases hb : 1 ≤ b ∧ b ≤ 12
    · simp only [decide_eq_true hb, if_true, (side_w ha hb).1]
      by_cases hl : (l.length : Int) = a * b
      · rw [decide_eq_true ⟨ha, hb, hl⟩, Bool.true_and]
        refine Ev.step (fun k => ?_) (impl_SurfaceOk_l l hn l.length 0 (by omega))
        simp only [impl_SurfaceOk.j0]
        rw [if_neg (by simp [hl])]
        rfl
      · rw [decide_eq_false (fun z => hl z.2.2), Bool.false_and]
        refine ev_done (fun k => ?_)
        simp only [impl_SurfaceOk.j0]
        rw [if_pos (by simpa using hl)]
    · rw [decide_eq_false (p := ((1 ≤ a ∧ a ≤ 12) ∧ (1 ≤ b ∧ b ≤ 12) ∧ (l.length : Int) = a * b)) (fun z => hb z.2.1), Bool.false_and]
      simp only [decide_eq_false hb, Bool.false_eq_true, if_false]
      refine ev_done (fun k => ?_)
      simp only [impl_SurfaceOk.j0, if_true]
  · rw [decide_eq_false (p := ((1 ≤ a ∧ a ≤ 12) ∧ (1 ≤ b ∧ b ≤ 12) ∧ (l.length : Int) = a * b)) (fun z => ha z.1), Bool.false_and]
    simp only [decide_eq_false ha, Bool.false_eq_true, if_false]
    refine ev_done (fun k => ?_)
    simp only [impl_SurfaceOk.j0, if_true]

/-! laws_szColorS -/
theorem laws_szColorS_v (l : List S36) (a : Int) (h0 : 0 ≤ a) (h1 : a ≤ 1048576) (hl : l.length ≤ maxLen) : laws_szColorS.f l a = some (if (l.length : Int) ≤ a then a - (l.length : Int) else -1) := by
  unfold maxLen at hl
  have hw : wrap64 (a - (l.length : Int)) = a - (l.length : Int) := w64 (by omega) (by omega)
  unfold laws_szColorS.f
  rw [hw]
  by_cases h : (l.length : Int) ≤ a
  · rw [if_neg (by omega), if_pos h]
  · rw [if_pos (by omega), if_neg h]

/-! rd_laws_Color -/
theorem rd_laws_Color (xs : List S36) (i : Nat) (h : i < xs.length) : rd_T36 xs (i : Int) = xs[i] := by
  unfold rd_T36
  simp [h]

/-! laws_toColorS -/
def convColor (x : S36) : S27 := ⟨x.f0, x.f1, x.f2, x.f3⟩
theorem laws_toColorS_l (x0 : List S36) (hn : x0.length ≤ 1048576) : ∀ (d i : Nat) (x3 : List S27), x3.length = x0.length → i + d = x0.length →
    Ev (fun k => laws_toColorS.l0 k x0 x3 (i : Int)) (x3.take i ++ (x0.drop i).map convColor) := by
  intro d
  induction d with
  | zero =>
    intro i x3 hl hi
    refine ev_done (fun k => ?_)
    simp only [laws_toColorS.l0]
    rw [if_neg (by omega), List.take_of_length_le (by omega), List.drop_of_length_le (by omega)]
    simp
  | succ d ih =>
    intro i x3 hl hi
    have hi2 : i < x0.length := by omega
    refine Ev.step (f := fun k => laws_toColorS.l0 k x0 (x3.set i (convColor x0[i])) ((i + 1 : Nat) : Int)) (fun k => ?_) ?_
    · simp only [laws_toColorS.l0, laws_toColor.f, Option.bind_some]
      rw [if_pos (by omega), if_pos (by omega), step64 hi2 (by omega), rd_laws_Color _ _ hi2]
      rw [if_pos (by omega)]
      rfl
    · have h := ih (i + 1) (x3.set i (convColor x0[i])) (by simpa using hl) (by omega)
      rw [take_set_succ _ _ _ (by omega)] at h
      rw [List.drop_eq_getElem_cons hi2]
      rw [List.append_assoc] at h
      exact h
theorem laws_toColorS_v (x0 : List S36) (hn : x0.length ≤ 1048576) : Ev (fun k => laws_toColorS.f k x0) (x0.map convColor) := by
  have h := laws_toColorS_l x0 hn x0.length 0 (List.replicate x0.length z27) (by simp) (by omega)
  refine Ev.congr (fun k => ?_) (by simpa using h)
  unfold laws_toColorS.f
  rw [if_pos (by omega), if_pos (by omega)]
  simp

/-! laws_eqColorS -/
theorem laws_eqColorS_l (x0 : List S27) (hn : x0.length ≤ 1048576) : ∀ (d i : Nat), i + d = x0.length → Ev (fun k => laws_eqColorS.l0 k x0 x0 (i : Int)) true := by
  intro d
  induction d with
  | zero =>
    intro i hi
    refine ev_done (fun k => ?_)
    simp only [laws_eqColorS.l0]
    rw [if_neg (by omega)]
  | succ d ih =>
    intro i hi
    have hi2 : i < x0.length := by omega
    refine Ev.step (fun k => ?_) (ih (i + 1) (by omega))
    simp only [laws_eqColorS.l0, laws_eqColor.f]
    rw [if_pos (by omega), if_pos (by omega), if_pos (by omega), step64 hi2 (by omega)]
    simp
theorem laws_eqColorS_v (x0 : List S27) (hn : x0.length ≤ 1048576) : Ev (fun k => laws_eqColorS.f k x0 x0) true := by
  refine Ev.congr (fun k => ?_) (laws_eqColorS_l x0 hn x0.length 0 (by omega))
  unfold laws_eqColorS.f
  rw [if_pos rfl]
  rfl

/-! Surf_lib -/
theorem laws_szSurface_v (a b : Int) (l : List S36) (n : Int) (h0 : 0 ≤ n) (h1 : n ≤ 1048576) (hl : l.length ≤ maxLen) : laws_szSurface.f a b l n = some (if (l.length : Int) ≤ n then n - (l.length : Int) else -1) := by
  unfold laws_szSurface.f
  rw [laws_szColorS_v l n h0 h1 hl, Option.bind_some]
  by_cases h : (l.length : Int) ≤ n
  · rw [if_pos h, if_neg (by omega)]
  · rw [if_neg h, if_pos (by omega)]
theorem laws_toSurface_v (a b : Int) (l : List S36) (hn : l.length ≤ 1048576) : Ev (fun k => laws_toSurface.f k a b l) (a, b, l.map convColor) := by
  unfold laws_toSurface.f
  exact Ev.bind (laws_toColorS_v l hn) (Ev.now _)
theorem laws_eqSurface_v (a b : Int) (l : List S27) (hn : l.length ≤ 1048576) : Ev (fun k => laws_eqSurface.f k a b l a b l) true := by
  unfold laws_eqSurface.f
  simp only [if_true]
  refine Ev.bind (laws_eqColorS_v l hn) ?_
  simp only [if_true]
  exact Ev.now true

/-! law_FnExactPixelAt -/
theorem PixelAt_v (a b : Int) (l : List S27) (x y : Int) (hn : l.length ≤ 1048576) (wa : -9223372036854775808 ≤ a ∧ a ≤ 9223372036854775807) (wb : -9223372036854775808 ≤ b ∧ b ≤ 9223372036854775807) :
    ∃ r, Ev (fun k => spec_PixelAt.f k a b l x y) r ∧ Ev (fun k => impl_PixelAt.f k a b l x y) r := by
  have hs := spec_SurfaceOk_v a b l hn
  have hi := impl_SurfaceOk_v a b l hn
  unfold spec_PixelAt.f impl_PixelAt.f
  simp only [spec_l01In_v, impl_inRange_v, Option.bind_some]
  cases hb : surfOkB a b l with
  | false =>
    rw [hb] at hs hi
    refine ⟨(0, 0, 0, 0), Ev.bind hs (by simp only [Bool.false_eq_true, if_false]; exact Ev.now _), ?_⟩
    by_cases h1 : 0 ≤ x ∧ x ≤ wrap64 (a - 1)
    · by_cases h2 : 0 ≤ y ∧ y ≤ wrap64 (b - 1)
      · simp only [decide_eq_true h1, decide_eq_true h2, if_true]
        exact Ev.bind hi (by simp only [Bool.false_eq_true, if_false]; exact Ev.now _)
      · simp only [decide_eq_true h1, decide_eq_false h2, if_true, Bool.false_eq_true, if_false]
        exact Ev.now _
    · simp only [decide_eq_false h1, Bool.false_eq_true, if_false]
      exact Ev.now _
  | true =>
    rw [hb] at hs hi
    by_cases h1 : 0 ≤ x ∧ x ≤ wrap64 (a - 1)
    · by_cases h2 : 0 ≤ y ∧ y ≤ wrap64 (b - 1)
      · unfold surfOkB at hb
        rw [Bool.and_eq_true, decide_eq_true_eq] at hb
        obtain ⟨⟨ha, hb2, hl⟩, _⟩ := hb
        have e1 : wrap64 (a - 1) = a - 1 := w64 (by omega) (by omega)
        have e2 : wrap64 (b - 1) = b - 1 := w64 (by omega) (by omega)
        rw [e1] at h1
        rw [e2] at h2
        have m1 : y * a ≤ 11 * 12 := Int.mul_le_mul (by omega) (by omega) (by omega) (by omega)
        have m0 : 0 ≤ y * a := Int.mul_nonneg (by omega) (by omega)
        have m2 : y * a ≤ (b - 1) * a := Int.mul_le_mul_of_nonneg_right (by omega) (by omega)
        have m3 : (b - 1) * a = a * b - a := by rw [Int.sub_mul, Int.mul_comm b a, Int.one_mul]
        have e3 : wrap64 (wrap64 (y * a) + x) = y * a + x := by rw [w64 (x := y * a) (by omega) (by omega), w64 (by omega) (by omega)]
        have e4 : 0 ≤ y * a + x := by omega
        have e5 : y * a + x < (l.length : Int) := by omega
        refine ⟨((rd_T27 l (y * a + x)).f0, (rd_T27 l (y * a + x)).f1, (rd_T27 l (y * a + x)).f2, (rd_T27 l (y * a + x)).f3), ?_, ?_⟩
        · refine Ev.bind hs ?_
          simp only [e1, e2, e3, decide_eq_true h1, decide_eq_true h2, if_true, if_pos e4, if_pos e5]
          exact Ev.now _
        · simp only [e1, e2, e3, decide_eq_true h1, decide_eq_true h2, if_true]
          refine Ev.bind hi ?_
          simp only [if_true, if_pos e4, if_pos e5]
          exact Ev.now _
      · refine ⟨(0, 0, 0, 0), Ev.bind hs ?_, ?_⟩
        · simp only [decide_eq_true h1, decide_eq_false h2, if_true, Bool.false_eq_true, if_false]
          exact Ev.now _
        · simp only [decide_eq_true h1, decide_eq_false h2, if_true, Bool.false_eq_true, if_false]
          exact Ev.now _
    · refine ⟨(0, 0, 0, 0), Ev.bind hs ?_, ?_⟩
      · simp only [decide_eq_false h1, if_true, Bool.false_eq_true, if_false]
        exact Ev.now _
      · simp only [decide_eq_false h1, if_true, Bool.false_eq_true, if_false]
        exact Ev.now _
theorem pure : PureS := by
  intro a b l x y wa wb hl _ _
  have hz := laws_szSurface_v a b l 1048576 (by omega) (by omega) hl.1
  by_cases h : (l.length : Int) ≤ 1048576
  · rw [if_pos h] at hz
    have hn : l.length ≤ 1048576 := by omega
    have hn2 : (l.map convColor).length ≤ 1048576 := by simpa using hn
    have ht := laws_toSurface_v a b l hn
    obtain ⟨⟨p, q, r, s⟩, h1, h2⟩ := PixelAt_v a b (l.map convColor) x y hn2 (wf64 wa) (wf64 wb)
    refine Ev.rounds ?_
    simp only [laws_FnExactPixelAt.f, hz, Option.bind_some]
    simp only [if_neg (show ¬ (1048576 - (l.length : Int) < 0) by omega)]
    refine Ev.bind ht (Ev.bind h1 (Ev.bind ht (Ev.bind h2 ?_)))
    simp only [laws_eqColor.f, if_true, Option.bind_some]
    refine Ev.bind ht (Ev.bind (laws_eqSurface_v a b _ hn2) ?_)
    simp only [if_true]
    exact Ev.now true
  · rw [if_neg h] at hz
    exact ⟨0, by simp [laws_FnExactPixelAt.f, hz]⟩

end Go.Proofs.Ytndeonfbolookaa.QFnExactPixelAt
