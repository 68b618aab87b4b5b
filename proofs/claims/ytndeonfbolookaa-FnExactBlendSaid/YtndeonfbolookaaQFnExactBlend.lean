/- The pure statement of the law FnExactBlend, for every input: what the printed functions compute makes the law answer true. No conditions beyond what the row reads. -/
import Derived.Test.YtndeonfbolookaaTFnExactBlend
namespace Go.Proofs.Ytndeonfbolookaa.QFnExactBlend
open Go.RowKit Go.Proofs.Ytndeonfbolookaa.MFnExactBlend Go.Proofs.Ytndeonfbolookaa.TFnExactBlend Go.Proofs.YtndeonfbolookaaW.PrintWords Go.Proofs.YtndeonfbolookaaW.PrintLast
set_option linter.unusedVariables false
set_option linter.unusedSimpArgs false

/-! base -/
theorem w64 {x : Int} (h1 : -9223372036854775808 ≤ x) (h2 : x ≤ 9223372036854775807) : wrap64 x = x := by
  unfold wrap64
  omega

theorem wf64 {x : Int} (h : (Lit.int .i64 x).wf = true) : -9223372036854775808 ≤ x ∧ x ≤ 9223372036854775807 := by
  have h2 : (decide (IntKind.i64.min ≤ x) && decide (x ≤ IntKind.i64.max)) = true := h
  rw [Bool.and_eq_true, decide_eq_true_eq, decide_eq_true_eq] at h2
  exact ⟨h2.1, h2.2⟩

theorem take_set_succ {α : Type} (xs : List α) (i : Nat) (v : α) (h : i < xs.length) : (xs.set i v).take (i + 1) = xs.take i ++ [v] := by
  rw [List.take_succ_eq_append_getElem (by simpa using h), List.take_set_of_le (Nat.le_refl i), List.getElem_set_self]

theorem step64 {i n : Nat} (h : i < n) (hn : n ≤ 4611686018427387904) : wrap64 ((i : Int) + 1) = ((i + 1 : Nat) : Int) := by
  rw [w64 (by omega) (by omega)]
  omega

theorem ev_done {α : Type} {g : Nat → Option α} {r : α} (h : ∀ k, g (k + 1) = some r) : Ev g r := Ev.step (f := fun _ => some r) h (Ev.now r)

theorem ev_const {α : Type} {o : Option α} {r : α} (h : o = some r) : Ev (fun _ => o) r := by
  subst h
  exact Ev.now r

/-! spec_l01In -/
theorem spec_l01In_v (a b c : Int) : spec_l01In.f a b c = some (decide (b ≤ a ∧ a ≤ c)) := by
  unfold spec_l01In.f
  by_cases h : a ≥ b
  · rw [if_pos h]
    simp [h]
  · rw [if_neg h]
    simp
    omega

/-! spec_ColorOk -/
theorem spec_ColorOk_v (a b c d : Int) : spec_ColorOk.f a b c d = some (decide ((0 ≤ a ∧ a ≤ 255) ∧ (0 ≤ b ∧ b ≤ 255) ∧ (0 ≤ c ∧ c ≤ 255) ∧ (0 ≤ d ∧ d ≤ 255))) := by
  unfold spec_ColorOk.f
  simp only [spec_l01In_v, Option.bind_some, decide_eq_true_eq]
  repeat' split
  all_goals first | (refine congrArg some (decide_eq_decide.mpr ?_); omega) | (refine congrArg some (Eq.symm (decide_eq_false ?_)); omega)

/-! spec_LaidOk -/
def laidOkP (a b c d : Int) : Prop := ((0 ≤ a ∧ a ≤ 255) ∧ (0 ≤ b ∧ b ≤ 255) ∧ (0 ≤ c ∧ c ≤ 255) ∧ (0 ≤ d ∧ d ≤ 255)) ∧ a ≤ d ∧ b ≤ d ∧ c ≤ d
instance (a b c d : Int) : Decidable (laidOkP a b c d) := by unfold laidOkP; infer_instance
theorem spec_LaidOk_v (a b c d : Int) : spec_LaidOk.f a b c d = some (decide (laidOkP a b c d)) := by
  unfold spec_LaidOk.f laidOkP
  simp only [spec_ColorOk_v, Option.bind_some, decide_eq_true_eq]
  repeat' split
  all_goals first | (refine congrArg some (decide_eq_decide.mpr ?_); omega) | (refine congrArg some (Eq.symm (decide_eq_false ?_)); omega)

/-! impl_inRange -/
theorem impl_inRange_v (a b c : Int) : impl_inRange.f a b c = some (decide (b ≤ a ∧ a ≤ c)) := by
  unfold impl_inRange.f
  by_cases h : a ≥ b
  · rw [if_pos h]
    simp [h]
  · rw [if_neg h]
    simp
    omega

/-! impl_isByte -/
theorem impl_isByte_v (a : Int) : impl_isByte.f a = some (decide (0 ≤ a ∧ a ≤ 255)) := by
  unfold impl_isByte.f
  simp only [impl_inRange_v, Option.bind_some]

/-! impl_ColorOk -/
theorem impl_ColorOk_v (a b c d : Int) : impl_ColorOk.f a b c d = some (decide ((0 ≤ a ∧ a ≤ 255) ∧ (0 ≤ b ∧ b ≤ 255) ∧ (0 ≤ c ∧ c ≤ 255) ∧ (0 ≤ d ∧ d ≤ 255))) := by
  unfold impl_ColorOk.f
  simp only [impl_isByte_v, Option.bind_some, decide_eq_true_eq]
  repeat' split
  all_goals first | (refine congrArg some (decide_eq_decide.mpr ?_); omega) | (refine congrArg some (Eq.symm (decide_eq_false ?_)); omega)

/-! impl_LaidOk -/
theorem impl_LaidOk_v (a b c d : Int) : impl_LaidOk.f a b c d = some (decide (laidOkP a b c d)) := by
  unfold impl_LaidOk.f laidOkP
  simp only [impl_ColorOk_v, Option.bind_some, decide_eq_true_eq]
  repeat' split
  all_goals first | (refine congrArg some (decide_eq_decide.mpr ?_); omega) | (refine congrArg some (Eq.symm (decide_eq_false ?_)); omega)

/-! spec_FloorDiv -/
theorem spec_FloorDiv_tot (a b : Int) : ∃ q, spec_FloorDiv.f a b = some q := by
  unfold spec_FloorDiv.f
  by_cases h : b < 1
  · exact ⟨0, by rw [if_pos h]⟩
  · rw [if_neg h, if_neg (by omega)]
    split <;> exact ⟨_, rfl⟩
theorem spec_FloorDiv_v {a b : Int} (ha : -9223372036854775808 ≤ a) (ha2 : a ≤ 9223372036854775807) (hb : 1 ≤ b) (hb2 : b ≤ 9223372036854775807) : spec_FloorDiv.f a b = some (a / b) := by
  have hq : -9223372036854775808 ≤ a / b ∧ a / b ≤ 9223372036854775807 := by
    refine ⟨(Int.le_ediv_iff_mul_le (by omega)).mpr ?_, ?_⟩
    · have : 9223372036854775808 * 1 ≤ 9223372036854775808 * b := Int.mul_le_mul_of_nonneg_left hb (by omega)
      rw [Int.neg_mul]
      omega
    · rcases Int.le_total 0 a with h | h
      · exact Int.le_trans (Int.ediv_le_self b h) ha2
      · have : a / b ≤ 0 := Int.ediv_le_of_le_mul (by omega) (by omega)
        omega
  have hm := Int.emod_nonneg a (show b ≠ 0 by omega)
  have hml := Int.emod_lt_of_pos a (show 0 < b by omega)
  have hd := Int.mul_ediv_add_emod a b
  unfold spec_FloorDiv.f
  rw [if_neg (by omega), if_neg (by omega)]
  by_cases h0 : 0 ≤ a
  · rw [Int.tmod_eq_emod_of_nonneg h0, if_neg (by omega), Int.tdiv_eq_ediv_of_nonneg h0, w64 hq.1 hq.2]
  · have e1 : Int.tdiv a b = if a % b = 0 then a / b else a / b + 1 := by
      rw [Int.tdiv_eq_ediv]
      have hs : b.sign = 1 := Int.sign_eq_one_of_pos (by omega)
      by_cases hz : a % b = 0
      · rw [if_pos hz, if_pos (.inr (Int.dvd_of_emod_eq_zero hz))]
        omega
      · rw [if_neg hz, if_neg (by
          rintro (h | h)
          · omega
          · exact hz (Int.emod_eq_zero_of_dvd h)), hs]
    have e2 : Int.tmod a b = a - b * Int.tdiv a b := by have := Int.mul_tdiv_add_tmod a b; omega
    by_cases hz : a % b = 0
    · rw [if_pos hz] at e1
      rw [if_neg (by rw [e2, e1]; omega), e1, w64 hq.1 hq.2]
    · rw [if_neg hz] at e1
      have hlt : a / b + 1 ≤ 0 := by
        have : a / b < 0 := Int.ediv_neg_of_neg_of_pos (by omega) (by omega)
        omega
      rw [if_pos (by rw [e2, e1, Int.mul_add]; omega), e1, w64 (x := a / b + 1) (by omega) (by omega), w64 (by omega) (by omega)]
      congr 1
      omega

/-! spec_RoundDiv -/
theorem spec_RoundDiv_tot (a b : Int) : ∃ q, spec_RoundDiv.f a b = some q := by
  obtain ⟨q, hq⟩ := spec_FloorDiv_tot a b
  unfold spec_RoundDiv.f
  rw [hq, Option.bind_some]
  split
  · exact ⟨_, rfl⟩
  · split <;> exact ⟨_, rfl⟩

/-! impl_FloorDiv -/
theorem impl_FloorDiv_s (a b : Int) : impl_FloorDiv.f a b = spec_FloorDiv.f a b := rfl

/-! impl_RoundDiv -/
theorem impl_RoundDiv_s (a b : Int) : impl_RoundDiv.f a b = spec_RoundDiv.f a b := rfl

/-! Clamp -/
def clampI (x low high : Int) : Int := if x < low then low else if x > high then high else x
theorem spec_Clamp_v (x low high : Int) : spec_Clamp.f x low high = some (clampI x low high) := by
  unfold spec_Clamp.f clampI
  split
  · rfl
  · split <;> rfl
theorem impl_Clamp_v (x low high : Int) : impl_Clamp.f x low high = some (clampI x low high) := by
  unfold impl_Clamp.f clampI
  split
  · rfl
  · split <;> rfl

/-! Times255 -/
theorem spec_Times255_tot (a b : Int) : ∃ q, spec_Times255.f a b = some q := by
  unfold spec_Times255.f
  simp only [spec_Clamp_v, Option.bind_some]
  obtain ⟨q, hq⟩ := spec_RoundDiv_tot (wrap64 (clampI a 0 255 * clampI b 0 255)) 255
  exact ⟨q, by rw [hq]; rfl⟩
theorem impl_Times255_s (a b : Int) : impl_Times255.f a b = spec_Times255.f a b := by
  unfold impl_Times255.f spec_Times255.f
  simp only [spec_Clamp_v, impl_Clamp_v, Option.bind_some, impl_RoundDiv_s]

/-! Blend -/
theorem mn255 (x : Int) : (if x > 255 then some (255 : Int) else some x) = some (mn x 255) := by
  unfold mn
  split <;> first | rfl | (split <;> first | rfl | omega)
theorem l13_tot (m s d sa da : Int) : ∃ r, spec_l13Part.f m s d sa da = some r := by
  obtain ⟨t, ht⟩ := spec_Times255_tot d (wrap64 (255 - sa))
  obtain ⟨u, hu⟩ := spec_RoundDiv_tot (wrap64 ((wrap64 ((wrap64 (s * d)) + (wrap64 (s * (wrap64 (255 - da)))))) + (wrap64 (d * (wrap64 (255 - sa)))))) 255
  obtain ⟨v, hv⟩ := spec_RoundDiv_tot (wrap64 (s * d)) 255
  unfold spec_l13Part.f
  simp only [ht, hu, hv, Option.bind_some, mn255]
  repeat' split
  all_goals exact ⟨_, rfl⟩
theorem l13_same {m : Int} (s d sa da : Int) (hm : 1 ≤ m ∧ m ≤ 5) : impl_Blend_1.f s d (wrap64 (255 - sa)) m (wrap64 (255 - da)) = spec_l13Part.f m s d sa da := by
  obtain ⟨t, ht⟩ := spec_Times255_tot d (wrap64 (255 - sa))
  obtain ⟨u, hu⟩ := spec_RoundDiv_tot (wrap64 ((wrap64 ((wrap64 (s * d)) + (wrap64 (s * (wrap64 (255 - da)))))) + (wrap64 (d * (wrap64 (255 - sa)))))) 255
  obtain ⟨v, hv⟩ := spec_RoundDiv_tot (wrap64 (s * d)) 255
  unfold spec_l13Part.f impl_Blend_1.f
  simp only [impl_Times255_s, impl_RoundDiv_s, ht, hu, hv, Option.bind_some, mn255]
  have : m = 1 ∨ m = 2 ∨ m = 3 ∨ m = 4 ∨ m = 5 := by omega
  rcases this with rfl | rfl | rfl | rfl | rfl
  · simp [Int.add_comm t s]
  · simp
  · simp
  · simp
  · simp
theorem l13_other {m d : Int} (s sa da : Int) (hm : ¬ (1 ≤ m ∧ m ≤ 5)) (hd : d ≤ 255) : spec_l13Part.f m s d sa da = some d := by
  unfold spec_l13Part.f
  rw [if_neg (by omega), if_neg (by omega), if_neg (by omega), if_neg (by omega), if_neg (by omega), if_neg (by omega)]
theorem Blend_v (m a b c d e f g h : Int) : ∃ p q r s : Int, Ev (fun k => spec_Blend.f k m a b c d e f g h) (p, q, r, s) ∧ impl_Blend.f m a b c d e f g h = some (p, q, r, s) := by
  obtain ⟨p, hp⟩ := l13_tot m a e d h
  obtain ⟨q, hq⟩ := l13_tot m b f d h
  obtain ⟨r, hr⟩ := l13_tot m c g d h
  obtain ⟨s, hs⟩ := l13_tot m d h d h
  have j1 : ∀ k, spec_Blend.j0 (k + 1) m true a b c d e f g h = some (e, f, g, h) := fun k => by simp only [spec_Blend.j0, if_true]
  have j2 : ∀ k, spec_Blend.j0 (k + 1) m false a b c d e f g h = some (p, q, r, s) := fun k => by simp only [spec_Blend.j0, Bool.false_eq_true, if_false, hp, hq, hr, hs, Option.bind_some]
  unfold spec_Blend.f impl_Blend.f impl_each_Blend_1.f impl_isMode.f
  simp only [spec_LaidOk_v, impl_LaidOk_v, impl_inRange_v, Option.bind_some]
  by_cases h1 : laidOkP a b c d
  · by_cases h2 : laidOkP e f g h
    · refine ⟨p, q, r, s, ?_, ?_⟩
      · simp only [decide_eq_true h1, decide_eq_true h2, if_true, Bool.not_true]
        exact ev_done j2
      · by_cases hm : 1 ≤ m ∧ m ≤ 5
        · simp only [decide_eq_true hm, decide_eq_true h1, decide_eq_true h2, if_true, l13_same _ _ _ _ hm, hp, hq, hr, hs, Option.bind_some]
        · simp only [decide_eq_false hm, Bool.false_eq_true, if_false]
          obtain ⟨⟨h3, h4, h5, h6⟩, h7, h8, h9⟩ := h2
          rw [l13_other _ _ _ hm (by omega)] at hp hq hr hs
          simp only [Option.some.injEq] at hp hq hr hs
          rw [hp, hq, hr, hs]
    · refine ⟨e, f, g, h, ?_, ?_⟩
      · simp only [decide_eq_true h1, decide_eq_false h2, if_true, Bool.not_false]
        exact ev_done j1
      · simp only [decide_eq_false h2, Bool.false_eq_true, if_false, ite_self]
  · refine ⟨e, f, g, h, ?_, ?_⟩
    · simp only [decide_eq_false h1, Bool.false_eq_true, if_false]
      exact ev_done j1
    · simp only [decide_eq_false h1, Bool.false_eq_true, if_false, ite_self]

/-! law_FnExactBlend -/
theorem pure : PureS := by
  intro m a b c d e f g h _ _ _ _ _ _ _ _ _
  obtain ⟨p, q, r, s, h1, h2⟩ := Blend_v m a b c d e f g h
  refine Ev.rounds ?_
  simp only [laws_FnExactBlend.f, laws_toColor.f, Option.bind_some, h2]
  refine Ev.bind h1 ?_
  simp only [laws_eqColor.f, if_true, Option.bind_some]
  exact Ev.now true

end Go.Proofs.Ytndeonfbolookaa.QFnExactBlend
