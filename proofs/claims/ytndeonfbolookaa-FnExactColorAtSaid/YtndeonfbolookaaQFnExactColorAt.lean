/- The pure statement of the law FnExactColorAt, for every input: what the printed functions compute makes the law answer true. No conditions beyond what the row reads. -/
import Derived.Test.YtndeonfbolookaaTFnExactColorAt
namespace Go.Proofs.Ytndeonfbolookaa.QFnExactColorAt
open Go.RowKit Go.Proofs.Ytndeonfbolookaa.MFnExactColorAt Go.Proofs.Ytndeonfbolookaa.TFnExactColorAt Go.Proofs.YtndeonfbolookaaW.PrintWords Go.Proofs.YtndeonfbolookaaW.PrintLast
set_option linter.unusedVariables false
set_option linter.unusedSimpArgs false

/-! base -/
theorem w64 {x : Int} (h1 : -9223372036854775808 ≤ x) (h2 : x ≤ 9223372036854775807) : wrap64 x = x := by
  unfold wrap64
  omega

theorem wf64 {x : Int} (h : (Lit.int .i64 x).wf = true) : -9223372036854775808 ≤ x ∧ x ≤ 9223372036854775807 := by
  have h2 : (decide (IntKind.i64.min ≤ x) && decide (x ≤ IntKind.i64.max)) = true := h
  rw [Bool.and_eq_true, decide_eq_true_eq, decide_eq_true_eq] at h2
  exact ⟨h2.1, h2.2⟩

theorem take_set_succ {α : Type} (xs : List α) (i : Nat) (v : α) (h : i < xs.length) : (xs.set i v).take (i + 1) = xs.take i ++ [v] := by
  rw [List.take_succ_eq_append_getElem (by simpa using h), List.take_set_of_le (Nat.le_refl i), List.getElem_set_self]

theorem step64 {i n : Nat} (h : i < n) (hn : n ≤ 4611686018427387904) : wrap64 ((i : Int) + 1) = ((i + 1 : Nat) : Int) := by
  rw [w64 (by omega) (by omega)]
  omega

theorem ev_done {α : Type} {g : Nat → Option α} {r : α} (h : ∀ k, g (k + 1) = some r) : Ev g r := Ev.step (f := fun _ => some r) h (Ev.now r)

theorem ev_const {α : Type} {o : Option α} {r : α} (h : o = some r) : Ev (fun _ => o) r := by
  subst h
  exact Ev.now r

/-! spec_FloorDiv -/
theorem spec_FloorDiv_tot (a b : Int) : ∃ q, spec_FloorDiv.f a b = some q := by
  unfold spec_FloorDiv.f
  by_cases h : b < 1
  · exact ⟨0, by rw [if_pos h]⟩
  · rw [if_neg h, if_neg (by omega)]
    split <;> exact ⟨_, rfl⟩
theorem spec_FloorDiv_v {a b : Int} (ha : -9223372036854775808 ≤ a) (ha2 : a ≤ 9223372036854775807) (hb : 1 ≤ b) (hb2 : b ≤ 9223372036854775807) : spec_FloorDiv.f a b = some (a / b) := by
  have hq : -9223372036854775808 ≤ a / b ∧ a / b ≤ 9223372036854775807 := by
    refine ⟨(Int.le_ediv_iff_mul_le (by omega)).mpr ?_, ?_⟩
    · have : 9223372036854775808 * 1 ≤ 9223372036854775808 * b := Int.mul_le_mul_of_nonneg_left hb (by omega)
      rw [Int.neg_mul]
      omega
    · rcases Int.le_total 0 a with h | h
      · exact Int.le_trans (Int.ediv_le_self b h) ha2
      · have : a / b ≤ 0 := Int.ediv_le_of_le_mul (by omega) (by omega)
        omega
  have hm := Int.emod_nonneg a (show b ≠ 0 by omega)
  have hml := Int.emod_lt_of_pos a (show 0 < b by omega)
  have hd := Int.mul_ediv_add_emod a b
  unfold spec_FloorDiv.f
  rw [if_neg (by omega), if_neg (by omega)]
  by_cases h0 : 0 ≤ a
  · rw [Int.tmod_eq_emod_of_nonneg h0, if_neg (by omega), Int.tdiv_eq_ediv_of_nonneg h0, w64 hq.1 hq.2]
  · have e1 : Int.tdiv a b = if a % b = 0 then a / b else a / b + 1 := by
      rw [Int.tdiv_eq_ediv]
      have hs : b.sign = 1 := Int.sign_eq_one_of_pos (by omega)
      by_cases hz : a % b = 0
      · rw [if_pos hz, if_pos (.inr (Int.dvd_of_emod_eq_zero hz))]
        omega
      · rw [if_neg hz, if_neg (by
          rintro (h | h)
          · omega
          · exact hz (Int.emod_eq_zero_of_dvd h)), hs]
    have e2 : Int.tmod a b = a - b * Int.tdiv a b := by have := Int.mul_tdiv_add_tmod a b; omega
    by_cases hz : a % b = 0
    · rw [if_pos hz] at e1
      rw [if_neg (by rw [e2, e1]; omega), e1, w64 hq.1 hq.2]
    · rw [if_neg hz] at e1
      have hlt : a / b + 1 ≤ 0 := by
        have : a / b < 0 := Int.ediv_neg_of_neg_of_pos (by omega) (by omega)
        omega
      rw [if_pos (by rw [e2, e1, Int.mul_add]; omega), e1, w64 (x := a / b + 1) (by omega) (by omega), w64 (by omega) (by omega)]
      congr 1
      omega

/-! impl_FloorDiv -/
theorem impl_FloorDiv_s (a b : Int) : impl_FloorDiv.f a b = spec_FloorDiv.f a b := rfl

/-! Clamp -/
def clampI (x low high : Int) : Int := if x < low then low else if x > high then high else x
theorem spec_Clamp_v (x low high : Int) : spec_Clamp.f x low high = some (clampI x low high) := by
  unfold spec_Clamp.f clampI
  split
  · rfl
  · split <;> rfl
theorem impl_Clamp_v (x low high : Int) : impl_Clamp.f x low high = some (clampI x low high) := by
  unfold impl_Clamp.f clampI
  split
  · rfl
  · split <;> rfl

/-! spec_l01In -/
theorem spec_l01In_v (a b c : Int) : spec_l01In.f a b c = some (decide (b ≤ a ∧ a ≤ c)) := by
  unfold spec_l01In.f
  by_cases h : a ≥ b
  · rw [if_pos h]
    simp [h]
  · rw [if_neg h]
    simp
    omega

/-! spec_ColorOk -/
theorem spec_ColorOk_v (a b c d : Int) : spec_ColorOk.f a b c d = some (decide ((0 ≤ a ∧ a ≤ 255) ∧ (0 ≤ b ∧ b ≤ 255) ∧ (0 ≤ c ∧ c ≤ 255) ∧ (0 ≤ d ∧ d ≤ 255))) := by
  unfold spec_ColorOk.f
  simp only [spec_l01In_v, Option.bind_some, decide_eq_true_eq]
  repeat' split
  all_goals first | (refine congrArg some (decide_eq_decide.mpr ?_); omega) | (refine congrArg some (Eq.symm (decide_eq_false ?_)); omega)

/-! impl_inRange -/
theorem impl_inRange_v (a b c : Int) : impl_inRange.f a b c = some (decide (b ≤ a ∧ a ≤ c)) := by
  unfold impl_inRange.f
  by_cases h : a ≥ b
  · rw [if_pos h]
    simp [h]
  · rw [if_neg h]
    simp
    omega

/-! impl_isByte -/
theorem impl_isByte_v (a : Int) : impl_isByte.f a = some (decide (0 ≤ a ∧ a ≤ 255)) := by
  unfold impl_isByte.f
  simp only [impl_inRange_v, Option.bind_some]

/-! impl_ColorOk -/
theorem impl_ColorOk_v (a b c d : Int) : impl_ColorOk.f a b c d = some (decide ((0 ≤ a ∧ a ≤ 255) ∧ (0 ≤ b ∧ b ≤ 255) ∧ (0 ≤ c ∧ c ≤ 255) ∧ (0 ≤ d ∧ d ≤ 255))) := by
  unfold impl_ColorOk.f
  simp only [impl_isByte_v, Option.bind_some, decide_eq_true_eq]
  repeat' split
  all_goals first | (refine congrArg some (decide_eq_decide.mpr ?_); omega) | (refine congrArg some (Eq.symm (decide_eq_false ?_)); omega)

/-! spec_PointOk -/
def pointOkP (a b : Int) : Prop := (-8388608 ≤ a ∧ a ≤ 8388608) ∧ (-8388608 ≤ b ∧ b ≤ 8388608)
instance (a b : Int) : Decidable (pointOkP a b) := by unfold pointOkP; infer_instance
theorem spec_PointOk_v (a b : Int) : spec_PointOk.f a b = some (decide (pointOkP a b)) := by
  unfold spec_PointOk.f pointOkP
  simp only [spec_l01In_v, Option.bind_some, decide_eq_true_eq]
  repeat' split
  all_goals first | (refine congrArg some (decide_eq_decide.mpr ?_); omega) | (refine congrArg some (Eq.symm (decide_eq_false ?_)); omega)

/-! impl_isFar -/
theorem impl_isFar_v (a : Int) : impl_isFar.f a = some (decide (-8388608 ≤ a ∧ a ≤ 8388608)) := by
  unfold impl_isFar.f
  simp only [impl_inRange_v, Option.bind_some]

/-! impl_PointOk -/
theorem impl_PointOk_v (a b : Int) : impl_PointOk.f a b = some (decide (pointOkP a b)) := by
  unfold impl_PointOk.f pointOkP
  simp only [impl_isFar_v, Option.bind_some, decide_eq_true_eq]
  repeat' split
  all_goals first | (refine congrArg some (decide_eq_decide.mpr ?_); omega) | (refine congrArg some (Eq.symm (decide_eq_false ?_)); omega)

/-! PaintOk_same -/
theorem paintOk_same (a0 a1 a2 a3 a4 a5 a6 a7 a8 a9 a10 a11 a12 : Int) : impl_PaintOk.f a0 a1 a2 a3 a4 a5 a6 a7 a8 a9 a10 a11 a12 = spec_PaintOk.f a0 a1 a2 a3 a4 a5 a6 a7 a8 a9 a10 a11 a12 ∧ ∃ r, spec_PaintOk.f a0 a1 a2 a3 a4 a5 a6 a7 a8 a9 a10 a11 a12 = some r := by
  unfold impl_PaintOk.f spec_PaintOk.f
  simp only [spec_ColorOk_v, impl_ColorOk_v, spec_PointOk_v, impl_PointOk_v, Option.bind_some, decide_eq_true_eq]
  repeat' split
  all_goals simp_all

/-! spec_RoundDiv -/
theorem spec_RoundDiv_tot (a b : Int) : ∃ q, spec_RoundDiv.f a b = some q := by
  obtain ⟨q, hq⟩ := spec_FloorDiv_tot a b
  unfold spec_RoundDiv.f
  rw [hq, Option.bind_some]
  split
  · exact ⟨_, rfl⟩
  · split <;> exact ⟨_, rfl⟩

/-! impl_RoundDiv -/
theorem impl_RoundDiv_s (a b : Int) : impl_RoundDiv.f a b = spec_RoundDiv.f a b := rfl

/-! Times255 -/
theorem spec_Times255_tot (a b : Int) : ∃ q, spec_Times255.f a b = some q := by
  unfold spec_Times255.f
  simp only [spec_Clamp_v, Option.bind_some]
  obtain ⟨q, hq⟩ := spec_RoundDiv_tot (wrap64 (clampI a 0 255 * clampI b 0 255)) 255
  exact ⟨q, by rw [hq]; rfl⟩
theorem impl_Times255_s (a b : Int) : impl_Times255.f a b = spec_Times255.f a b := by
  unfold impl_Times255.f spec_Times255.f
  simp only [spec_Clamp_v, impl_Clamp_v, Option.bind_some, impl_RoundDiv_s]

/-! Laid -/
theorem Laid_v (a b c d : Int) : ∃ p q r s : Int, spec_Laid.f a b c d = some (p, q, r, s) ∧ impl_Laid.f a b c d = some (p, q, r, s) := by
  obtain ⟨x, hx⟩ := spec_Times255_tot a d
  obtain ⟨y, hy⟩ := spec_Times255_tot b d
  obtain ⟨z, hz⟩ := spec_Times255_tot c d
  simp only [spec_Laid.f, impl_Laid.f, spec_ColorOk_v, impl_ColorOk_v, impl_Times255_s, hx, hy, hz, Option.bind_some]
  split
  · exact ⟨x, y, z, d, rfl, rfl⟩
  · exact ⟨0, 0, 0, 0, rfl, rfl⟩

/-! law_FnExactColorAt -/
theorem paintOk_two {a0 a1 a2 a3 a4 a5 a6 a7 a8 a9 a10 a11 a12 : Int} (h : spec_PaintOk.f a0 a1 a2 a3 a4 a5 a6 a7 a8 a9 a10 a11 a12 = some true) (h1 : ¬ a0 = 1) : a0 = 2 := by
  unfold spec_PaintOk.f at h
  simp only [spec_ColorOk_v, Option.bind_some, if_neg h1] at h
  refine Classical.byContradiction fun h2 => ?_
  rw [if_neg h2] at h
  split at h <;> simp at h
theorem neg2000 : wrap64 (-2000) = -2000 := w64 (by omega) (by omega)
theorem PartOf_two {a0 a1 a2 a3 a4 a5 a6 a7 a8 a9 a10 a11 a12 : Int} (x y : Int) (h : spec_PaintOk.f a0 a1 a2 a3 a4 a5 a6 a7 a8 a9 a10 a11 a12 = some true) (h1 : ¬ a0 = 1) :
    ∃ r, Ev (fun k => spec_PartOf.f k a0 a1 a2 a3 a4 a5 a6 a7 a8 a9 a10 a11 a12 x y) r ∧ impl_partOf.f a0 a1 a2 a3 a4 a5 a6 a7 a8 a9 a10 a11 a12 x y = some r := by
  have h0 := paintOk_two h h1
  obtain ⟨q, hq⟩ := spec_FloorDiv_tot (wrap64 (256 * (wrap64 ((wrap64 ((wrap64 ((wrap64 ((wrap64 (256 * clampI x (-2000) 2000)) + 128)) - a9)) * (wrap64 (a11 - a9)))) + (wrap64 ((wrap64 ((wrap64 ((wrap64 (256 * clampI y (-2000) 2000)) + 128)) - a10)) * (wrap64 (a12 - a10)))))))) (wrap64 ((wrap64 ((wrap64 (a11 - a9)) * (wrap64 (a11 - a9)))) + (wrap64 ((wrap64 (a12 - a10)) * (wrap64 (a12 - a10))))))
  refine ⟨clampI q 0 256, ?_, ?_⟩
  · unfold spec_PartOf.f
    simp only [if_pos h0, h, Option.bind_some, Bool.not_true]
    refine ev_done (fun k => ?_)
    simp only [spec_PartOf.j0, Bool.false_eq_true, if_false, spec_Clamp_v, Option.bind_some, hq]
  · unfold impl_partOf.f impl_taken.f
    simp only [Option.bind_some, neg2000, impl_Clamp_v, if_true, impl_FloorDiv_s, hq]
theorem mix_tot (a b n : Int) : ∃ q, spec_l12Mix.f a b n = some q := by
  unfold spec_l12Mix.f
  obtain ⟨q, hq⟩ := spec_RoundDiv_tot (wrap64 ((wrap64 ((wrap64 (256 - n)) * a)) + (wrap64 (n * b)))) 256
  exact ⟨q, by rw [hq]; rfl⟩
theorem mix_same (a b n : Int) : impl_ColorAt_1.f a b n = spec_l12Mix.f a b n := by
  unfold impl_ColorAt_1.f spec_l12Mix.f
  rw [impl_RoundDiv_s]
theorem ColorAt_v (a0 a1 a2 a3 a4 a5 a6 a7 a8 a9 a10 a11 a12 x y : Int) : ∃ p q r s : Int, Ev (fun k => spec_ColorAt.f k a0 a1 a2 a3 a4 a5 a6 a7 a8 a9 a10 a11 a12 x y) (p, q, r, s) ∧ impl_ColorAt.f a0 a1 a2 a3 a4 a5 a6 a7 a8 a9 a10 a11 a12 x y = some (p, q, r, s) := by
  obtain ⟨e, b, hb⟩ := paintOk_same a0 a1 a2 a3 a4 a5 a6 a7 a8 a9 a10 a11 a12
  unfold spec_ColorAt.f impl_ColorAt.f
  simp only [e, hb, Option.bind_some]
  cases b with
  | false => exact ⟨0, 0, 0, 0, by simp only [Bool.false_eq_true, if_false]; exact Ev.now _, by simp⟩
  | true =>
    by_cases h1 : a0 = 1
    · obtain ⟨p, q, r, s, g1, g2⟩ := Laid_v a1 a2 a3 a4
      refine ⟨p, q, r, s, ?_, ?_⟩
      · simp only [if_true, if_pos h1, g1, Option.bind_some]
        exact Ev.now _
      · simp only [if_true, if_pos h1, g2, Option.bind_some]
    · obtain ⟨n, k1, k2⟩ := PartOf_two x y hb h1
      obtain ⟨m1, e1⟩ := mix_tot a1 a5 n
      obtain ⟨m2, e2⟩ := mix_tot a2 a6 n
      obtain ⟨m3, e3⟩ := mix_tot a3 a7 n
      obtain ⟨m4, e4⟩ := mix_tot a4 a8 n
      obtain ⟨p, q, r, s, g1, g2⟩ := Laid_v m1 m2 m3 m4
      refine ⟨p, q, r, s, ?_, ?_⟩
      · simp only [if_true, if_neg h1]
        refine Ev.bind k1 ?_
        simp only [e1, e2, e3, e4, g1, Option.bind_some]
        exact Ev.now _
      · simp only [if_true, if_neg h1, k2, Option.bind_some, impl_each_ColorAt_1.f, mix_same, e1, e2, e3, e4, g2]
theorem pure : PureS := by
  intro a0 a1 a2 a3 a4 a5 a6 a7 a8 a9 a10 a11 a12 x y _ _ _ _ _ _ _ _ _ _ _ _ _ _ _
  obtain ⟨p, q, r, s, h1, h2⟩ := ColorAt_v a0 a1 a2 a3 a4 a5 a6 a7 a8 a9 a10 a11 a12 x y
  refine Ev.rounds ?_
  simp only [laws_FnExactColorAt.f, laws_toPaint.f, laws_toColor.f, laws_toPoint.f, Option.bind_some, h2]
  refine Ev.bind h1 ?_
  simp only [laws_eqColor.f, if_true, Option.bind_some]
  exact Ev.now true

end Go.Proofs.Ytndeonfbolookaa.QFnExactColorAt
