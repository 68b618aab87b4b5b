/- The pure statement of the law FnPaints, for every input: what the printed functions compute makes the law answer true. No conditions beyond what the row reads. -/
import Derived.Test.YtndeonfbolookaaMFnPaintsx9
namespace Go.Proofs.Ytndeonfbolookaa.Pure
open Go.RowKit Go.Proofs.Ytndeonfbolookaa.MFnPaints Go.Proofs.YtndeonfbolookaaW.PrintWords Go.Proofs.YtndeonfbolookaaW.PrintLast
set_option linter.unusedVariables false
set_option linter.unusedSimpArgs false

/-! base -/
theorem w64 {x : Int} (h1 : -9223372036854775808 ≤ x) (h2 : x ≤ 9223372036854775807) : wrap64 x = x := by
  unfold wrap64
  omega

theorem wf64 {x : Int} (h : (Lit.int .i64 x).wf = true) : -9223372036854775808 ≤ x ∧ x ≤ 9223372036854775807 := by
  have h2 : (decide (IntKind.i64.min ≤ x) && decide (x ≤ IntKind.i64.max)) = true := h
  rw [Bool.and_eq_true, decide_eq_true_eq, decide_eq_true_eq] at h2
  exact ⟨h2.1, h2.2⟩

theorem take_set_succ {α : Type} (xs : List α) (i : Nat) (v : α) (h : i < xs.length) : (xs.set i v).take (i + 1) = xs.take i ++ [v] := by
  rw [List.take_succ_eq_append_getElem (by simpa using h), List.take_set_of_le (Nat.le_refl i), List.getElem_set_self]

theorem step64 {i n : Nat} (h : i < n) (hn : n ≤ 4611686018427387904) : wrap64 ((i : Int) + 1) = ((i + 1 : Nat) : Int) := by
  rw [w64 (by omega) (by omega)]
  omega

theorem ev_done {α : Type} {g : Nat → Option α} {r : α} (h : ∀ k, g (k + 1) = some r) : Ev g r := Ev.step (f := fun _ => some r) h (Ev.now r)

theorem ev_const {α : Type} {o : Option α} {r : α} (h : o = some r) : Ev (fun _ => o) r := by
  subst h
  exact Ev.now r

/-! spec_FloorDiv -/
theorem spec_FloorDiv_tot (a b : Int) : ∃ q, spec_FloorDiv.f a b = some q := by
  unfold spec_FloorDiv.f
  by_cases h : b < 1
  · exact ⟨0, by rw [if_pos h]⟩
  · rw [if_neg h, if_neg (by omega)]
    split <;> exact ⟨_, rfl⟩
theorem spec_FloorDiv_v {a b : Int} (ha : -9223372036854775808 ≤ a) (ha2 : a ≤ 9223372036854775807) (hb : 1 ≤ b) (hb2 : b ≤ 9223372036854775807) : spec_FloorDiv.f a b = some (a / b) := by
  have hq : -9223372036854775808 ≤ a / b ∧ a / b ≤ 9223372036854775807 := by
    refine ⟨(Int.le_ediv_iff_mul_le (by omega)).mpr ?_, ?_⟩
    · have : 9223372036854775808 * 1 ≤ 9223372036854775808 * b := Int.mul_le_mul_of_nonneg_left hb (by omega)
      rw [Int.neg_mul]
      omega
    · rcases Int.le_total 0 a with h | h
      · exact Int.le_trans (Int.ediv_le_self b h) ha2
      · have : a / b ≤ 0 := Int.ediv_le_of_le_mul (by omega) (by omega)
        omega
  have hm := Int.emod_nonneg a (show b ≠ 0 by omega)
  have hml := Int.emod_lt_of_pos a (show 0 < b by omega)
  have hd := Int.mul_ediv_add_emod a b
  unfold spec_FloorDiv.f
  rw [if_neg (by omega), if_neg (by omega)]
  by_cases h0 : 0 ≤ a
  · rw [Int.tmod_eq_emod_of_nonneg h0, if_neg (by omega), Int.tdiv_eq_ediv_of_nonneg h0, w64 hq.1 hq.2]
  · have e1 : Int.tdiv a b = if a % b = 0 then a / b else a / b + 1 := by
      rw [Int.tdiv_eq_ediv]
      have hs : b.sign = 1 := Int.sign_eq_one_of_pos (by omega)
      by_cases hz : a % b = 0
      · rw [if_pos hz, if_pos (.inr (Int.dvd_of_emod_eq_zero hz))]
        omega
      · rw [if_neg hz, if_neg (by
          rintro (h | h)
          · omega
          · exact hz (Int.emod_eq_zero_of_dvd h)), hs]
    have e2 : Int.tmod a b = a - b * Int.tdiv a b := by have := Int.mul_tdiv_add_tmod a b; omega
    by_cases hz : a % b = 0
    · rw [if_pos hz] at e1
      rw [if_neg (by rw [e2, e1]; omega), e1, w64 hq.1 hq.2]
    · rw [if_neg hz] at e1
      have hlt : a / b + 1 ≤ 0 := by
        have : a / b < 0 := Int.ediv_neg_of_neg_of_pos (by omega) (by omega)
        omega
      rw [if_pos (by rw [e2, e1, Int.mul_add]; omega), e1, w64 (x := a / b + 1) (by omega) (by omega), w64 (by omega) (by omega)]
      congr 1
      omega

/-! impl_FloorDiv -/
theorem impl_FloorDiv_s (a b : Int) : impl_FloorDiv.f a b = spec_FloorDiv.f a b := rfl

/-! Clamp -/
def clampI (x low high : Int) : Int := if x < low then low else if x > high then high else x
theorem spec_Clamp_v (x low high : Int) : spec_Clamp.f x low high = some (clampI x low high) := by
  unfold spec_Clamp.f clampI
  split
  · rfl
  · split <;> rfl
theorem impl_Clamp_v (x low high : Int) : impl_Clamp.f x low high = some (clampI x low high) := by
  unfold impl_Clamp.f clampI
  split
  · rfl
  · split <;> rfl

/-! spec_l01In -/
theorem spec_l01In_v (a b c : Int) : spec_l01In.f a b c = some (decide (b ≤ a ∧ a ≤ c)) := by
  unfold spec_l01In.f
  by_cases h : a ≥ b
  · rw [if_pos h]
    simp [h]
  · rw [if_neg h]
    simp
    omega

/-! spec_ColorOk -/
theorem spec_ColorOk_v (a b c d : Int) : spec_ColorOk.f a b c d = some (decide ((0 ≤ a ∧ a ≤ 255) ∧ (0 ≤ b ∧ b ≤ 255) ∧ (0 ≤ c ∧ c ≤ 255) ∧ (0 ≤ d ∧ d ≤ 255))) := by
  unfold spec_ColorOk.f
  simp only [spec_l01In_v, Option.bind_some, decide_eq_true_eq]
  repeat' split
  all_goals first | (refine congrArg some (decide_eq_decide.mpr ?_); omega) | (refine congrArg some (Eq.symm (decide_eq_false ?_)); omega)

/-! impl_inRange -/
theorem impl_inRange_v (a b c : Int) : impl_inRange.f a b c = some (decide (b ≤ a ∧ a ≤ c)) := by
  unfold impl_inRange.f
  by_cases h : a ≥ b
  · rw [if_pos h]
    simp [h]
  · rw [if_neg h]
    simp
    omega

/-! impl_isByte -/
theorem impl_isByte_v (a : Int) : impl_isByte.f a = some (decide (0 ≤ a ∧ a ≤ 255)) := by
  unfold impl_isByte.f
  simp only [impl_inRange_v, Option.bind_some]

/-! impl_ColorOk -/
theorem impl_ColorOk_v (a b c d : Int) : impl_ColorOk.f a b c d = some (decide ((0 ≤ a ∧ a ≤ 255) ∧ (0 ≤ b ∧ b ≤ 255) ∧ (0 ≤ c ∧ c ≤ 255) ∧ (0 ≤ d ∧ d ≤ 255))) := by
  unfold impl_ColorOk.f
  simp only [impl_isByte_v, Option.bind_some, decide_eq_true_eq]
  repeat' split
  all_goals first | (refine congrArg some (decide_eq_decide.mpr ?_); omega) | (refine congrArg some (Eq.symm (decide_eq_false ?_)); omega)

/-! spec_PointOk -/
def pointOkP (a b : Int) : Prop := (-8388608 ≤ a ∧ a ≤ 8388608) ∧ (-8388608 ≤ b ∧ b ≤ 8388608)
instance (a b : Int) : Decidable (pointOkP a b) := by unfold pointOkP; infer_instance
theorem spec_PointOk_v (a b : Int) : spec_PointOk.f a b = some (decide (pointOkP a b)) := by
  unfold spec_PointOk.f pointOkP
  simp only [spec_l01In_v, Option.bind_some, decide_eq_true_eq]
  repeat' split
  all_goals first | (refine congrArg some (decide_eq_decide.mpr ?_); omega) | (refine congrArg some (Eq.symm (decide_eq_false ?_)); omega)

/-! impl_isFar -/
theorem impl_isFar_v (a : Int) : impl_isFar.f a = some (decide (-8388608 ≤ a ∧ a ≤ 8388608)) := by
  unfold impl_isFar.f
  simp only [impl_inRange_v, Option.bind_some]

/-! impl_PointOk -/
theorem impl_PointOk_v (a b : Int) : impl_PointOk.f a b = some (decide (pointOkP a b)) := by
  unfold impl_PointOk.f pointOkP
  simp only [impl_isFar_v, Option.bind_some, decide_eq_true_eq]
  repeat' split
  all_goals first | (refine congrArg some (decide_eq_decide.mpr ?_); omega) | (refine congrArg some (Eq.symm (decide_eq_false ?_)); omega)

/-! PaintOk_same -/
theorem paintOk_same (a0 a1 a2 a3 a4 a5 a6 a7 a8 a9 a10 a11 a12 : Int) : impl_PaintOk.f a0 a1 a2 a3 a4 a5 a6 a7 a8 a9 a10 a11 a12 = spec_PaintOk.f a0 a1 a2 a3 a4 a5 a6 a7 a8 a9 a10 a11 a12 ∧ ∃ r, spec_PaintOk.f a0 a1 a2 a3 a4 a5 a6 a7 a8 a9 a10 a11 a12 = some r := by
  unfold impl_PaintOk.f spec_PaintOk.f
  simp only [spec_ColorOk_v, impl_ColorOk_v, spec_PointOk_v, impl_PointOk_v, Option.bind_some, decide_eq_true_eq]
  repeat' split
  all_goals simp_all

/-! spec_RoundDiv -/
theorem spec_RoundDiv_tot (a b : Int) : ∃ q, spec_RoundDiv.f a b = some q := by
  obtain ⟨q, hq⟩ := spec_FloorDiv_tot a b
  unfold spec_RoundDiv.f
  rw [hq, Option.bind_some]
  split
  · exact ⟨_, rfl⟩
  · split <;> exact ⟨_, rfl⟩

/-! impl_RoundDiv -/
theorem impl_RoundDiv_s (a b : Int) : impl_RoundDiv.f a b = spec_RoundDiv.f a b := rfl

/-! Times255 -/
theorem spec_Times255_tot (a b : Int) : ∃ q, spec_Times255.f a b = some q := by
  unfold spec_Times255.f
  simp only [spec_Clamp_v, Option.bind_some]
  obtain ⟨q, hq⟩ := spec_RoundDiv_tot (wrap64 (clampI a 0 255 * clampI b 0 255)) 255
  exact ⟨q, by rw [hq]; rfl⟩
theorem impl_Times255_s (a b : Int) : impl_Times255.f a b = spec_Times255.f a b := by
  unfold impl_Times255.f spec_Times255.f
  simp only [spec_Clamp_v, impl_Clamp_v, Option.bind_some, impl_RoundDiv_s]

/-! Laid -/
theorem Laid_v (a b c d : Int) : ∃ p q r s : Int, spec_Laid.f a b c d = some (p, q, r, s) ∧ impl_Laid.f a b c d = some (p, q, r, s) := by
  obtain ⟨x, hx⟩ := spec_Times255_tot a d
  obtain ⟨y, hy⟩ := spec_Times255_tot b d
  obtain ⟨z, hz⟩ := spec_Times255_tot c d
  simp only [spec_Laid.f, impl_Laid.f, spec_ColorOk_v, impl_ColorOk_v, impl_Times255_s, hx, hy, hz, Option.bind_some]
  split
  · exact ⟨x, y, z, d, rfl, rfl⟩
  · exact ⟨0, 0, 0, 0, rfl, rfl⟩

/-! ColorAt -/
theorem paintOk_two {a0 a1 a2 a3 a4 a5 a6 a7 a8 a9 a10 a11 a12 : Int} (h : spec_PaintOk.f a0 a1 a2 a3 a4 a5 a6 a7 a8 a9 a10 a11 a12 = some true) (h1 : ¬ a0 = 1) : a0 = 2 := by
  unfold spec_PaintOk.f at h
  simp only [spec_ColorOk_v, Option.bind_some, if_neg h1] at h
  refine Classical.byContradiction fun h2 => ?_
  rw [if_neg h2] at h
  split at h <;> simp at h
theorem neg2000 : wrap64 (-2000) = -2000 := w64 (by omega) (by omega)
theorem PartOf_two {a0 a1 a2 a3 a4 a5 a6 a7 a8 a9 a10 a11 a12 : Int} (x y : Int) (h : spec_PaintOk.f a0 a1 a2 a3 a4 a5 a6 a7 a8 a9 a10 a11 a12 = some true) (h1 : ¬ a0 = 1) :
    ∃ r, Ev (fun k => spec_PartOf.f k a0 a1 a2 a3 a4 a5 a6 a7 a8 a9 a10 a11 a12 x y) r ∧ impl_partOf.f a0 a1 a2 a3 a4 a5 a6 a7 a8 a9 a10 a11 a12 x y = some r := by
  have h0 := paintOk_two h h1
  obtain ⟨q, hq⟩ := spec_FloorDiv_tot (wrap64 (256 * (wrap64 ((wrap64 ((wrap64 ((wrap64 ((wrap64 (256 * clampI x (-2000) 2000)) + 128)) - a9)) * (wrap64 (a11 - a9)))) + (wrap64 ((wrap64 ((wrap64 ((wrap64 (256 * clampI y (-2000) 2000)) + 128)) - a10)) * (wrap64 (a12 - a10)))))))) (wrap64 ((wrap64 ((wrap64 (a11 - a9)) * (wrap64 (a11 - a9)))) + (wrap64 ((wrap64 (a12 - a10)) * (wrap64 (a12 - a10))))))
  refine ⟨clampI q 0 256, ?_, ?_⟩
  · unfold spec_PartOf.f
    simp only [if_pos h0, h, Option.bind_some, Bool.not_true]
    refine ev_done (fun k => ?_)
    simp only [spec_PartOf.j0, Bool.false_eq_true, if_false, spec_Clamp_v, Option.bind_some, hq]
  · unfold impl_partOf.f impl_taken.f
    simp only [Option.bind_some, neg2000, impl_Clamp_v, if_true, impl_FloorDiv_s, hq]
theorem mix_tot (a b n : Int) : ∃ q, spec_l12Mix.f a b n = some q := by
  unfold spec_l12Mix.f
  obtain ⟨q, hq⟩ := spec_RoundDiv_tot (wrap64 ((wrap64 ((wrap64 (256 - n)) * a)) + (wrap64 (n * b)))) 256
  exact ⟨q, by rw [hq]; rfl⟩
theorem mix_same (a b n : Int) : impl_ColorAt_1.f a b n = spec_l12Mix.f a b n := by
  unfold impl_ColorAt_1.f spec_l12Mix.f
  rw [impl_RoundDiv_s]
theorem ColorAt_v (a0 a1 a2 a3 a4 a5 a6 a7 a8 a9 a10 a11 a12 x y : Int) : ∃ p q r s : Int, Ev (fun k => spec_ColorAt.f k a0 a1 a2 a3 a4 a5 a6 a7 a8 a9 a10 a11 a12 x y) (p, q, r, s) ∧ impl_ColorAt.f a0 a1 a2 a3 a4 a5 a6 a7 a8 a9 a10 a11 a12 x y = some (p, q, r, s) := by
  obtain ⟨e, b, hb⟩ := paintOk_same a0 a1 a2 a3 a4 a5 a6 a7 a8 a9 a10 a11 a12
  unfold spec_ColorAt.f impl_ColorAt.f
  simp only [e, hb, Option.bind_some]
  cases b with
  | false => exact ⟨0, 0, 0, 0, by simp only [Bool.false_eq_true, if_false]; exact Ev.now _, by simp⟩
  | true =>
    by_cases h1 : a0 = 1
    · obtain ⟨p, q, r, s, g1, g2⟩ := Laid_v a1 a2 a3 a4
      refine ⟨p, q, r, s, ?_, ?_⟩
      · simp only [if_true, if_pos h1, g1, Option.bind_some]
        exact Ev.now _
      · simp only [if_true, if_pos h1, g2, Option.bind_some]
    · obtain ⟨n, k1, k2⟩ := PartOf_two x y hb h1
      obtain ⟨m1, e1⟩ := mix_tot a1 a5 n
      obtain ⟨m2, e2⟩ := mix_tot a2 a6 n
      obtain ⟨m3, e3⟩ := mix_tot a3 a7 n
      obtain ⟨m4, e4⟩ := mix_tot a4 a8 n
      obtain ⟨p, q, r, s, g1, g2⟩ := Laid_v m1 m2 m3 m4
      refine ⟨p, q, r, s, ?_, ?_⟩
      · simp only [if_true, if_neg h1]
        refine Ev.bind k1 ?_
        simp only [e1, e2, e3, e4, g1, Option.bind_some]
        exact Ev.now _
      · simp only [if_true, if_neg h1, k2, Option.bind_some, impl_each_ColorAt_1.f, mix_same, e1, e2, e3, e4, g2]

/-! Draw -/
theorem and255 (n : Int) : Go.bits .and .i64 n 255 = n % 256 := by
  have h255 : (BitVec.ofInt 64 255).toNat = 2 ^ 8 - 1 := by decide
  have key : (BitVec.ofInt 64 n &&& BitVec.ofInt 64 255).toNat = (n % ((2 ^ 64 : Nat) : Int)).toNat % 2 ^ 8 := by
    rw [BitVec.toNat_and, BitVec.toNat_ofInt, h255, Nat.and_two_pow_sub_one_eq_mod]
  show IntKind.i64.wrap ((BitVec.ofInt 64 n &&& BitVec.ofInt 64 255).toNat : Nat) = n % 256
  rw [key, IntKind.wrap_i64]
  omega
theorem byte_r (l : List Int) (p s : Int) (hp : 0 ≤ p) (hl : p ≤ l.length) (hn : l.length ≤ 1048576) : ∃ b q t : Int, spec_l01Byte.f l p s = some (b, q, t) ∧ 0 ≤ b ∧ b ≤ 255 ∧ 0 ≤ q ∧ q ≤ l.length := by
  unfold spec_l01Byte.f
  by_cases h : p < (l.length : Int)
  · rw [if_pos h, if_pos hp]
    refine ⟨_, _, _, rfl, ?_, ?_, ?_, ?_⟩
    · rw [and255]
      omega
    · rw [and255]
      omega
    · rw [w64 (by omega) (by omega)]
      omega
    · rw [w64 (by omega) (by omega)]
      omega
  · rw [if_neg h]
    refine ⟨_, _, _, rfl, ?_, ?_, hp, hl⟩
    · rw [and255]
      omega
    · rw [and255]
      omega
theorem below_r (l : List Int) (p s n : Int) (hp : 0 ≤ p) (hl : p ≤ l.length) (hn : l.length ≤ 1048576) (h0 : 0 < n) (h1 : n ≤ 9223372036854775807) : ∃ b q t : Int, spec_l01Below.f l p s n = some (b, q, t) ∧ 0 ≤ b ∧ b < n ∧ 0 ≤ q ∧ q ≤ l.length := by
  unfold spec_l01Below.f
  rw [if_neg (by omega)]
  by_cases h : n ≤ 256
  · obtain ⟨b, q, t, e, b0, b1, q0, q1⟩ := byte_r l p s hp hl hn
    rw [if_pos h, e]
    simp only [Option.bind_some]
    rw [if_neg (by omega)]
    refine ⟨_, _, _, rfl, ?_, ?_, q0, q1⟩
    · exact Int.tmod_nonneg _ b0
    · exact Int.tmod_lt_of_pos _ h0
  · obtain ⟨b, q, t, e, b0, b1, q0, q1⟩ := byte_r l p s hp hl hn
    obtain ⟨b', q', t', e', b0', b1', q0', q1'⟩ := byte_r l q t q0 q1 hn
    obtain ⟨b2, q2, t2, e2, b02, b12, q02, q12⟩ := byte_r l q' t' q0' q1' hn
    obtain ⟨b3, q3, t3, e3, b03, b13, q03, q13⟩ := byte_r l q2 t2 q02 q12 hn
    rw [if_neg h, e]
    simp only [Option.bind_some, e', e2, e3]
    rw [if_neg (by omega)]
    refine ⟨_, _, _, rfl, ?_, ?_, q03, q13⟩
    · refine Int.tmod_nonneg _ ?_
      rw [w64 (x := b * 16777216) (by omega) (by omega), w64 (x := b' * 65536) (by omega) (by omega), w64 (x := b2 * 256) (by omega) (by omega), w64 (x := b * 16777216 + b' * 65536) (by omega) (by omega), w64 (x := b * 16777216 + b' * 65536 + b2 * 256) (by omega) (by omega), w64 (by omega) (by omega)]
      omega
    · exact Int.tmod_lt_of_pos _ h0
theorem new_l (l : List Int) (hn : l.length ≤ 1048576) : ∀ (d : Nat) (i : Int) (x3 : Int), i + d = 4000 → 0 ≤ i → ∃ s, Ev (fun k => spec_l01New.l0 k l x3 i) (l, 0, s) := by
  intro d
  induction d with
  | zero =>
    intro i x3 hi h0
    refine ⟨x3, ev_done (fun k => ?_)⟩
    simp only [spec_l01New.l0]
    by_cases h : i < (l.length : Int)
    · rw [if_pos h, if_neg (by omega)]
    · rw [if_neg h]
  | succ d ih =>
    intro i x3 hi h0
    by_cases h : i < (l.length : Int)
    · obtain ⟨s, hs⟩ := ih (i + 1) (Go.bits .and .i64 (wrap64 ((wrap64 ((wrap64 (x3 * 131)) + (wrap64 (rd l i)))) + 7)) 1073741823) (by omega) (by omega)
      refine ⟨s, Ev.step (fun k => ?_) hs⟩
      simp only [spec_l01New.l0]
      rw [if_pos h, if_pos (by omega), if_pos h0, w64 (x := i + 1) (by omega) (by omega)]
    · refine ⟨x3, ev_done (fun k => ?_)⟩
      simp only [spec_l01New.l0]
      rw [if_neg h]
theorem new_v (l : List Int) (hn : l.length ≤ 1048576) : ∃ s, Ev (fun k => spec_l01New.f k l) (l, 0, s) := by
  obtain ⟨s, hs⟩ := new_l l hn 4000 0 (wrap64 (28001 + (l.length : Int))) (by omega) (by omega)
  exact ⟨s, hs⟩
def R255 (x : Int) : Int := (x + 127) / 255
theorem RoundDiv255 {x : Int} (h0 : 0 ≤ x) (h1 : x ≤ 1000000000) : spec_RoundDiv.f x 255 = some (R255 x) := by
  unfold spec_RoundDiv.f
  rw [if_neg (by omega), spec_FloorDiv_v (by omega) (by omega) (by omega) (by omega), Option.bind_some]
  rw [w64 (x := x / 255 * 255) (by omega) (by omega), w64 (x := x - x / 255 * 255) (by omega) (by omega), w64 (x := 255 - (x - x / 255 * 255)) (by omega) (by omega), w64 (x := x / 255 + 1) (by omega) (by omega)]
  unfold R255
  split
  · congr 1
    omega
  · congr 1
    omega

/-! DrawPick -/
theorem pick_r (l : List Int) (p s : Int) (xs : List Int) (hp : 0 ≤ p) (hl : p ≤ l.length) (hn : l.length ≤ 1048576) (h0 : 0 < xs.length) (h1 : xs.length ≤ 1048576) : ∃ (i : Nat) (q t : Int), spec_l01PickInt.f l p s xs = some (rd xs (i : Int), q, t) ∧ i < xs.length ∧ 0 ≤ q ∧ q ≤ l.length := by
  obtain ⟨b, q, t, e, b0, b1, q0, q1⟩ := below_r l p s (xs.length : Int) hp hl hn (by omega) (by omega)
  unfold spec_l01PickInt.f
  rw [e]
  simp only [Option.bind_some]
  rw [if_pos b0, if_pos b1]
  refine ⟨b.toNat, q, t, ?_, by omega, q0, q1⟩
  rw [Int.toNat_of_nonneg b0]

/-! Times255v -/
theorem mul_bd {a b : Int} (ha : 0 ≤ a ∧ a ≤ 255) (hb : 0 ≤ b ∧ b ≤ 255) : 0 ≤ a * b ∧ a * b ≤ 65025 ∧ a * b ≤ 255 * a ∧ a * b ≤ 255 * b := by
  refine ⟨Int.mul_nonneg ha.1 hb.1, ?_, ?_, Int.mul_le_mul_of_nonneg_right ha.2 hb.1⟩
  · have h1 := Int.mul_le_mul_of_nonneg_right ha.2 hb.1
    omega
  · have h1 := Int.mul_le_mul_of_nonneg_left hb.2 ha.1
    omega
theorem spec_Times255_r {a b : Int} (ha : 0 ≤ a ∧ a ≤ 255) (hb : 0 ≤ b ∧ b ≤ 255) : spec_Times255.f a b = some (R255 (a * b)) := by
  obtain ⟨h1, h2, _, _⟩ := mul_bd ha hb
  have ca : clampI a 0 255 = a := by
    unfold clampI
    rw [if_neg (by omega), if_neg (by omega)]
  have cb : clampI b 0 255 = b := by
    unfold clampI
    rw [if_neg (by omega), if_neg (by omega)]
  unfold spec_Times255.f
  simp only [spec_Clamp_v, Option.bind_some, ca, cb]
  rw [w64 (by omega) (by omega), RoundDiv255 h1 (by omega)]
  rfl

/-! laidP -/
def laidOkP (a b c d : Int) : Prop := ((0 ≤ a ∧ a ≤ 255) ∧ (0 ≤ b ∧ b ≤ 255) ∧ (0 ≤ c ∧ c ≤ 255) ∧ (0 ≤ d ∧ d ≤ 255)) ∧ a ≤ d ∧ b ≤ d ∧ c ≤ d
instance (a b c d : Int) : Decidable (laidOkP a b c d) := by unfold laidOkP; infer_instance

/-! ColorDraw -/
theorem color_r (l : List Int) (p s : Int) (hp : 0 ≤ p) (hl : p ≤ l.length) (hn : l.length ≤ 1048576) : ∃ a b c d q t : Int, spec_l12Color.f l p s = some (a, b, c, d, q, t) ∧ (0 ≤ a ∧ a ≤ 255) ∧ (0 ≤ b ∧ b ≤ 255) ∧ (0 ≤ c ∧ c ≤ 255) ∧ (0 ≤ d ∧ d ≤ 255) ∧ 0 ≤ q ∧ q ≤ l.length := by
  obtain ⟨b0, q0, t0, e0, l0, u0, v0, w0⟩ := below_r l p s 256 hp hl hn (by omega) (by omega)
  obtain ⟨b1, q1, t1, e1, l1, u1, v1, w1⟩ := below_r l q0 t0 256 v0 w0 hn (by omega) (by omega)
  obtain ⟨b2, q2, t2, e2, l2, u2, v2, w2⟩ := below_r l q1 t1 256 v1 w1 hn (by omega) (by omega)
  obtain ⟨i, q3, t3, e3, l3, v3, w3⟩ := pick_r l q2 t2 [255, 255, 128, 0, 1, 200] v2 w2 hn (by simp) (by simp)
  unfold spec_l12Color.f
  rw [e0]
  simp only [Option.bind_some, e1, e2, e3]
  refine ⟨_, _, _, _, _, _, rfl, ⟨l0, by omega⟩, ⟨l1, by omega⟩, ⟨l2, by omega⟩, ?_, v3, w3⟩
  have hi : i = 0 ∨ i = 1 ∨ i = 2 ∨ i = 3 ∨ i = 4 ∨ i = 5 := by
    simp at l3
    omega
  rcases hi with rfl | rfl | rfl | rfl | rfl | rfl <;> simp [rd]
theorem laid_r {a b c d : Int} (ha : 0 ≤ a ∧ a ≤ 255) (hb : 0 ≤ b ∧ b ≤ 255) (hc : 0 ≤ c ∧ c ≤ 255) (hd : 0 ≤ d ∧ d ≤ 255) : ∃ p q r s : Int, spec_Laid.f a b c d = some (p, q, r, s) ∧ laidOkP p q r s := by
  unfold spec_Laid.f
  rw [spec_ColorOk_v, Option.bind_some, decide_eq_true (show _ from ⟨ha, hb, hc, hd⟩)]
  simp only [if_true, spec_Times255_r ha hd, spec_Times255_r hb hd, spec_Times255_r hc hd, Option.bind_some]
  refine ⟨_, _, _, _, rfl, ?_⟩
  obtain ⟨a1, a2, a3, a4⟩ := mul_bd ha hd
  obtain ⟨b1, b2, b3, b4⟩ := mul_bd hb hd
  obtain ⟨c1, c2, c3, c4⟩ := mul_bd hc hd
  unfold laidOkP R255
  omega

/-! DrawPlaces -/
theorem places_l (l : List Int) (hn : l.length ≤ 1048576) : ∀ (d : Nat) (i : Int) (acc : List Int) (p s : Int), i + d = 12 → 0 ≤ i → (acc.length : Int) = i → (∀ v ∈ acc, 0 ≤ v) → 0 ≤ p → p ≤ l.length →
    ∃ r, Ev (fun k => spec_DrawPlaces.l0 k acc i l p s) r ∧ r.length = 12 ∧ ∀ v ∈ r, 0 ≤ v := by
  intro d
  induction d with
  | zero =>
    intro i acc p s hi h0 ha hv hp hl
    refine ⟨acc, ev_done (fun k => ?_), by omega, hv⟩
    simp only [spec_DrawPlaces.l0]
    rw [if_neg (by omega)]
  | succ d ih =>
    intro i acc p s hi h0 ha hv hp hl
    obtain ⟨b, q, t, e, b0, b1, q0, q1⟩ := below_r l p s 10000 hp hl hn (by omega) (by omega)
    obtain ⟨r, h1, h2, h3⟩ := ih (i + 1) (acc ++ [b]) q t (by omega) (by omega) (by simp; omega) (by
      intro v hv'
      rcases List.mem_append.mp hv' with h | h
      · exact hv v h
      · obtain rfl : v = b := by simpa using h
        exact b0) q0 q1
    refine ⟨r, Ev.step (fun k => ?_) h1, h2, h3⟩
    simp only [spec_DrawPlaces.l0, e, Option.bind_some, w64 (x := i + 1) (by omega) (by omega)]
    rw [if_pos (by omega), if_pos (by omega)]
theorem DrawPlaces_v (l : List Int) (hn : l.length ≤ 1048576) : ∃ r, Ev (fun k => spec_DrawPlaces.f k l) r ∧ r.length = 12 ∧ ∀ v ∈ r, 0 ≤ v := by
  obtain ⟨s, hs⟩ := new_v l hn
  obtain ⟨b, q, t, e, b0, b1, q0, q1⟩ := byte_r l 0 s (by omega) (by omega) hn
  obtain ⟨r, h1, h2, h3⟩ := places_l l hn 12 0 [] q t (by omega) (by omega) rfl (by simp) q0 q1
  refine ⟨r, ?_, h2, h3⟩
  unfold spec_DrawPlaces.f
  refine Ev.bind hs ?_
  simp only [e, Option.bind_some]
  exact h1

/-! law_FnPaints -/
def colP (a b c d : Int) : Prop := (0 ≤ a ∧ a ≤ 255) ∧ (0 ≤ b ∧ b ≤ 255) ∧ (0 ≤ c ∧ c ≤ 255) ∧ (0 ≤ d ∧ d ≤ 255)
def goodP (a0 a1 a2 a3 a4 a5 a6 a7 a8 a9 a10 a11 a12 : Int) : Prop :=
  colP a1 a2 a3 a4 ∧ ((a0 = 1 ∧ (a5 = 0 ∧ a6 = 0 ∧ a7 = 0 ∧ a8 = 0) ∧ (a9 = 0 ∧ a10 = 0) ∧ (a11 = 0 ∧ a12 = 0)) ∨ (a0 = 2 ∧ colP a5 a6 a7 a8 ∧ pointOkP a9 a10 ∧ pointOkP a11 a12 ∧ ¬ (a9 = a11 ∧ a10 = a12)))
theorem colP_ok {a b c d : Int} (h : colP a b c d) : spec_ColorOk.f a b c d = some true := by
  rw [spec_ColorOk_v]
  exact congrArg some (decide_eq_true h)
theorem good_ok {a0 a1 a2 a3 a4 a5 a6 a7 a8 a9 a10 a11 a12 : Int} (h : goodP a0 a1 a2 a3 a4 a5 a6 a7 a8 a9 a10 a11 a12) : spec_PaintOk.f a0 a1 a2 a3 a4 a5 a6 a7 a8 a9 a10 a11 a12 = some true := by
  obtain ⟨h1, h2⟩ := h
  unfold spec_PaintOk.f
  rw [colP_ok h1, Option.bind_some]
  rcases h2 with ⟨rfl, ⟨rfl, rfl, rfl, rfl⟩, ⟨rfl, rfl⟩, rfl, rfl⟩ | ⟨rfl, h3, h4, h5, h6⟩
  · simp
  · simp only [if_true, colP_ok h3, spec_PointOk_v, decide_eq_true h4, decide_eq_true h5, Option.bind_some]
    rw [if_neg (by omega)]
    refine congrArg some ?_
    by_cases e : a9 = a11
    · subst e
      have : ¬ a10 = a12 := fun h => h6 ⟨rfl, h⟩
      simp [this]
    · simp [e]
theorem point_r (l : List Int) (p s : Int) (hp : 0 ≤ p) (hl : p ≤ l.length) (hn : l.length ≤ 1048576) : ∃ a b q t : Int, spec_l04Point.f l p s = some (a, b, q, t) ∧ (-300 ≤ a ∧ a ≤ 3299) ∧ (-300 ≤ b ∧ b ≤ 3299) ∧ 0 ≤ q ∧ q ≤ l.length := by
  obtain ⟨b0, q0, t0, e0, l0, u0, v0, w0⟩ := below_r l p s 3600 hp hl hn (by omega) (by omega)
  obtain ⟨b1, q1, t1, e1, l1, u1, v1, w1⟩ := below_r l q0 t0 3600 v0 w0 hn (by omega) (by omega)
  unfold spec_l04Point.f
  rw [e0]
  simp only [Option.bind_some, e1]
  rw [w64 (x := b0 - 300) (by omega) (by omega), w64 (x := b1 - 300) (by omega) (by omega)]
  exact ⟨_, _, _, _, rfl, by omega, by omega, v1, w1⟩
theorem paint_r (l : List Int) (p s : Int) (hp : 0 ≤ p) (hl : p ≤ l.length) (hn : l.length ≤ 1048576) : ∃ p0 p1 p2 p3 p4 p5 p6 p7 p8 p9 p10 p11 p12 q t : Int, spec_l12Paint.f l p s = some (p0, p1, p2, p3, p4, p5, p6, p7, p8, p9, p10, p11, p12, q, t) ∧ goodP p0 p1 p2 p3 p4 p5 p6 p7 p8 p9 p10 p11 p12 := by
  obtain ⟨a, b, c, d, q0, t0, e0, ha, hb, hc, hd, v0, w0⟩ := color_r l p s hp hl hn
  obtain ⟨z, q1, t1, e1, z0, z1, v1, w1⟩ := below_r l q0 t0 3 v0 w0 hn (by omega) (by omega)
  unfold spec_l12Paint.f spec_l01Once.f
  rw [e0]
  simp only [Option.bind_some, e1]
  by_cases hz : z = 0
  · subst hz
    obtain ⟨a', b', c', d', q2, t2, e2, ha', hb', hc', hd', v2, w2⟩ := color_r l q1 t1 v1 w1 hn
    obtain ⟨x0, y0, q3, t3, e3, hx0, hy0, v3, w3⟩ := point_r l q2 t2 v2 w2 hn
    obtain ⟨x1, y1, q4, t4, e4, hx1, hy1, v4, w4⟩ := point_r l q3 t3 v3 w3 hn
    simp only [beq_self_eq_true, if_true, e2, e3, e4, Option.bind_some]
    by_cases hxy : x0 = x1 ∧ y0 = y1
    · obtain ⟨rfl, rfl⟩ := hxy
      simp only [beq_self_eq_true, Bool.and_self, if_true, w64 (x := x0 + 1) (by omega) (by omega)]
      refine ⟨_, _, _, _, _, _, _, _, _, _, _, _, _, _, _, rfl, ⟨ha, hb, hc, hd⟩, .inr ⟨rfl, ⟨ha', hb', hc', hd'⟩, ?_, ?_, ?_⟩⟩
      · unfold pointOkP
        omega
      · unfold pointOkP
        omega
      · omega
    · have hb2 : ¬ ((x0 == x1 && (y0 == y1)) = true) := by simpa using hxy
      simp only [if_neg hb2]
      refine ⟨_, _, _, _, _, _, _, _, _, _, _, _, _, _, _, rfl, ⟨ha, hb, hc, hd⟩, .inr ⟨rfl, ⟨ha', hb', hc', hd'⟩, ?_, ?_, hxy⟩⟩
      · unfold pointOkP
        omega
      · unfold pointOkP
        omega
  · simp only [beq_eq_false_iff_ne.mpr hz, Bool.false_eq_true, if_false]
    exact ⟨_, _, _, _, _, _, _, _, _, _, _, _, _, _, _, rfl, ⟨ha, hb, hc, hd⟩, .inl ⟨rfl, ⟨rfl, rfl, rfl, rfl⟩, ⟨rfl, rfl⟩, rfl, rfl⟩⟩
theorem DrawSlope_v (l : List Int) (hn : l.length ≤ 1048576) : ∃ p0 p1 p2 p3 p4 p5 p6 p7 p8 p9 p10 p11 p12 : Int, Ev (fun k => spec_DrawSlope.f k l) (p0, p1, p2, p3, p4, p5, p6, p7, p8, p9, p10, p11, p12) ∧ goodP p0 p1 p2 p3 p4 p5 p6 p7 p8 p9 p10 p11 p12 := by
  obtain ⟨s, hs⟩ := new_v l hn
  obtain ⟨p0, p1, p2, p3, p4, p5, p6, p7, p8, p9, p10, p11, p12, q, t, e, h⟩ := paint_r l 0 s (by omega) (by omega) hn
  refine ⟨p0, p1, p2, p3, p4, p5, p6, p7, p8, p9, p10, p11, p12, ?_, h⟩
  unfold spec_DrawSlope.f
  refine Ev.bind hs ?_
  simp only [e, Option.bind_some]
  exact Ev.now _
def R256 (x : Int) : Int := (x + 128) / 256
theorem RoundDiv256 {x : Int} (h0 : 0 ≤ x) (h1 : x ≤ 1000000000) : spec_RoundDiv.f x 256 = some (R256 x) := by
  unfold spec_RoundDiv.f
  rw [if_neg (by omega), spec_FloorDiv_v (by omega) (by omega) (by omega) (by omega), Option.bind_some]
  rw [w64 (x := x / 256 * 256) (by omega) (by omega), w64 (x := x - x / 256 * 256) (by omega) (by omega), w64 (x := 256 - (x - x / 256 * 256)) (by omega) (by omega), w64 (x := x / 256 + 1) (by omega) (by omega)]
  unfold R256
  split
  · congr 1
    omega
  · congr 1
    omega
theorem mix_r {a b n : Int} (ha : 0 ≤ a ∧ a ≤ 255) (hb : 0 ≤ b ∧ b ≤ 255) (hn : 0 ≤ n ∧ n ≤ 256) : spec_l12Mix.f a b n = some (R256 ((256 - n) * a + n * b)) ∧ 0 ≤ R256 ((256 - n) * a + n * b) ∧ R256 ((256 - n) * a + n * b) ≤ 255 := by
  have h1 : 0 ≤ (256 - n) * a := Int.mul_nonneg (by omega) ha.1
  have h2 : 0 ≤ n * b := Int.mul_nonneg hn.1 hb.1
  have h3 : (256 - n) * a ≤ (256 - n) * 255 := Int.mul_le_mul_of_nonneg_left ha.2 (by omega)
  have h4 : n * b ≤ n * 255 := Int.mul_le_mul_of_nonneg_left hb.2 hn.1
  refine ⟨?_, ?_, ?_⟩
  · unfold spec_l12Mix.f
    rw [w64 (x := 256 - n) (by omega) (by omega), w64 (x := (256 - n) * a) (by omega) (by omega), w64 (x := n * b) (by omega) (by omega), w64 (by omega) (by omega), RoundDiv256 (by omega) (by omega)]
    rfl
  · unfold R256
    omega
  · unfold R256
    omega
theorem mix_first (a b : Int) : R256 ((256 - 0) * a + 0 * b) = a := by
  unfold R256
  omega
theorem mix_last (a b : Int) : R256 ((256 - 256) * a + 256 * b) = b := by
  unfold R256
  omega
theorem laid_i {a b c d : Int} (h : colP a b c d) : ∃ p q r s : Int, impl_Laid.f a b c d = some (p, q, r, s) ∧ laidOkP p q r s := by
  obtain ⟨p, q, r, s, e1, e2⟩ := Laid_v a b c d
  obtain ⟨p', q', r', s', e3, e4⟩ := laid_r h.1 h.2.1 h.2.2.1 h.2.2.2
  rw [e1] at e3
  obtain ⟨rfl, rfl, rfl, rfl⟩ : p = p' ∧ q = q' ∧ r = r' ∧ s = s' := by simpa using e3
  exact ⟨p, q, r, s, e2, e4⟩
theorem partOf_tot (a0 a1 a2 a3 a4 a5 a6 a7 a8 a9 a10 a11 a12 x y : Int) : ∃ n, impl_partOf.f a0 a1 a2 a3 a4 a5 a6 a7 a8 a9 a10 a11 a12 x y = some n ∧ 0 ≤ n ∧ n ≤ 256 := by
  obtain ⟨q, hq⟩ := spec_FloorDiv_tot (wrap64 (256 * (wrap64 ((wrap64 ((wrap64 ((wrap64 ((wrap64 (256 * clampI x (-2000) 2000)) + 128)) - a9)) * (wrap64 (a11 - a9)))) + (wrap64 ((wrap64 ((wrap64 ((wrap64 (256 * clampI y (-2000) 2000)) + 128)) - a10)) * (wrap64 (a12 - a10)))))))) (wrap64 ((wrap64 ((wrap64 (a11 - a9)) * (wrap64 (a11 - a9)))) + (wrap64 ((wrap64 (a12 - a10)) * (wrap64 (a12 - a10))))))
  refine ⟨clampI q 0 256, ?_, ?_, ?_⟩
  · unfold impl_partOf.f impl_taken.f
    simp only [Option.bind_some, neg2000, impl_Clamp_v, if_true, impl_FloorDiv_s, hq]
  · unfold clampI
    split
    · omega
    · split <;> omega
  · unfold clampI
    split
    · omega
    · split <;> omega
theorem colorAt_two {a0 a1 a2 a3 a4 a5 a6 a7 a8 a9 a10 a11 a12 x y n p q r s : Int} (h : spec_PaintOk.f a0 a1 a2 a3 a4 a5 a6 a7 a8 a9 a10 a11 a12 = some true) (h1 : ¬ a0 = 1) (hn : impl_partOf.f a0 a1 a2 a3 a4 a5 a6 a7 a8 a9 a10 a11 a12 x y = some n) (hc : colP a1 a2 a3 a4) (hd : colP a5 a6 a7 a8) (hb : 0 ≤ n ∧ n ≤ 256)
    (g : impl_Laid.f (R256 ((256 - n) * a1 + n * a5)) (R256 ((256 - n) * a2 + n * a6)) (R256 ((256 - n) * a3 + n * a7)) (R256 ((256 - n) * a4 + n * a8)) = some (p, q, r, s)) : impl_ColorAt.f a0 a1 a2 a3 a4 a5 a6 a7 a8 a9 a10 a11 a12 x y = some (p, q, r, s) := by
  have e := (paintOk_same a0 a1 a2 a3 a4 a5 a6 a7 a8 a9 a10 a11 a12).1
  unfold impl_ColorAt.f
  simp only [e, h, Option.bind_some, if_true, if_neg h1, hn, impl_each_ColorAt_1.f, mix_same, (mix_r hc.1 hd.1 hb).1, (mix_r hc.2.1 hd.2.1 hb).1, (mix_r hc.2.2.1 hd.2.2.1 hb).1, (mix_r hc.2.2.2 hd.2.2.2 hb).1, g]
theorem colorAt_r {a0 a1 a2 a3 a4 a5 a6 a7 a8 a9 a10 a11 a12 : Int} (x y : Int) (h : goodP a0 a1 a2 a3 a4 a5 a6 a7 a8 a9 a10 a11 a12) : ∃ p q r s : Int, impl_ColorAt.f a0 a1 a2 a3 a4 a5 a6 a7 a8 a9 a10 a11 a12 x y = some (p, q, r, s) ∧ laidOkP p q r s ∧ (a0 = 1 → impl_Laid.f a1 a2 a3 a4 = some (p, q, r, s)) := by
  have ok := good_ok h
  obtain ⟨hc, h2⟩ := h
  rcases h2 with ⟨h1, _⟩ | ⟨h1, hd, _, _, _⟩
  · obtain ⟨p, q, r, s, e1, e2⟩ := laid_i hc
    refine ⟨p, q, r, s, ?_, e2, fun _ => e1⟩
    have e := (paintOk_same a0 a1 a2 a3 a4 a5 a6 a7 a8 a9 a10 a11 a12).1
    unfold impl_ColorAt.f
    simp only [e, ok, Option.bind_some, if_true, if_pos h1, e1]
  · obtain ⟨n, e1, e2, e3⟩ := partOf_tot a0 a1 a2 a3 a4 a5 a6 a7 a8 a9 a10 a11 a12 x y
    have m1 := mix_r hc.1 hd.1 ⟨e2, e3⟩
    have m2 := mix_r hc.2.1 hd.2.1 ⟨e2, e3⟩
    have m3 := mix_r hc.2.2.1 hd.2.2.1 ⟨e2, e3⟩
    have m4 := mix_r hc.2.2.2 hd.2.2.2 ⟨e2, e3⟩
    obtain ⟨p, q, r, s, g1, g2⟩ := laid_i (show colP _ _ _ _ from ⟨m1.2, m2.2, m3.2, m4.2⟩)
    exact ⟨p, q, r, s, colorAt_two ok (by omega) e1 hc hd ⟨e2, e3⟩ g1, g2, fun h => by omega⟩
def ramp (x : Int) : Int := clampI ((167772160 * clampI x (-2000) 2000) / 6553600) 0 256
theorem partOf_ramp (a1 a2 a3 a4 a5 a6 a7 a8 x y : Int) : impl_partOf.f 2 a1 a2 a3 a4 a5 a6 a7 a8 128 0 2688 0 x y = some (ramp x) := by
  have hx : -2000 ≤ clampI x (-2000) 2000 ∧ clampI x (-2000) 2000 ≤ 2000 := by
    unfold clampI
    split
    · omega
    · split <;> omega
  unfold impl_partOf.f impl_taken.f ramp
  simp only [Option.bind_some, neg2000, impl_Clamp_v, impl_FloorDiv_s]
  have z : wrap64 ((0 : Int) - 0) = 0 := w64 (by omega) (by omega)
  have z2 : wrap64 ((2688 : Int) - 128) = 2560 := by rw [w64 (by omega) (by omega)]; rfl
  have z0 : wrap64 (0 : Int) = 0 := w64 (by omega) (by omega)
  simp only [z, z2, z0, Int.mul_zero, Int.add_zero]
  rw [w64 (x := 256 * clampI x (-2000) 2000) (by omega) (by omega), w64 (x := 256 * clampI x (-2000) 2000 + 128) (by omega) (by omega), w64 (x := 256 * clampI x (-2000) 2000 + 128 - 128) (by omega) (by omega), w64 (x := (256 * clampI x (-2000) 2000 + 128 - 128) * 2560) (by omega) (by omega), w64 (x := (256 * clampI x (-2000) 2000 + 128 - 128) * 2560) (by omega) (by omega), w64 (x := 256 * ((256 * clampI x (-2000) 2000 + 128 - 128) * 2560)) (by omega) (by omega), w64 (x := (2560 : Int) * 2560) (by omega) (by omega), w64 (x := (2560 : Int) * 2560) (by omega) (by omega), spec_FloorDiv_v (by omega) (by omega) (by omega) (by omega)]
  simp only [Option.bind_some]
  congr 2
  omega
theorem ramp_bd (x : Int) : 0 ≤ ramp x ∧ ramp x ≤ 256 := by
  unfold ramp
  generalize (167772160 * clampI x (-2000) 2000) / 6553600 = q
  unfold clampI
  split
  · omega
  · split <;> omega
theorem ramp_up {x : Int} (h0 : 0 ≤ x) (h1 : x ≤ 10) : ramp x ≤ ramp (x + 1) := by
  unfold ramp clampI
  repeat' split
  all_goals omega
theorem ramp_0 : ramp 0 = 0 := by decide
theorem ramp_10 : ramp 10 = 256 := by decide
theorem ramp_9 : ramp (-9) = 0 := by decide
theorem ramp_good {a1 a2 a3 a4 a5 a6 a7 a8 : Int} (hc : colP a1 a2 a3 a4) (hd : colP a5 a6 a7 a8) : goodP 2 a1 a2 a3 a4 a5 a6 a7 a8 128 0 2688 0 :=
  ⟨hc, .inr ⟨rfl, hd, by unfold pointOkP; omega, by unfold pointOkP; omega, by omega⟩⟩
theorem PartOf_ramp {a1 a2 a3 a4 a5 a6 a7 a8 : Int} (hc : colP a1 a2 a3 a4) (hd : colP a5 a6 a7 a8) (x y : Int) : impl_PartOf.f 2 a1 a2 a3 a4 a5 a6 a7 a8 128 0 2688 0 x y = some (ramp x) := by
  unfold impl_PartOf.f
  rw [if_pos rfl, (paintOk_same 2 a1 a2 a3 a4 a5 a6 a7 a8 128 0 2688 0).1, good_ok (ramp_good hc hd), Option.bind_some, if_pos rfl, partOf_ramp]
  rfl
theorem paints_l {a0 a1 a2 a3 a4 a5 a6 a7 a8 a9 a10 a11 a12 n : Int} (hn : 0 ≤ n ∧ n ≤ 256) (hc : colP a1 a2 a3 a4) (hd : colP a5 a6 a7 a8) : ∀ (d : Nat) (i : Int), i + d = 10 → 0 ≤ i → Ev (fun k => laws_FnPaints.l0 k n i a0 a1 a2 a3 a4 a5 a6 a7 a8 a9 a10 a11 a12 2 a1 a2 a3 a4 a5 a6 a7 a8 128 0 2688 0) true := by
  intro d
  induction d with
  | zero =>
    intro i hi h0
    obtain ⟨p, q, r, s, g1, _⟩ := laid_i hc
    obtain ⟨p', q', r', s', g2, _⟩ := laid_i hd
    have ok := good_ok (ramp_good hc hd)
    have k0 : ∀ y, impl_ColorAt.f 2 a1 a2 a3 a4 a5 a6 a7 a8 128 0 2688 0 0 y = some (p, q, r, s) := fun y => colorAt_two ok (by omega) (by rw [partOf_ramp, ramp_0]) hc hd (by omega) (by simp only [mix_first]; exact g1)
    have k1 : ∀ y, impl_ColorAt.f 2 a1 a2 a3 a4 a5 a6 a7 a8 128 0 2688 0 10 y = some (p', q', r', s') := fun y => colorAt_two ok (by omega) (by rw [partOf_ramp, ramp_10]) hc hd (by omega) (by simp only [mix_last]; exact g2)
    have k2 : ∀ y, impl_ColorAt.f 2 a1 a2 a3 a4 a5 a6 a7 a8 128 0 2688 0 (-9) y = some (p, q, r, s) := fun y => colorAt_two ok (by omega) (by rw [partOf_ramp, ramp_9]) hc hd (by omega) (by simp only [mix_first]; exact g1)
    refine ev_done (fun k => ?_)
    simp only [laws_FnPaints.l0, k0, k1, k2, g1, g2, Option.bind_some, beq_self_eq_true, Bool.and_self, if_true]
    rw [if_neg (by omega), if_pos (by omega), if_pos (by omega)]
  | succ d ih =>
    intro i hi h0
    refine Ev.step (fun k => ?_) (ih (i + 1) (by omega) (by omega))
    have u := ramp_up h0 (show i ≤ 10 by omega)
    simp only [laws_FnPaints.l0, PartOf_ramp hc hd, Option.bind_some, w64 (x := i + 1) (by omega) (by omega)]
    rw [if_pos (by omega), if_neg (by omega)]
theorem paints_end {a0 a1 a2 a3 a4 a5 a6 a7 a8 a9 a10 a11 a12 x y p q r s : Int} (h : goodP a0 a1 a2 a3 a4 a5 a6 a7 a8 a9 a10 a11 a12) (hl : a0 = 1 → impl_Laid.f a1 a2 a3 a4 = some (p, q, r, s)) : Ev (fun k => laws_FnPaints.j0 k x y false a0 a1 a2 a3 a4 a5 a6 a7 a8 a9 a10 a11 a12 p q r s) true := by
  have ok := good_ok h
  obtain ⟨hc, h2⟩ := h
  rcases h2 with ⟨h1, _⟩ | ⟨h1, hd, _, _, _⟩
  · refine ev_done (fun k => ?_)
    simp only [laws_FnPaints.j0, impl_PartOf.f, if_neg (show ¬ a0 = 2 by omega), if_pos h1, hl h1, Option.bind_some, Bool.false_eq_true, if_false, beq_self_eq_true, Bool.and_self, if_true]
  · obtain ⟨n, e1, e2, e3⟩ := partOf_tot a0 a1 a2 a3 a4 a5 a6 a7 a8 a9 a10 a11 a12 x y
    have hP : impl_PartOf.f a0 a1 a2 a3 a4 a5 a6 a7 a8 a9 a10 a11 a12 x y = some n := by
      unfold impl_PartOf.f
      rw [if_pos h1, (paintOk_same a0 a1 a2 a3 a4 a5 a6 a7 a8 a9 a10 a11 a12).1, ok, Option.bind_some, if_pos rfl, e1]
      rfl
    refine Ev.step (fun k => ?_) (paints_l (a0 := a0) (a9 := a9) (a10 := a10) (a11 := a11) (a12 := a12) ⟨e2, e3⟩ hc hd 10 0 (by omega) (by omega))
    simp only [laws_FnPaints.j0, hP, if_neg (show ¬ a0 = 1 by omega), Option.bind_some, Bool.false_eq_true, if_false]
theorem FnPaints : laws_FnPaints.Pure := by
  intro l hl _ _
  by_cases hn : (l.length : Int) > 1048576
  · exact ⟨0, by simp only [laws_FnPaints.f, laws_big.f, Option.bind_some, decide_eq_true hn, if_true]⟩
  · obtain ⟨a0, a1, a2, a3, a4, a5, a6, a7, a8, a9, a10, a11, a12, hs, hg⟩ := DrawSlope_v l (by omega)
    obtain ⟨w, hw, hw2, _⟩ := DrawPlaces_v l (by omega)
    generalize hx : wrap64 ((Int.tmod (rd w 0) 14) - 1) = x
    generalize hy : wrap64 ((Int.tmod (rd w 1) 14) - 1) = y
    obtain ⟨p, q, r, s, c1, c2, c3⟩ := colorAt_r x y hg
    obtain ⟨p', q', r', s', v1, v2⟩ := ColorAt_v a0 a1 a2 a3 a4 a5 a6 a7 a8 a9 a10 a11 a12 x y
    rw [c1] at v2
    obtain ⟨rfl, rfl, rfl, rfl⟩ : p = p' ∧ q = q' ∧ r = r' ∧ s = s' := by simpa using v2
    have ok : impl_PaintOk.f a0 a1 a2 a3 a4 a5 a6 a7 a8 a9 a10 a11 a12 = some true := (paintOk_same a0 a1 a2 a3 a4 a5 a6 a7 a8 a9 a10 a11 a12).1.trans (good_ok hg)
    obtain ⟨c4, c5, c6, c7⟩ := id c2
    refine Ev.rounds ?_
    simp only [laws_FnPaints.f, laws_big.f, Option.bind_some, decide_eq_false hn, Bool.false_eq_true, if_false]
    refine Ev.bind hs (Ev.bind hw ?_)
    simp only [hx, hy, c1, ok, Option.bind_some, if_true, impl_ColorOk_v, decide_eq_true (show _ from c4), if_neg (show ¬ p > s by omega), if_neg (show ¬ q > s by omega), if_neg (show ¬ r > s by omega), if_pos (show (0 : Int) < (w.length : Int) by omega), if_pos (show (1 : Int) < (w.length : Int) by omega)]
    refine Ev.bind v1 ?_
    simp only [beq_self_eq_true, Bool.not_true, Bool.or_self]
    exact paints_end hg c3

end Go.Proofs.Ytndeonfbolookaa.Pure
