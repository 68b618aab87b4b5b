/- The pure statement of the law FnBlends, for every input: what the printed functions compute makes the law answer true. No conditions beyond what the row reads. -/
import Derived.Test.YtamfgkeaohookaaMFnBlendsx7
namespace Go.Proofs.Ytamfgkeaohookaa.Pure
open Go.RowKit Go.Proofs.Ytamfgkeaohookaa.MFnBlends Go.Proofs.YtamfgkeaohookaaW.PrintWords Go.Proofs.YtamfgkeaohookaaW.PrintLast
set_option linter.unusedVariables false
set_option linter.unusedSimpArgs false

/-! base -/
theorem w64 {x : Int} (h1 : -9223372036854775808 ≤ x) (h2 : x ≤ 9223372036854775807) : wrap64 x = x := by
  unfold wrap64
  omega

theorem wf64 {x : Int} (h : (Lit.int .i64 x).wf = true) : -9223372036854775808 ≤ x ∧ x ≤ 9223372036854775807 := by
  have h2 : (decide (IntKind.i64.min ≤ x) && decide (x ≤ IntKind.i64.max)) = true := h
  rw [Bool.and_eq_true, decide_eq_true_eq, decide_eq_true_eq] at h2
  exact ⟨h2.1, h2.2⟩

theorem take_set_succ {α : Type} (xs : List α) (i : Nat) (v : α) (h : i < xs.length) : (xs.set i v).take (i + 1) = xs.take i ++ [v] := by
  rw [List.take_succ_eq_append_getElem (by simpa using h), List.take_set_of_le (Nat.le_refl i), List.getElem_set_self]

theorem step64 {i n : Nat} (h : i < n) (hn : n ≤ 4611686018427387904) : wrap64 ((i : Int) + 1) = ((i + 1 : Nat) : Int) := by
  rw [w64 (by omega) (by omega)]
  omega

theorem ev_done {α : Type} {g : Nat → Option α} {r : α} (h : ∀ k, g (k + 1) = some r) : Ev g r := Ev.step (f := fun _ => some r) h (Ev.now r)

theorem ev_const {α : Type} {o : Option α} {r : α} (h : o = some r) : Ev (fun _ => o) r := by
  subst h
  exact Ev.now r

/-! spec_l01In -/
theorem spec_l01In_v (a b c : Int) : spec_l01In.f a b c = some (decide (b ≤ a ∧ a ≤ c)) := by
  unfold spec_l01In.f
  by_cases h : a ≥ b
  · rw [if_pos h]
    simp [h]
  · rw [if_neg h]
    simp
    omega

/-! spec_ColorOk -/
theorem spec_ColorOk_v (a b c d : Int) : spec_ColorOk.f a b c d = some (decide ((0 ≤ a ∧ a ≤ 255) ∧ (0 ≤ b ∧ b ≤ 255) ∧ (0 ≤ c ∧ c ≤ 255) ∧ (0 ≤ d ∧ d ≤ 255))) := by
  unfold spec_ColorOk.f
  simp only [spec_l01In_v, Option.bind_some, decide_eq_true_eq]
  repeat' split
  all_goals first | (refine congrArg some (decide_eq_decide.mpr ?_); omega) | (refine congrArg some (Eq.symm (decide_eq_false ?_)); omega)

/-! spec_LaidOk -/
def laidOkP (a b c d : Int) : Prop := ((0 ≤ a ∧ a ≤ 255) ∧ (0 ≤ b ∧ b ≤ 255) ∧ (0 ≤ c ∧ c ≤ 255) ∧ (0 ≤ d ∧ d ≤ 255)) ∧ a ≤ d ∧ b ≤ d ∧ c ≤ d
instance (a b c d : Int) : Decidable (laidOkP a b c d) := by unfold laidOkP; infer_instance
theorem spec_LaidOk_v (a b c d : Int) : spec_LaidOk.f a b c d = some (decide (laidOkP a b c d)) := by
  unfold spec_LaidOk.f laidOkP
  simp only [spec_ColorOk_v, Option.bind_some, decide_eq_true_eq]
  repeat' split
  all_goals first | (refine congrArg some (decide_eq_decide.mpr ?_); omega) | (refine congrArg some (Eq.symm (decide_eq_false ?_)); omega)

/-! impl_inRange -/
theorem impl_inRange_v (a b c : Int) : impl_inRange.f a b c = some (decide (b ≤ a ∧ a ≤ c)) := by
  unfold impl_inRange.f
  by_cases h : a ≥ b
  · rw [if_pos h]
    simp [h]
  · rw [if_neg h]
    simp
    omega

/-! impl_isByte -/
theorem impl_isByte_v (a : Int) : impl_isByte.f a = some (decide (0 ≤ a ∧ a ≤ 255)) := by
  unfold impl_isByte.f
  simp only [impl_inRange_v, Option.bind_some]

/-! impl_ColorOk -/
theorem impl_ColorOk_v (a b c d : Int) : impl_ColorOk.f a b c d = some (decide ((0 ≤ a ∧ a ≤ 255) ∧ (0 ≤ b ∧ b ≤ 255) ∧ (0 ≤ c ∧ c ≤ 255) ∧ (0 ≤ d ∧ d ≤ 255))) := by
  unfold impl_ColorOk.f
  simp only [impl_isByte_v, Option.bind_some, decide_eq_true_eq]
  repeat' split
  all_goals first | (refine congrArg some (decide_eq_decide.mpr ?_); omega) | (refine congrArg some (Eq.symm (decide_eq_false ?_)); omega)

/-! impl_LaidOk -/
theorem impl_LaidOk_v (a b c d : Int) : impl_LaidOk.f a b c d = some (decide (laidOkP a b c d)) := by
  unfold impl_LaidOk.f laidOkP
  simp only [impl_ColorOk_v, Option.bind_some, decide_eq_true_eq]
  repeat' split
  all_goals first | (refine congrArg some (decide_eq_decide.mpr ?_); omega) | (refine congrArg some (Eq.symm (decide_eq_false ?_)); omega)

/-! spec_FloorDiv -/
theorem spec_FloorDiv_tot (a b : Int) : ∃ q, spec_FloorDiv.f a b = some q := by
  unfold spec_FloorDiv.f
  by_cases h : b < 1
  · exact ⟨0, by rw [if_pos h]⟩
  · rw [if_neg h, if_neg (by omega)]
    split <;> exact ⟨_, rfl⟩
theorem spec_FloorDiv_v {a b : Int} (ha : -9223372036854775808 ≤ a) (ha2 : a ≤ 9223372036854775807) (hb : 1 ≤ b) (hb2 : b ≤ 9223372036854775807) : spec_FloorDiv.f a b = some (a / b) := by
  have hq : -9223372036854775808 ≤ a / b ∧ a / b ≤ 9223372036854775807 := by
    refine ⟨(Int.le_ediv_iff_mul_le (by omega)).mpr ?_, ?_⟩
    · have : 9223372036854775808 * 1 ≤ 9223372036854775808 * b := Int.mul_le_mul_of_nonneg_left hb (by omega)
      rw [Int.neg_mul]
      omega
    · rcases Int.le_total 0 a with h | h
      · exact Int.le_trans (Int.ediv_le_self b h) ha2
      · have : a / b ≤ 0 := Int.ediv_le_of_le_mul (by omega) (by omega)
        omega
  have hm := Int.emod_nonneg a (show b ≠ 0 by omega)
  have hml := Int.emod_lt_of_pos a (show 0 < b by omega)
  have hd := Int.mul_ediv_add_emod a b
  unfold spec_FloorDiv.f
  rw [if_neg (by omega), if_neg (by omega)]
  by_cases h0 : 0 ≤ a
  · rw [Int.tmod_eq_emod_of_nonneg h0, if_neg (by omega), Int.tdiv_eq_ediv_of_nonneg h0, w64 hq.1 hq.2]
  · have e1 : Int.tdiv a b = if a % b = 0 then a / b else a / b + 1 := by
      rw [Int.tdiv_eq_ediv]
      have hs : b.sign = 1 := Int.sign_eq_one_of_pos (by omega)
      by_cases hz : a % b = 0
      · rw [if_pos hz, if_pos (.inr (Int.dvd_of_emod_eq_zero hz))]
        omega
      · rw [if_neg hz, if_neg (by
          rintro (h | h)
          · omega
          · exact hz (Int.emod_eq_zero_of_dvd h)), hs]
    have e2 : Int.tmod a b = a - b * Int.tdiv a b := by have := Int.mul_tdiv_add_tmod a b; omega
    by_cases hz : a % b = 0
    · rw [if_pos hz] at e1
      rw [if_neg (by rw [e2, e1]; omega), e1, w64 hq.1 hq.2]
    · rw [if_neg hz] at e1
      have hlt : a / b + 1 ≤ 0 := by
        have : a / b < 0 := Int.ediv_neg_of_neg_of_pos (by omega) (by omega)
        omega
      rw [if_pos (by rw [e2, e1, Int.mul_add]; omega), e1, w64 (x := a / b + 1) (by omega) (by omega), w64 (by omega) (by omega)]
      congr 1
      omega

/-! spec_RoundDiv -/
theorem spec_RoundDiv_tot (a b : Int) : ∃ q, spec_RoundDiv.f a b = some q := by
  obtain ⟨q, hq⟩ := spec_FloorDiv_tot a b
  unfold spec_RoundDiv.f
  rw [hq, Option.bind_some]
  split
  · exact ⟨_, rfl⟩
  · split <;> exact ⟨_, rfl⟩

/-! impl_FloorDiv -/
theorem impl_FloorDiv_s (a b : Int) : impl_FloorDiv.f a b = spec_FloorDiv.f a b := rfl

/-! impl_RoundDiv -/
theorem impl_RoundDiv_s (a b : Int) : impl_RoundDiv.f a b = spec_RoundDiv.f a b := rfl

/-! Clamp -/
def clampI (x low high : Int) : Int := if x < low then low else if x > high then high else x
theorem spec_Clamp_v (x low high : Int) : spec_Clamp.f x low high = some (clampI x low high) := by
  unfold spec_Clamp.f clampI
  split
  · rfl
  · split <;> rfl
theorem impl_Clamp_v (x low high : Int) : impl_Clamp.f x low high = some (clampI x low high) := by
  unfold impl_Clamp.f clampI
  split
  · rfl
  · split <;> rfl

/-! Times255 -/
theorem spec_Times255_tot (a b : Int) : ∃ q, spec_Times255.f a b = some q := by
  unfold spec_Times255.f
  simp only [spec_Clamp_v, Option.bind_some]
  obtain ⟨q, hq⟩ := spec_RoundDiv_tot (wrap64 (clampI a 0 255 * clampI b 0 255)) 255
  exact ⟨q, by rw [hq]; rfl⟩
theorem impl_Times255_s (a b : Int) : impl_Times255.f a b = spec_Times255.f a b := by
  unfold impl_Times255.f spec_Times255.f
  simp only [spec_Clamp_v, impl_Clamp_v, Option.bind_some, impl_RoundDiv_s]

/-! Blend -/
theorem mn255 (x : Int) : (if x > 255 then some (255 : Int) else some x) = some (mn x 255) := by
  unfold mn
  split <;> first | rfl | (split <;> first | rfl | omega)
theorem l13_tot (m s d sa da : Int) : ∃ r, spec_l13Part.f m s d sa da = some r := by
  obtain ⟨t, ht⟩ := spec_Times255_tot d (wrap64 (255 - sa))
  obtain ⟨u, hu⟩ := spec_RoundDiv_tot (wrap64 ((wrap64 ((wrap64 (s * d)) + (wrap64 (s * (wrap64 (255 - da)))))) + (wrap64 (d * (wrap64 (255 - sa)))))) 255
  obtain ⟨v, hv⟩ := spec_RoundDiv_tot (wrap64 (s * d)) 255
  unfold spec_l13Part.f
  simp only [ht, hu, hv, Option.bind_some, mn255]
  repeat' split
  all_goals exact ⟨_, rfl⟩
theorem l13_same {m : Int} (s d sa da : Int) (hm : 1 ≤ m ∧ m ≤ 5) : impl_Blend_1.f s d (wrap64 (255 - sa)) m (wrap64 (255 - da)) = spec_l13Part.f m s d sa da := by
  obtain ⟨t, ht⟩ := spec_Times255_tot d (wrap64 (255 - sa))
  obtain ⟨u, hu⟩ := spec_RoundDiv_tot (wrap64 ((wrap64 ((wrap64 (s * d)) + (wrap64 (s * (wrap64 (255 - da)))))) + (wrap64 (d * (wrap64 (255 - sa)))))) 255
  obtain ⟨v, hv⟩ := spec_RoundDiv_tot (wrap64 (s * d)) 255
  unfold spec_l13Part.f impl_Blend_1.f
  simp only [impl_Times255_s, impl_RoundDiv_s, ht, hu, hv, Option.bind_some, mn255]
  have : m = 1 ∨ m = 2 ∨ m = 3 ∨ m = 4 ∨ m = 5 := by omega
  rcases this with rfl | rfl | rfl | rfl | rfl
  · simp [Int.add_comm t s]
  · simp
  · simp
  · simp
  · simp
theorem l13_other {m d : Int} (s sa da : Int) (hm : ¬ (1 ≤ m ∧ m ≤ 5)) (hd : d ≤ 255) : spec_l13Part.f m s d sa da = some d := by
  unfold spec_l13Part.f
  rw [if_neg (by omega), if_neg (by omega), if_neg (by omega), if_neg (by omega), if_neg (by omega), if_neg (by omega)]
theorem Blend_v (m a b c d e f g h : Int) : ∃ p q r s : Int, Ev (fun k => spec_Blend.f k m a b c d e f g h) (p, q, r, s) ∧ impl_Blend.f m a b c d e f g h = some (p, q, r, s) := by
  obtain ⟨p, hp⟩ := l13_tot m a e d h
  obtain ⟨q, hq⟩ := l13_tot m b f d h
  obtain ⟨r, hr⟩ := l13_tot m c g d h
  obtain ⟨s, hs⟩ := l13_tot m d h d h
  have j1 : ∀ k, spec_Blend.j0 (k + 1) m true a b c d e f g h = some (e, f, g, h) := fun k => by simp only [spec_Blend.j0, if_true]
  have j2 : ∀ k, spec_Blend.j0 (k + 1) m false a b c d e f g h = some (p, q, r, s) := fun k => by simp only [spec_Blend.j0, Bool.false_eq_true, if_false, hp, hq, hr, hs, Option.bind_some]
  unfold spec_Blend.f impl_Blend.f impl_each_Blend_1.f impl_isMode.f
  simp only [spec_LaidOk_v, impl_LaidOk_v, impl_inRange_v, Option.bind_some]
  by_cases h1 : laidOkP a b c d
  · by_cases h2 : laidOkP e f g h
    · refine ⟨p, q, r, s, ?_, ?_⟩
      · simp only [decide_eq_true h1, decide_eq_true h2, if_true, Bool.not_true]
        exact ev_done j2
      · by_cases hm : 1 ≤ m ∧ m ≤ 5
        · simp only [decide_eq_true hm, decide_eq_true h1, decide_eq_true h2, if_true, l13_same _ _ _ _ hm, hp, hq, hr, hs, Option.bind_some]
        · simp only [decide_eq_false hm, Bool.false_eq_true, if_false]
          obtain ⟨⟨h3, h4, h5, h6⟩, h7, h8, h9⟩ := h2
          rw [l13_other _ _ _ hm (by omega)] at hp hq hr hs
          simp only [Option.some.injEq] at hp hq hr hs
          rw [hp, hq, hr, hs]
    · refine ⟨e, f, g, h, ?_, ?_⟩
      · simp only [decide_eq_true h1, decide_eq_false h2, if_true, Bool.not_false]
        exact ev_done j1
      · simp only [decide_eq_false h2, Bool.false_eq_true, if_false, ite_self]
  · refine ⟨e, f, g, h, ?_, ?_⟩
    · simp only [decide_eq_false h1, Bool.false_eq_true, if_false]
      exact ev_done j1
    · simp only [decide_eq_false h1, Bool.false_eq_true, if_false, ite_self]

/-! Draw -/
theorem and255 (n : Int) : Go.bits .and .i64 n 255 = n % 256 := by
  have h255 : (BitVec.ofInt 64 255).toNat = 2 ^ 8 - 1 := by decide
  have key : (BitVec.ofInt 64 n &&& BitVec.ofInt 64 255).toNat = (n % ((2 ^ 64 : Nat) : Int)).toNat % 2 ^ 8 := by
    rw [BitVec.toNat_and, BitVec.toNat_ofInt, h255, Nat.and_two_pow_sub_one_eq_mod]
  show IntKind.i64.wrap ((BitVec.ofInt 64 n &&& BitVec.ofInt 64 255).toNat : Nat) = n % 256
  rw [key, IntKind.wrap_i64]
  omega
theorem byte_r (l : List Int) (p s : Int) (hp : 0 ≤ p) (hl : p ≤ l.length) (hn : l.length ≤ 1048576) : ∃ b q t : Int, spec_l01Byte.f l p s = some (b, q, t) ∧ 0 ≤ b ∧ b ≤ 255 ∧ 0 ≤ q ∧ q ≤ l.length := by
  unfold spec_l01Byte.f
  by_cases h : p < (l.length : Int)
  · rw [if_pos h, if_pos hp]
    refine ⟨_, _, _, rfl, ?_, ?_, ?_, ?_⟩
    · rw [and255]
      omega
    · rw [and255]
      omega
    · rw [w64 (by omega) (by omega)]
      omega
    · rw [w64 (by omega) (by omega)]
      omega
  · rw [if_neg h]
    refine ⟨_, _, _, rfl, ?_, ?_, hp, hl⟩
    · rw [and255]
      omega
    · rw [and255]
      omega
theorem below_r (l : List Int) (p s n : Int) (hp : 0 ≤ p) (hl : p ≤ l.length) (hn : l.length ≤ 1048576) (h0 : 0 < n) (h1 : n ≤ 9223372036854775807) : ∃ b q t : Int, spec_l01Below.f l p s n = some (b, q, t) ∧ 0 ≤ b ∧ b < n ∧ 0 ≤ q ∧ q ≤ l.length := by
  unfold spec_l01Below.f
  rw [if_neg (by omega)]
  by_cases h : n ≤ 256
  · obtain ⟨b, q, t, e, b0, b1, q0, q1⟩ := byte_r l p s hp hl hn
    rw [if_pos h, e]
    simp only [Option.bind_some]
    rw [if_neg (by omega)]
    refine ⟨_, _, _, rfl, ?_, ?_, q0, q1⟩
    · exact Int.tmod_nonneg _ b0
    · exact Int.tmod_lt_of_pos _ h0
  · obtain ⟨b, q, t, e, b0, b1, q0, q1⟩ := byte_r l p s hp hl hn
    obtain ⟨b', q', t', e', b0', b1', q0', q1'⟩ := byte_r l q t q0 q1 hn
    obtain ⟨b2, q2, t2, e2, b02, b12, q02, q12⟩ := byte_r l q' t' q0' q1' hn
    obtain ⟨b3, q3, t3, e3, b03, b13, q03, q13⟩ := byte_r l q2 t2 q02 q12 hn
    rw [if_neg h, e]
    simp only [Option.bind_some, e', e2, e3]
    rw [if_neg (by omega)]
    refine ⟨_, _, _, rfl, ?_, ?_, q03, q13⟩
    · refine Int.tmod_nonneg _ ?_
      rw [w64 (x := b * 16777216) (by omega) (by omega), w64 (x := b' * 65536) (by omega) (by omega), w64 (x := b2 * 256) (by omega) (by omega), w64 (x := b * 16777216 + b' * 65536) (by omega) (by omega), w64 (x := b * 16777216 + b' * 65536 + b2 * 256) (by omega) (by omega), w64 (by omega) (by omega)]
      omega
    · exact Int.tmod_lt_of_pos _ h0
theorem pick_r (l : List Int) (p s : Int) (xs : List Int) (hp : 0 ≤ p) (hl : p ≤ l.length) (hn : l.length ≤ 1048576) (h0 : 0 < xs.length) (h1 : xs.length ≤ 1048576) : ∃ (i : Nat) (q t : Int), spec_l01PickInt.f l p s xs = some (rd xs (i : Int), q, t) ∧ i < xs.length ∧ 0 ≤ q ∧ q ≤ l.length := by
  obtain ⟨b, q, t, e, b0, b1, q0, q1⟩ := below_r l p s (xs.length : Int) hp hl hn (by omega) (by omega)
  unfold spec_l01PickInt.f
  rw [e]
  simp only [Option.bind_some]
  rw [if_pos b0, if_pos b1]
  refine ⟨b.toNat, q, t, ?_, by omega, q0, q1⟩
  rw [Int.toNat_of_nonneg b0]
theorem new_l (l : List Int) (hn : l.length ≤ 1048576) : ∀ (d : Nat) (i : Int) (x3 : Int), i + d = 4000 → 0 ≤ i → ∃ s, Ev (fun k => spec_l01New.l0 k l x3 i) (l, 0, s) := by
  intro d
  induction d with
  | zero =>
    intro i x3 hi h0
    refine ⟨x3, ev_done (fun k => ?_)⟩
    simp only [spec_l01New.l0]
    by_cases h : i < (l.length : Int)
    · rw [if_pos h, if_neg (by omega)]
    · rw [if_neg h]
  | succ d ih =>
    intro i x3 hi h0
    by_cases h : i < (l.length : Int)
    · obtain ⟨s, hs⟩ := ih (i + 1) (Go.bits .and .i64 (wrap64 ((wrap64 ((wrap64 (x3 * 131)) + (wrap64 (rd l i)))) + 7)) 1073741823) (by omega) (by omega)
      refine ⟨s, Ev.step (fun k => ?_) hs⟩
      simp only [spec_l01New.l0]
      rw [if_pos h, if_pos (by omega), if_pos h0, w64 (x := i + 1) (by omega) (by omega)]
    · refine ⟨x3, ev_done (fun k => ?_)⟩
      simp only [spec_l01New.l0]
      rw [if_neg h]
theorem new_v (l : List Int) (hn : l.length ≤ 1048576) : ∃ s, Ev (fun k => spec_l01New.f k l) (l, 0, s) := by
  obtain ⟨s, hs⟩ := new_l l hn 4000 0 (wrap64 (28001 + (l.length : Int))) (by omega) (by omega)
  exact ⟨s, hs⟩
def R255 (x : Int) : Int := (x + 127) / 255
theorem RoundDiv255 {x : Int} (h0 : 0 ≤ x) (h1 : x ≤ 1000000000) : spec_RoundDiv.f x 255 = some (R255 x) := by
  unfold spec_RoundDiv.f
  rw [if_neg (by omega), spec_FloorDiv_v (by omega) (by omega) (by omega) (by omega), Option.bind_some]
  rw [w64 (x := x / 255 * 255) (by omega) (by omega), w64 (x := x - x / 255 * 255) (by omega) (by omega), w64 (x := 255 - (x - x / 255 * 255)) (by omega) (by omega), w64 (x := x / 255 + 1) (by omega) (by omega)]
  unfold R255
  split
  · congr 1
    omega
  · congr 1
    omega

/-! Times255v -/
theorem mul_bd {a b : Int} (ha : 0 ≤ a ∧ a ≤ 255) (hb : 0 ≤ b ∧ b ≤ 255) : 0 ≤ a * b ∧ a * b ≤ 65025 ∧ a * b ≤ 255 * a ∧ a * b ≤ 255 * b := by
  refine ⟨Int.mul_nonneg ha.1 hb.1, ?_, ?_, Int.mul_le_mul_of_nonneg_right ha.2 hb.1⟩
  · have h1 := Int.mul_le_mul_of_nonneg_right ha.2 hb.1
    omega
  · have h1 := Int.mul_le_mul_of_nonneg_left hb.2 ha.1
    omega
theorem spec_Times255_r {a b : Int} (ha : 0 ≤ a ∧ a ≤ 255) (hb : 0 ≤ b ∧ b ≤ 255) : spec_Times255.f a b = some (R255 (a * b)) := by
  obtain ⟨h1, h2, _, _⟩ := mul_bd ha hb
  have ca : clampI a 0 255 = a := by
    unfold clampI
    rw [if_neg (by omega), if_neg (by omega)]
  have cb : clampI b 0 255 = b := by
    unfold clampI
    rw [if_neg (by omega), if_neg (by omega)]
  unfold spec_Times255.f
  simp only [spec_Clamp_v, Option.bind_some, ca, cb]
  rw [w64 (by omega) (by omega), RoundDiv255 h1 (by omega)]
  rfl

/-! DrawColors -/
theorem color_r (l : List Int) (p s : Int) (hp : 0 ≤ p) (hl : p ≤ l.length) (hn : l.length ≤ 1048576) : ∃ a b c d q t : Int, spec_l12Color.f l p s = some (a, b, c, d, q, t) ∧ (0 ≤ a ∧ a ≤ 255) ∧ (0 ≤ b ∧ b ≤ 255) ∧ (0 ≤ c ∧ c ≤ 255) ∧ (0 ≤ d ∧ d ≤ 255) ∧ 0 ≤ q ∧ q ≤ l.length := by
  obtain ⟨b0, q0, t0, e0, l0, u0, v0, w0⟩ := below_r l p s 256 hp hl hn (by omega) (by omega)
  obtain ⟨b1, q1, t1, e1, l1, u1, v1, w1⟩ := below_r l q0 t0 256 v0 w0 hn (by omega) (by omega)
  obtain ⟨b2, q2, t2, e2, l2, u2, v2, w2⟩ := below_r l q1 t1 256 v1 w1 hn (by omega) (by omega)
  obtain ⟨i, q3, t3, e3, l3, v3, w3⟩ := pick_r l q2 t2 [255, 255, 128, 0, 1, 200] v2 w2 hn (by simp) (by simp)
  unfold spec_l12Color.f
  rw [e0]
  simp only [Option.bind_some, e1, e2, e3]
  refine ⟨_, _, _, _, _, _, rfl, ⟨l0, by omega⟩, ⟨l1, by omega⟩, ⟨l2, by omega⟩, ?_, v3, w3⟩
  have hi : i = 0 ∨ i = 1 ∨ i = 2 ∨ i = 3 ∨ i = 4 ∨ i = 5 := by
    simp at l3
    omega
  rcases hi with rfl | rfl | rfl | rfl | rfl | rfl <;> simp [rd]
theorem laid_r {a b c d : Int} (ha : 0 ≤ a ∧ a ≤ 255) (hb : 0 ≤ b ∧ b ≤ 255) (hc : 0 ≤ c ∧ c ≤ 255) (hd : 0 ≤ d ∧ d ≤ 255) : ∃ p q r s : Int, spec_Laid.f a b c d = some (p, q, r, s) ∧ laidOkP p q r s := by
  unfold spec_Laid.f
  rw [spec_ColorOk_v, Option.bind_some, decide_eq_true (show _ from ⟨ha, hb, hc, hd⟩)]
  simp only [if_true, spec_Times255_r ha hd, spec_Times255_r hb hd, spec_Times255_r hc hd, Option.bind_some]
  refine ⟨_, _, _, _, rfl, ?_⟩
  obtain ⟨a1, a2, a3, a4⟩ := mul_bd ha hd
  obtain ⟨b1, b2, b3, b4⟩ := mul_bd hb hd
  obtain ⟨c1, c2, c3, c4⟩ := mul_bd hc hd
  unfold laidOkP R255
  omega
theorem DrawColors_v (l : List Int) (hn : l.length ≤ 1048576) : ∃ a b c d e f g h : Int, Ev (fun k => spec_DrawColors.f k l) (a, b, c, d, e, f, g, h) ∧ laidOkP a b c d ∧ laidOkP e f g h := by
  obtain ⟨s, hs⟩ := new_v l hn
  obtain ⟨a, b, c, d, q, t, e0, ha, hb, hc, hd, hq, hq2⟩ := color_r l 0 s (by omega) (by omega) hn
  obtain ⟨p1, p2, p3, p4, e1, k1⟩ := laid_r ha hb hc hd
  obtain ⟨a', b', c', d', q', t', e0', ha', hb', hc', hd', hq', hq2'⟩ := color_r l q t hq hq2 hn
  obtain ⟨r1, r2, r3, r4, e1', k1'⟩ := laid_r ha' hb' hc' hd'
  refine ⟨p1, p2, p3, p4, r1, r2, r3, r4, ?_, k1, k1'⟩
  unfold spec_DrawColors.f
  refine Ev.bind hs ?_
  simp only [e0, e1, e0', e1', Option.bind_some]
  exact Ev.now _

/-! law_FnBlends -/
def mn255v (x : Int) : Int := if x > 255 then 255 else x
def partP (m s d sa da : Int) : Int :=
  if m = 1 then mn255v (s + R255 (d * (255 - sa))) else if m = 2 then mn255v (R255 (s * d + s * (255 - da) + d * (255 - sa))) else if m = 3 then mn255v (s + d - R255 (s * d)) else if m = 4 then mn255v (s + d) else mn255v (R255 (d * (255 - sa)))
theorem l13_v {m s d sa da : Int} (hm : 1 ≤ m ∧ m ≤ 5) (hs : 0 ≤ s ∧ s ≤ 255) (hd : 0 ≤ d ∧ d ≤ 255) (hsa : 0 ≤ sa ∧ sa ≤ 255) (hda : 0 ≤ da ∧ da ≤ 255) : spec_l13Part.f m s d sa da = some (partP m s d sa da) := by
  have e1 : wrap64 (255 - sa) = 255 - sa := w64 (by omega) (by omega)
  have e2 : wrap64 (255 - da) = 255 - da := w64 (by omega) (by omega)
  obtain ⟨p1, p2, p3, p4⟩ := mul_bd hd (show 0 ≤ 255 - sa ∧ 255 - sa ≤ 255 by omega)
  obtain ⟨q1, q2, q3, q4⟩ := mul_bd hs (show 0 ≤ 255 - da ∧ 255 - da ≤ 255 by omega)
  obtain ⟨r1, r2, r3, r4⟩ := mul_bd hs hd
  have t := spec_Times255_r hd (show 0 ≤ 255 - sa ∧ 255 - sa ≤ 255 by omega)
  have u1 : 0 ≤ R255 (d * (255 - sa)) ∧ R255 (d * (255 - sa)) ≤ 255 := by
    unfold R255
    omega
  have u2 : 0 ≤ R255 (s * d) ∧ R255 (s * d) ≤ 255 := by
    unfold R255
    omega
  unfold spec_l13Part.f partP mn255v
  simp only [e1, e2, t, Option.bind_some]
  rw [w64 (x := s * d) (by omega) (by omega), w64 (x := s * (255 - da)) (by omega) (by omega), w64 (x := d * (255 - sa)) (by omega) (by omega), w64 (x := s * d + s * (255 - da)) (by omega) (by omega), w64 (x := s * d + s * (255 - da) + d * (255 - sa)) (by omega) (by omega), RoundDiv255 (x := s * d + s * (255 - da) + d * (255 - sa)) (by omega) (by omega), RoundDiv255 (x := s * d) (by omega) (by omega), w64 (x := s + R255 (d * (255 - sa))) (by omega) (by omega), w64 (x := s + d) (by omega) (by omega)]
  simp only [Option.bind_some]
  rw [w64 (x := s + d - R255 (s * d)) (by omega) (by omega)]
  repeat' split
  all_goals first | rfl | omega
theorem Blend_r {m a b c d e f g h : Int} (h1 : laidOkP a b c d) (h2 : laidOkP e f g h) : impl_Blend.f m a b c d e f g h = some (if 1 ≤ m ∧ m ≤ 5 then (partP m a e d h, partP m b f d h, partP m c g d h, partP m d h d h) else (e, f, g, h)) := by
  unfold impl_Blend.f impl_each_Blend_1.f impl_isMode.f
  simp only [impl_LaidOk_v, impl_inRange_v, Option.bind_some]
  by_cases hm : 1 ≤ m ∧ m ≤ 5
  · obtain ⟨⟨a1, a2, a3, a4⟩, _⟩ := id h1
    obtain ⟨⟨b1, b2, b3, b4⟩, _⟩ := id h2
    simp only [decide_eq_true hm, decide_eq_true h1, decide_eq_true h2, if_true, l13_same _ _ _ _ hm, l13_v hm a1 b1 a4 b4, l13_v hm a2 b2 a4 b4, l13_v hm a3 b3 a4 b4, l13_v hm a4 b4 a4 b4, Option.bind_some, if_pos hm]
  · simp only [decide_eq_false hm, Bool.false_eq_true, if_false, if_neg hm]
theorem part_mono {m s d sa da : Int} (hs : 0 ≤ s ∧ s ≤ sa) (hd : 0 ≤ d ∧ d ≤ da) (hsa : sa ≤ 255) (hda : da ≤ 255) : 0 ≤ partP m s d sa da ∧ partP m s d sa da ≤ 255 ∧ partP m s d sa da ≤ partP m sa da sa da := by
  have m1 : d * (255 - sa) ≤ da * (255 - sa) := Int.mul_le_mul_of_nonneg_right hd.2 (by omega)
  have m2 : s * (255 - da) ≤ sa * (255 - da) := Int.mul_le_mul_of_nonneg_right hs.2 (by omega)
  have m3 : s * d ≤ sa * d := Int.mul_le_mul_of_nonneg_right hs.2 (by omega)
  have m4 : sa * d ≤ sa * da := Int.mul_le_mul_of_nonneg_left hd.2 (by omega)
  have m5 : (sa - s) * d ≤ (sa - s) * 255 := Int.mul_le_mul_of_nonneg_left (by omega) (by omega)
  have m6 : sa * (da - d) ≤ 255 * (da - d) := Int.mul_le_mul_of_nonneg_right hsa (by omega)
  rw [Int.sub_mul] at m5
  rw [Int.mul_sub] at m6
  have n1 : 0 ≤ d * (255 - sa) := Int.mul_nonneg (by omega) (by omega)
  have n2 : 0 ≤ s * (255 - da) := Int.mul_nonneg (by omega) (by omega)
  have n3 : 0 ≤ s * d := Int.mul_nonneg (by omega) (by omega)
  have n4 : s * d ≤ s * 255 := Int.mul_le_mul_of_nonneg_left (by omega) (by omega)
  unfold partP mn255v R255
  repeat' split
  all_goals omega
theorem blend_laid {m a b c d e f g h : Int} (h1 : laidOkP a b c d) (h2 : laidOkP e f g h) : ∃ p q r s : Int, impl_Blend.f m a b c d e f g h = some (p, q, r, s) ∧ laidOkP p q r s := by
  rw [Blend_r h1 h2]
  by_cases hm : 1 ≤ m ∧ m ≤ 5
  · rw [if_pos hm]
    refine ⟨_, _, _, _, rfl, ?_⟩
    obtain ⟨⟨a1, a2, a3, a4⟩, a5, a6, a7⟩ := h1
    obtain ⟨⟨b1, b2, b3, b4⟩, b5, b6, b7⟩ := h2
    have k1 := part_mono (m := m) ⟨a1.1, a5⟩ ⟨b1.1, b5⟩ a4.2 b4.2
    have k2 := part_mono (m := m) ⟨a2.1, a6⟩ ⟨b2.1, b6⟩ a4.2 b4.2
    have k3 := part_mono (m := m) ⟨a3.1, a7⟩ ⟨b3.1, b7⟩ a4.2 b4.2
    have k4 := part_mono (m := m) ⟨a4.1, Int.le_refl d⟩ ⟨b4.1, Int.le_refl h⟩ a4.2 b4.2
    unfold laidOkP
    omega
  · rw [if_neg hm]
    exact ⟨_, _, _, _, rfl, h2⟩
theorem part_zero {m d da : Int} (hd : 0 ≤ d ∧ d ≤ 255) : partP m 0 d 0 da = d := by
  unfold partP mn255v R255
  simp only [Int.zero_mul, Int.sub_zero, Int.zero_add]
  repeat' split
  all_goals omega
theorem laid_zero : laidOkP 0 0 0 0 := by unfold laidOkP; omega
theorem blend_zero {m e f g h : Int} (h2 : laidOkP e f g h) : impl_Blend.f m 0 0 0 0 e f g h = some (e, f, g, h) := by
  rw [Blend_r laid_zero h2]
  obtain ⟨⟨b1, b2, b3, b4⟩, _⟩ := h2
  rw [part_zero b1, part_zero b2, part_zero b3, part_zero b4, ite_self]
theorem part_full {s d da : Int} (hs : 0 ≤ s ∧ s ≤ 255) : partP 1 s d 255 da = s ∧ partP 5 s d 255 da = 0 := by
  unfold partP mn255v R255
  simp only [Int.sub_self, Int.mul_zero, if_true]
  refine ⟨?_, by simp⟩
  split <;> omega
theorem part_clear {s sa : Int} (hs : 0 ≤ s ∧ s ≤ 255) : partP 1 s 0 sa 0 = s := by
  unfold partP mn255v R255
  simp only [Int.zero_mul, if_true]
  split <;> omega
theorem part_sym (s d sa da : Int) : partP 2 s d sa da = partP 2 d s da sa ∧ partP 3 s d sa da = partP 3 d s da sa ∧ partP 4 s d sa da = partP 4 d s da sa := by
  unfold partP
  refine ⟨?_, ?_, ?_⟩
  · have : s * d + s * (255 - da) + d * (255 - sa) = d * s + d * (255 - sa) + s * (255 - da) := by
      rw [Int.mul_comm d s]
      omega
    simp [this]
  · simp [Int.mul_comm d s, Int.add_comm d s]
  · simp [Int.add_comm d s]
theorem blends_end {a b c d e f g h : Int} (h1 : laidOkP a b c d) (h2 : laidOkP e f g h) : Ev (fun k => laws_FnBlends.j1 k false a b c d e f g h 0 0 0 0) true := by
  refine ev_done (fun k => ?_)
  simp only [laws_FnBlends.j1, Blend_r h1 h2, Blend_r h2 h1, Blend_r h1 laid_zero, Bool.false_eq_true, if_false, Option.bind_some]
  obtain ⟨⟨a1, a2, a3, a4⟩, _⟩ := h1
  simp [(part_sym a e d h).1, (part_sym b f d h).1, (part_sym c g d h).1, (part_sym d h d h).1, (part_sym a e d h).2.1, (part_sym b f d h).2.1, (part_sym c g d h).2.1, (part_sym d h d h).2.1, (part_sym a e d h).2.2, (part_sym b f d h).2.2, (part_sym c g d h).2.2, (part_sym d h d h).2.2, part_clear a1, part_clear a2, part_clear a3, part_clear a4]
theorem blends_l {a b c d e f g h : Int} (h1 : laidOkP a b c d) (h2 : laidOkP e f g h) : ∀ (n : Nat) (i : Int), i + n = 7 → 0 ≤ i → Ev (fun k => laws_FnBlends.l0 k i a b c d e f g h 0 0 0 0) true := by
  intro n
  induction n with
  | zero =>
    intro i hi h0
    by_cases hd : d = 255
    · subst hd
      obtain ⟨⟨a1, a2, a3, a4⟩, _⟩ := id h1
      refine Ev.step (fun k => ?_) (blends_end h1 h2)
      simp only [laws_FnBlends.l0, Blend_r h1 h2, Option.bind_some]
      rw [if_neg (by omega)]
      simp [part_full a1, part_full a2, part_full a3, part_full a4]
    · refine Ev.step (fun k => ?_) (blends_end h1 h2)
      simp only [laws_FnBlends.l0]
      rw [if_neg (by omega), if_neg hd]
  | succ n ih =>
    intro i hi h0
    obtain ⟨p, q, r, s, e1, k1⟩ := blend_laid (m := i) h1 h2
    obtain ⟨p', q', r', s', g1, g2⟩ := Blend_v i a b c d e f g h
    rw [e1] at g2
    obtain ⟨rfl, rfl, rfl, rfl⟩ : p = p' ∧ q = q' ∧ r = r' ∧ s = s' := by simpa using g2
    refine Ev.step (f := _) (fun k => by simp only [laws_FnBlends.l0, e1, impl_LaidOk_v, decide_eq_true k1, blend_zero h2, Option.bind_some, if_true]; rw [if_pos (by omega)]) ?_
    refine Ev.bind g1 ?_
    simp only [beq_self_eq_true, Bool.not_true, Bool.or_self, Bool.false_eq_true, if_false, w64 (x := i + 1) (by omega) (by omega)]
    exact ih (i + 1) (by omega) (by omega)
theorem FnBlends : laws_FnBlends.Pure := by
  intro l hl _ _
  by_cases hn : (l.length : Int) > 1048576
  · exact ⟨0, by simp only [laws_FnBlends.f, laws_big.f, Option.bind_some, decide_eq_true hn, if_true]⟩
  · obtain ⟨a, b, c, d, e, f, g, h, hs, h1, h2⟩ := DrawColors_v l (by omega)
    refine Ev.rounds ?_
    simp only [laws_FnBlends.f, laws_big.f, Option.bind_some, decide_eq_false hn, Bool.false_eq_true, if_false]
    exact Ev.bind hs (blends_l h1 h2 7 0 (by omega) (by omega))

end Go.Proofs.Ytamfgkeaohookaa.Pure
