/- The pure statement of the law FnFades, for every input: what the printed functions compute makes the law answer true. No conditions beyond what the row reads. -/
import Derived.Test.YtndeonfbolookaaMFnFadesx6
namespace Go.Proofs.Ytndeonfbolookaa.Pure
open Go.RowKit Go.Proofs.Ytndeonfbolookaa.MFnFades Go.Proofs.YtndeonfbolookaaW.PrintWords Go.Proofs.YtndeonfbolookaaW.PrintLast
set_option linter.unusedVariables false
set_option linter.unusedSimpArgs false

/-! base -/
theorem w64 {x : Int} (h1 : -9223372036854775808 ≤ x) (h2 : x ≤ 9223372036854775807) : wrap64 x = x := by
  unfold wrap64
  omega

theorem wf64 {x : Int} (h : (Lit.int .i64 x).wf = true) : -9223372036854775808 ≤ x ∧ x ≤ 9223372036854775807 := by
  have h2 : (decide (IntKind.i64.min ≤ x) && decide (x ≤ IntKind.i64.max)) = true := h
  rw [Bool.and_eq_true, decide_eq_true_eq, decide_eq_true_eq] at h2
  exact ⟨h2.1, h2.2⟩

theorem take_set_succ {α : Type} (xs : List α) (i : Nat) (v : α) (h : i < xs.length) : (xs.set i v).take (i + 1) = xs.take i ++ [v] := by
  rw [List.take_succ_eq_append_getElem (by simpa using h), List.take_set_of_le (Nat.le_refl i), List.getElem_set_self]

theorem step64 {i n : Nat} (h : i < n) (hn : n ≤ 4611686018427387904) : wrap64 ((i : Int) + 1) = ((i + 1 : Nat) : Int) := by
  rw [w64 (by omega) (by omega)]
  omega

theorem ev_done {α : Type} {g : Nat → Option α} {r : α} (h : ∀ k, g (k + 1) = some r) : Ev g r := Ev.step (f := fun _ => some r) h (Ev.now r)

theorem ev_const {α : Type} {o : Option α} {r : α} (h : o = some r) : Ev (fun _ => o) r := by
  subst h
  exact Ev.now r

/-! impl_inRange -/
theorem impl_inRange_v (a b c : Int) : impl_inRange.f a b c = some (decide (b ≤ a ∧ a ≤ c)) := by
  unfold impl_inRange.f
  by_cases h : a ≥ b
  · rw [if_pos h]
    simp [h]
  · rw [if_neg h]
    simp
    omega

/-! impl_isByte -/
theorem impl_isByte_v (a : Int) : impl_isByte.f a = some (decide (0 ≤ a ∧ a ≤ 255)) := by
  unfold impl_isByte.f
  simp only [impl_inRange_v, Option.bind_some]

/-! spec_l01In -/
theorem spec_l01In_v (a b c : Int) : spec_l01In.f a b c = some (decide (b ≤ a ∧ a ≤ c)) := by
  unfold spec_l01In.f
  by_cases h : a ≥ b
  · rw [if_pos h]
    simp [h]
  · rw [if_neg h]
    simp
    omega

/-! spec_ColorOk -/
theorem spec_ColorOk_v (a b c d : Int) : spec_ColorOk.f a b c d = some (decide ((0 ≤ a ∧ a ≤ 255) ∧ (0 ≤ b ∧ b ≤ 255) ∧ (0 ≤ c ∧ c ≤ 255) ∧ (0 ≤ d ∧ d ≤ 255))) := by
  unfold spec_ColorOk.f
  simp only [spec_l01In_v, Option.bind_some, decide_eq_true_eq]
  repeat' split
  all_goals first | (refine congrArg some (decide_eq_decide.mpr ?_); omega) | (refine congrArg some (Eq.symm (decide_eq_false ?_)); omega)

/-! spec_LaidOk -/
def laidOkP (a b c d : Int) : Prop := ((0 ≤ a ∧ a ≤ 255) ∧ (0 ≤ b ∧ b ≤ 255) ∧ (0 ≤ c ∧ c ≤ 255) ∧ (0 ≤ d ∧ d ≤ 255)) ∧ a ≤ d ∧ b ≤ d ∧ c ≤ d
instance (a b c d : Int) : Decidable (laidOkP a b c d) := by unfold laidOkP; infer_instance
theorem spec_LaidOk_v (a b c d : Int) : spec_LaidOk.f a b c d = some (decide (laidOkP a b c d)) := by
  unfold spec_LaidOk.f laidOkP
  simp only [spec_ColorOk_v, Option.bind_some, decide_eq_true_eq]
  repeat' split
  all_goals first | (refine congrArg some (decide_eq_decide.mpr ?_); omega) | (refine congrArg some (Eq.symm (decide_eq_false ?_)); omega)

/-! impl_ColorOk -/
theorem impl_ColorOk_v (a b c d : Int) : impl_ColorOk.f a b c d = some (decide ((0 ≤ a ∧ a ≤ 255) ∧ (0 ≤ b ∧ b ≤ 255) ∧ (0 ≤ c ∧ c ≤ 255) ∧ (0 ≤ d ∧ d ≤ 255))) := by
  unfold impl_ColorOk.f
  simp only [impl_isByte_v, Option.bind_some, decide_eq_true_eq]
  repeat' split
  all_goals first | (refine congrArg some (decide_eq_decide.mpr ?_); omega) | (refine congrArg some (Eq.symm (decide_eq_false ?_)); omega)

/-! impl_LaidOk -/
theorem impl_LaidOk_v (a b c d : Int) : impl_LaidOk.f a b c d = some (decide (laidOkP a b c d)) := by
  unfold impl_LaidOk.f laidOkP
  simp only [impl_ColorOk_v, Option.bind_some, decide_eq_true_eq]
  repeat' split
  all_goals first | (refine congrArg some (decide_eq_decide.mpr ?_); omega) | (refine congrArg some (Eq.symm (decide_eq_false ?_)); omega)

/-! spec_FloorDiv -/
theorem spec_FloorDiv_tot (a b : Int) : ∃ q, spec_FloorDiv.f a b = some q := by
  unfold spec_FloorDiv.f
  by_cases h : b < 1
  · exact ⟨0, by rw [if_pos h]⟩
  · rw [if_neg h, if_neg (by omega)]
    split <;> exact ⟨_, rfl⟩
theorem spec_FloorDiv_v {a b : Int} (ha : -9223372036854775808 ≤ a) (ha2 : a ≤ 9223372036854775807) (hb : 1 ≤ b) (hb2 : b ≤ 9223372036854775807) : spec_FloorDiv.f a b = some (a / b) := by
  have hq : -9223372036854775808 ≤ a / b ∧ a / b ≤ 9223372036854775807 := by
    refine ⟨(Int.le_ediv_iff_mul_le (by omega)).mpr ?_, ?_⟩
    · have : 9223372036854775808 * 1 ≤ 9223372036854775808 * b := Int.mul_le_mul_of_nonneg_left hb (by omega)
      rw [Int.neg_mul]
      omega
    · rcases Int.le_total 0 a with h | h
      · exact Int.le_trans (Int.ediv_le_self b h) ha2
      · have : a / b ≤ 0 := Int.ediv_le_of_le_mul (by omega) (by omega)
        omega
  have hm := Int.emod_nonneg a (show b ≠ 0 by omega)
  have hml := Int.emod_lt_of_pos a (show 0 < b by omega)
  have hd := Int.mul_ediv_add_emod a b
  unfold spec_FloorDiv.f
  rw [if_neg (by omega), if_neg (by omega)]
  by_cases h0 : 0 ≤ a
  · rw [Int.tmod_eq_emod_of_nonneg h0, if_neg (by omega), Int.tdiv_eq_ediv_of_nonneg h0, w64 hq.1 hq.2]
  · have e1 : Int.tdiv a b = if a % b = 0 then a / b else a / b + 1 := by
      rw [Int.tdiv_eq_ediv]
      have hs : b.sign = 1 := Int.sign_eq_one_of_pos (by omega)
      by_cases hz : a % b = 0
      · rw [if_pos hz, if_pos (.inr (Int.dvd_of_emod_eq_zero hz))]
        omega
      · rw [if_neg hz, if_neg (by
          rintro (h | h)
          · omega
          · exact hz (Int.emod_eq_zero_of_dvd h)), hs]
    have e2 : Int.tmod a b = a - b * Int.tdiv a b := by have := Int.mul_tdiv_add_tmod a b; omega
    by_cases hz : a % b = 0
    · rw [if_pos hz] at e1
      rw [if_neg (by rw [e2, e1]; omega), e1, w64 hq.1 hq.2]
    · rw [if_neg hz] at e1
      have hlt : a / b + 1 ≤ 0 := by
        have : a / b < 0 := Int.ediv_neg_of_neg_of_pos (by omega) (by omega)
        omega
      rw [if_pos (by rw [e2, e1, Int.mul_add]; omega), e1, w64 (x := a / b + 1) (by omega) (by omega), w64 (by omega) (by omega)]
      congr 1
      omega

/-! spec_RoundDiv -/
theorem spec_RoundDiv_tot (a b : Int) : ∃ q, spec_RoundDiv.f a b = some q := by
  obtain ⟨q, hq⟩ := spec_FloorDiv_tot a b
  unfold spec_RoundDiv.f
  rw [hq, Option.bind_some]
  split
  · exact ⟨_, rfl⟩
  · split <;> exact ⟨_, rfl⟩

/-! impl_FloorDiv -/
theorem impl_FloorDiv_s (a b : Int) : impl_FloorDiv.f a b = spec_FloorDiv.f a b := rfl

/-! impl_RoundDiv -/
theorem impl_RoundDiv_s (a b : Int) : impl_RoundDiv.f a b = spec_RoundDiv.f a b := rfl

/-! Thin -/
theorem Thin_v (a b c d n : Int) : ∃ p q r s : Int, Ev (fun k => spec_Thin.f k a b c d n) (p, q, r, s) ∧ impl_Thin.f a b c d n = some (p, q, r, s) := by
  obtain ⟨p, hp⟩ := spec_RoundDiv_tot (wrap64 (a * n)) 4
  obtain ⟨q, hq⟩ := spec_RoundDiv_tot (wrap64 (b * n)) 4
  obtain ⟨r, hr⟩ := spec_RoundDiv_tot (wrap64 (c * n)) 4
  obtain ⟨s, hs⟩ := spec_RoundDiv_tot (wrap64 (d * n)) 4
  have j1 : ∀ k, spec_Thin.j0 (k + 1) n true a b c d = some (0, 0, 0, 0) := fun k => by simp only [spec_Thin.j0, if_true]
  have j2 : ∀ k, spec_Thin.j0 (k + 1) n false a b c d = some (p, q, r, s) := fun k => by simp only [spec_Thin.j0, Bool.false_eq_true, if_false, hp, hq, hr, hs, Option.bind_some]
  unfold spec_Thin.f impl_Thin.f impl_each_Thin_1.f impl_Thin_1.f
  simp only [spec_LaidOk_v, impl_LaidOk_v, spec_l01In_v, impl_inRange_v, impl_RoundDiv_s, hp, hq, hr, hs, Option.bind_some]
  by_cases h1 : laidOkP a b c d
  · by_cases h2 : 0 ≤ n ∧ n ≤ 4
    · refine ⟨p, q, r, s, ?_, ?_⟩
      · simp only [decide_eq_true h1, decide_eq_true h2, if_true, Bool.not_true]
        exact ev_done j2
      · simp only [decide_eq_true h1, decide_eq_true h2, if_true]
    · refine ⟨0, 0, 0, 0, ?_, ?_⟩
      · simp only [decide_eq_true h1, decide_eq_false h2, if_true, Bool.not_false]
        exact ev_done j1
      · simp only [decide_eq_false h2, Bool.false_eq_true, if_false]
  · refine ⟨0, 0, 0, 0, ?_, ?_⟩
    · simp only [decide_eq_false h1, Bool.false_eq_true, if_false]
      exact ev_done j1
    · simp only [decide_eq_false h1, Bool.false_eq_true, if_false, ite_self]

/-! Draw -/
theorem and255 (n : Int) : Go.bits .and .i64 n 255 = n % 256 := by
  have h255 : (BitVec.ofInt 64 255).toNat = 2 ^ 8 - 1 := by decide
  have key : (BitVec.ofInt 64 n &&& BitVec.ofInt 64 255).toNat = (n % ((2 ^ 64 : Nat) : Int)).toNat % 2 ^ 8 := by
    rw [BitVec.toNat_and, BitVec.toNat_ofInt, h255, Nat.and_two_pow_sub_one_eq_mod]
  show IntKind.i64.wrap ((BitVec.ofInt 64 n &&& BitVec.ofInt 64 255).toNat : Nat) = n % 256
  rw [key, IntKind.wrap_i64]
  omega
theorem byte_r (l : List Int) (p s : Int) (hp : 0 ≤ p) (hl : p ≤ l.length) (hn : l.length ≤ 1048576) : ∃ b q t : Int, spec_l01Byte.f l p s = some (b, q, t) ∧ 0 ≤ b ∧ b ≤ 255 ∧ 0 ≤ q ∧ q ≤ l.length := by
  unfold spec_l01Byte.f
  by_cases h : p < (l.length : Int)
  · rw [if_pos h, if_pos hp]
    refine ⟨_, _, _, rfl, ?_, ?_, ?_, ?_⟩
    · rw [and255]
      omega
    · rw [and255]
      omega
    · rw [w64 (by omega) (by omega)]
      omega
    · rw [w64 (by omega) (by omega)]
      omega
  · rw [if_neg h]
    refine ⟨_, _, _, rfl, ?_, ?_, hp, hl⟩
    · rw [and255]
      omega
    · rw [and255]
      omega
theorem below_r (l : List Int) (p s n : Int) (hp : 0 ≤ p) (hl : p ≤ l.length) (hn : l.length ≤ 1048576) (h0 : 0 < n) (h1 : n ≤ 9223372036854775807) : ∃ b q t : Int, spec_l01Below.f l p s n = some (b, q, t) ∧ 0 ≤ b ∧ b < n ∧ 0 ≤ q ∧ q ≤ l.length := by
  unfold spec_l01Below.f
  rw [if_neg (by omega)]
  by_cases h : n ≤ 256
  · obtain ⟨b, q, t, e, b0, b1, q0, q1⟩ := byte_r l p s hp hl hn
    rw [if_pos h, e]
    simp only [Option.bind_some]
    rw [if_neg (by omega)]
    refine ⟨_, _, _, rfl, ?_, ?_, q0, q1⟩
    · exact Int.tmod_nonneg _ b0
    · exact Int.tmod_lt_of_pos _ h0
  · obtain ⟨b, q, t, e, b0, b1, q0, q1⟩ := byte_r l p s hp hl hn
    obtain ⟨b', q', t', e', b0', b1', q0', q1'⟩ := byte_r l q t q0 q1 hn
    obtain ⟨b2, q2, t2, e2, b02, b12, q02, q12⟩ := byte_r l q' t' q0' q1' hn
    obtain ⟨b3, q3, t3, e3, b03, b13, q03, q13⟩ := byte_r l q2 t2 q02 q12 hn
    rw [if_neg h, e]
    simp only [Option.bind_some, e', e2, e3]
    rw [if_neg (by omega)]
    refine ⟨_, _, _, rfl, ?_, ?_, q03, q13⟩
    · refine Int.tmod_nonneg _ ?_
      rw [w64 (x := b * 16777216) (by omega) (by omega), w64 (x := b' * 65536) (by omega) (by omega), w64 (x := b2 * 256) (by omega) (by omega), w64 (x := b * 16777216 + b' * 65536) (by omega) (by omega), w64 (x := b * 16777216 + b' * 65536 + b2 * 256) (by omega) (by omega), w64 (by omega) (by omega)]
      omega
    · exact Int.tmod_lt_of_pos _ h0
theorem pick_r (l : List Int) (p s : Int) (xs : List Int) (hp : 0 ≤ p) (hl : p ≤ l.length) (hn : l.length ≤ 1048576) (h0 : 0 < xs.length) (h1 : xs.length ≤ 1048576) : ∃ (i : Nat) (q t : Int), spec_l01PickInt.f l p s xs = some (rd xs (i : Int), q, t) ∧ i < xs.length ∧ 0 ≤ q ∧ q ≤ l.length := by
  obtain ⟨b, q, t, e, b0, b1, q0, q1⟩ := below_r l p s (xs.length : Int) hp hl hn (by omega) (by omega)
  unfold spec_l01PickInt.f
  rw [e]
  simp only [Option.bind_some]
  rw [if_pos b0, if_pos b1]
  refine ⟨b.toNat, q, t, ?_, by omega, q0, q1⟩
  rw [Int.toNat_of_nonneg b0]
theorem new_l (l : List Int) (hn : l.length ≤ 1048576) : ∀ (d : Nat) (i : Int) (x3 : Int), i + d = 4000 → 0 ≤ i → ∃ s, Ev (fun k => spec_l01New.l0 k l x3 i) (l, 0, s) := by
  intro d
  induction d with
  | zero =>
    intro i x3 hi h0
    refine ⟨x3, ev_done (fun k => ?_)⟩
    simp only [spec_l01New.l0]
    by_cases h : i < (l.length : Int)
    · rw [if_pos h, if_neg (by omega)]
    · rw [if_neg h]
  | succ d ih =>
    intro i x3 hi h0
    by_cases h : i < (l.length : Int)
    · obtain ⟨s, hs⟩ := ih (i + 1) (Go.bits .and .i64 (wrap64 ((wrap64 ((wrap64 (x3 * 131)) + (wrap64 (rd l i)))) + 7)) 1073741823) (by omega) (by omega)
      refine ⟨s, Ev.step (fun k => ?_) hs⟩
      simp only [spec_l01New.l0]
      rw [if_pos h, if_pos (by omega), if_pos h0, w64 (x := i + 1) (by omega) (by omega)]
    · refine ⟨x3, ev_done (fun k => ?_)⟩
      simp only [spec_l01New.l0]
      rw [if_neg h]
theorem new_v (l : List Int) (hn : l.length ≤ 1048576) : ∃ s, Ev (fun k => spec_l01New.f k l) (l, 0, s) := by
  obtain ⟨s, hs⟩ := new_l l hn 4000 0 (wrap64 (28001 + (l.length : Int))) (by omega) (by omega)
  exact ⟨s, hs⟩
def R255 (x : Int) : Int := (x + 127) / 255
theorem RoundDiv255 {x : Int} (h0 : 0 ≤ x) (h1 : x ≤ 1000000000) : spec_RoundDiv.f x 255 = some (R255 x) := by
  unfold spec_RoundDiv.f
  rw [if_neg (by omega), spec_FloorDiv_v (by omega) (by omega) (by omega) (by omega), Option.bind_some]
  rw [w64 (x := x / 255 * 255) (by omega) (by omega), w64 (x := x - x / 255 * 255) (by omega) (by omega), w64 (x := 255 - (x - x / 255 * 255)) (by omega) (by omega), w64 (x := x / 255 + 1) (by omega) (by omega)]
  unfold R255
  split
  · congr 1
    omega
  · congr 1
    omega

/-! Clamp -/
def clampI (x low high : Int) : Int := if x < low then low else if x > high then high else x
theorem spec_Clamp_v (x low high : Int) : spec_Clamp.f x low high = some (clampI x low high) := by
  unfold spec_Clamp.f clampI
  split
  · rfl
  · split <;> rfl
theorem impl_Clamp_v (x low high : Int) : impl_Clamp.f x low high = some (clampI x low high) := by
  unfold impl_Clamp.f clampI
  split
  · rfl
  · split <;> rfl

/-! Times255 -/
theorem spec_Times255_tot (a b : Int) : ∃ q, spec_Times255.f a b = some q := by
  unfold spec_Times255.f
  simp only [spec_Clamp_v, Option.bind_some]
  obtain ⟨q, hq⟩ := spec_RoundDiv_tot (wrap64 (clampI a 0 255 * clampI b 0 255)) 255
  exact ⟨q, by rw [hq]; rfl⟩
theorem impl_Times255_s (a b : Int) : impl_Times255.f a b = spec_Times255.f a b := by
  unfold impl_Times255.f spec_Times255.f
  simp only [spec_Clamp_v, impl_Clamp_v, Option.bind_some, impl_RoundDiv_s]

/-! Times255v -/
theorem mul_bd {a b : Int} (ha : 0 ≤ a ∧ a ≤ 255) (hb : 0 ≤ b ∧ b ≤ 255) : 0 ≤ a * b ∧ a * b ≤ 65025 ∧ a * b ≤ 255 * a ∧ a * b ≤ 255 * b := by
  refine ⟨Int.mul_nonneg ha.1 hb.1, ?_, ?_, Int.mul_le_mul_of_nonneg_right ha.2 hb.1⟩
  · have h1 := Int.mul_le_mul_of_nonneg_right ha.2 hb.1
    omega
  · have h1 := Int.mul_le_mul_of_nonneg_left hb.2 ha.1
    omega
theorem spec_Times255_r {a b : Int} (ha : 0 ≤ a ∧ a ≤ 255) (hb : 0 ≤ b ∧ b ≤ 255) : spec_Times255.f a b = some (R255 (a * b)) := by
  obtain ⟨h1, h2, _, _⟩ := mul_bd ha hb
  have ca : clampI a 0 255 = a := by
    unfold clampI
    rw [if_neg (by omega), if_neg (by omega)]
  have cb : clampI b 0 255 = b := by
    unfold clampI
    rw [if_neg (by omega), if_neg (by omega)]
  unfold spec_Times255.f
  simp only [spec_Clamp_v, Option.bind_some, ca, cb]
  rw [w64 (by omega) (by omega), RoundDiv255 h1 (by omega)]
  rfl

/-! DrawColors -/
theorem color_r (l : List Int) (p s : Int) (hp : 0 ≤ p) (hl : p ≤ l.length) (hn : l.length ≤ 1048576) : ∃ a b c d q t : Int, spec_l12Color.f l p s = some (a, b, c, d, q, t) ∧ (0 ≤ a ∧ a ≤ 255) ∧ (0 ≤ b ∧ b ≤ 255) ∧ (0 ≤ c ∧ c ≤ 255) ∧ (0 ≤ d ∧ d ≤ 255) ∧ 0 ≤ q ∧ q ≤ l.length := by
  obtain ⟨b0, q0, t0, e0, l0, u0, v0, w0⟩ := below_r l p s 256 hp hl hn (by omega) (by omega)
  obtain ⟨b1, q1, t1, e1, l1, u1, v1, w1⟩ := below_r l q0 t0 256 v0 w0 hn (by omega) (by omega)
  obtain ⟨b2, q2, t2, e2, l2, u2, v2, w2⟩ := below_r l q1 t1 256 v1 w1 hn (by omega) (by omega)
  obtain ⟨i, q3, t3, e3, l3, v3, w3⟩ := pick_r l q2 t2 [255, 255, 128, 0, 1, 200] v2 w2 hn (by simp) (by simp)
  unfold spec_l12Color.f
  rw [e0]
  simp only [Option.bind_some, e1, e2, e3]
  refine ⟨_, _, _, _, _, _, rfl, ⟨l0, by omega⟩, ⟨l1, by omega⟩, ⟨l2, by omega⟩, ?_, v3, w3⟩
  have hi : i = 0 ∨ i = 1 ∨ i = 2 ∨ i = 3 ∨ i = 4 ∨ i = 5 := by
    simp at l3
    omega
  rcases hi with rfl | rfl | rfl | rfl | rfl | rfl <;> simp [rd]
theorem laid_r {a b c d : Int} (ha : 0 ≤ a ∧ a ≤ 255) (hb : 0 ≤ b ∧ b ≤ 255) (hc : 0 ≤ c ∧ c ≤ 255) (hd : 0 ≤ d ∧ d ≤ 255) : ∃ p q r s : Int, spec_Laid.f a b c d = some (p, q, r, s) ∧ laidOkP p q r s := by
  unfold spec_Laid.f
  rw [spec_ColorOk_v, Option.bind_some, decide_eq_true (show _ from ⟨ha, hb, hc, hd⟩)]
  simp only [if_true, spec_Times255_r ha hd, spec_Times255_r hb hd, spec_Times255_r hc hd, Option.bind_some]
  refine ⟨_, _, _, _, rfl, ?_⟩
  obtain ⟨a1, a2, a3, a4⟩ := mul_bd ha hd
  obtain ⟨b1, b2, b3, b4⟩ := mul_bd hb hd
  obtain ⟨c1, c2, c3, c4⟩ := mul_bd hc hd
  unfold laidOkP R255
  omega
theorem DrawColors_v (l : List Int) (hn : l.length ≤ 1048576) : ∃ a b c d e f g h : Int, Ev (fun k => spec_DrawColors.f k l) (a, b, c, d, e, f, g, h) ∧ laidOkP a b c d ∧ laidOkP e f g h := by
  obtain ⟨s, hs⟩ := new_v l hn
  obtain ⟨a, b, c, d, q, t, e0, ha, hb, hc, hd, hq, hq2⟩ := color_r l 0 s (by omega) (by omega) hn
  obtain ⟨p1, p2, p3, p4, e1, k1⟩ := laid_r ha hb hc hd
  obtain ⟨a', b', c', d', q', t', e0', ha', hb', hc', hd', hq', hq2'⟩ := color_r l q t hq hq2 hn
  obtain ⟨r1, r2, r3, r4, e1', k1'⟩ := laid_r ha' hb' hc' hd'
  refine ⟨p1, p2, p3, p4, r1, r2, r3, r4, ?_, k1, k1'⟩
  unfold spec_DrawColors.f
  refine Ev.bind hs ?_
  simp only [e0, e1, e0', e1', Option.bind_some]
  exact Ev.now _

/-! DrawPlaces -/
theorem places_l (l : List Int) (hn : l.length ≤ 1048576) : ∀ (d : Nat) (i : Int) (acc : List Int) (p s : Int), i + d = 12 → 0 ≤ i → (acc.length : Int) = i → (∀ v ∈ acc, 0 ≤ v) → 0 ≤ p → p ≤ l.length →
    ∃ r, Ev (fun k => spec_DrawPlaces.l0 k acc i l p s) r ∧ r.length = 12 ∧ ∀ v ∈ r, 0 ≤ v := by
  intro d
  induction d with
  | zero =>
    intro i acc p s hi h0 ha hv hp hl
    refine ⟨acc, ev_done (fun k => ?_), by omega, hv⟩
    simp only [spec_DrawPlaces.l0]
    rw [if_neg (by omega)]
  | succ d ih =>
    intro i acc p s hi h0 ha hv hp hl
    obtain ⟨b, q, t, e, b0, b1, q0, q1⟩ := below_r l p s 10000 hp hl hn (by omega) (by omega)
    obtain ⟨r, h1, h2, h3⟩ := ih (i + 1) (acc ++ [b]) q t (by omega) (by omega) (by simp; omega) (by
      intro v hv'
      rcases List.mem_append.mp hv' with h | h
      · exact hv v h
      · obtain rfl : v = b := by simpa using h
        exact b0) q0 q1
    refine ⟨r, Ev.step (fun k => ?_) h1, h2, h3⟩
    simp only [spec_DrawPlaces.l0, e, Option.bind_some, w64 (x := i + 1) (by omega) (by omega)]
    rw [if_pos (by omega), if_pos (by omega)]
theorem DrawPlaces_v (l : List Int) (hn : l.length ≤ 1048576) : ∃ r, Ev (fun k => spec_DrawPlaces.f k l) r ∧ r.length = 12 ∧ ∀ v ∈ r, 0 ≤ v := by
  obtain ⟨s, hs⟩ := new_v l hn
  obtain ⟨b, q, t, e, b0, b1, q0, q1⟩ := byte_r l 0 s (by omega) (by omega) hn
  obtain ⟨r, h1, h2, h3⟩ := places_l l hn 12 0 [] q t (by omega) (by omega) rfl (by simp) q0 q1
  refine ⟨r, ?_, h2, h3⟩
  unfold spec_DrawPlaces.f
  refine Ev.bind hs ?_
  simp only [e, Option.bind_some]
  exact h1

/-! law_FnFades -/
def R4 (x : Int) : Int := (x + 2) / 4
theorem RoundDiv4 {x : Int} (h0 : 0 ≤ x) (h1 : x ≤ 1000000000) : spec_RoundDiv.f x 4 = some (R4 x) := by
  unfold spec_RoundDiv.f
  rw [if_neg (by omega), spec_FloorDiv_v (by omega) (by omega) (by omega) (by omega), Option.bind_some]
  rw [w64 (x := x / 4 * 4) (by omega) (by omega), w64 (x := x - x / 4 * 4) (by omega) (by omega), w64 (x := 4 - (x - x / 4 * 4)) (by omega) (by omega), w64 (x := x / 4 + 1) (by omega) (by omega)]
  unfold R4
  split
  · congr 1
    omega
  · congr 1
    omega
theorem Fade_r {a b c d n : Int} (h : laidOkP a b c d) (hn : 0 ≤ n ∧ n ≤ 255) : impl_Fade.f a b c d n = some (R255 (a * n), R255 (b * n), R255 (c * n), R255 (d * n)) := by
  obtain ⟨⟨a1, a2, a3, a4⟩, _⟩ := id h
  unfold impl_Fade.f impl_each_Fade_1.f impl_Fade_1.f
  simp only [impl_isByte_v, impl_LaidOk_v, decide_eq_true h, decide_eq_true hn, if_true, impl_Times255_s, spec_Times255_r a1 hn, spec_Times255_r a2 hn, spec_Times255_r a3 hn, spec_Times255_r a4 hn, Option.bind_some]
theorem Fade_x {a b c d n : Int} (hn : ¬ (0 ≤ n ∧ n ≤ 255)) : impl_Fade.f a b c d n = some (0, 0, 0, 0) := by
  unfold impl_Fade.f
  simp only [impl_isByte_v, decide_eq_false hn, Option.bind_some, Bool.false_eq_true, if_false]
theorem Thin_1_r {a n : Int} (ha : 0 ≤ a ∧ a ≤ 255) (hn : 0 ≤ n ∧ n ≤ 4) : impl_Thin_1.f a a n = some (R4 (a * n)) := by
  obtain ⟨h1, h2, _, _⟩ := mul_bd ha (show 0 ≤ n ∧ n ≤ 255 by omega)
  unfold impl_Thin_1.f
  rw [impl_RoundDiv_s, w64 (by omega) (by omega), RoundDiv4 h1 (by omega)]
  rfl
theorem Thin_r {a b c d n : Int} (h : laidOkP a b c d) (hn : 0 ≤ n ∧ n ≤ 4) : impl_Thin.f a b c d n = some (R4 (a * n), R4 (b * n), R4 (c * n), R4 (d * n)) := by
  obtain ⟨⟨a1, a2, a3, a4⟩, _⟩ := id h
  unfold impl_Thin.f impl_each_Thin_1.f
  simp only [impl_inRange_v, impl_LaidOk_v, decide_eq_true h, decide_eq_true hn, if_true, Thin_1_r a1 hn, Thin_1_r a2 hn, Thin_1_r a3 hn, Thin_1_r a4 hn, Option.bind_some]
theorem Thin_x {a b c d n : Int} (hn : ¬ (0 ≤ n ∧ n ≤ 4)) : impl_Thin.f a b c d n = some (0, 0, 0, 0) := by
  unfold impl_Thin.f
  simp only [impl_inRange_v, decide_eq_false hn, Option.bind_some, Bool.false_eq_true, if_false]
theorem r255_mono {a d n : Int} (ha : 0 ≤ a) (h : a ≤ d) (hn : 0 ≤ n ∧ n ≤ 255) : 0 ≤ R255 (a * n) ∧ R255 (a * n) ≤ R255 (d * n) ∧ R255 (a * n) ≤ a := by
  have h1 : 0 ≤ a * n := Int.mul_nonneg ha hn.1
  have h2 : a * n ≤ d * n := Int.mul_le_mul_of_nonneg_right h hn.1
  have h3 : a * n ≤ a * 255 := Int.mul_le_mul_of_nonneg_left hn.2 ha
  unfold R255
  omega
theorem r4_mono {a d n : Int} (ha : 0 ≤ a) (h : a ≤ d) (hn : 0 ≤ n ∧ n ≤ 4) : 0 ≤ R4 (a * n) ∧ R4 (a * n) ≤ R4 (d * n) ∧ R4 (a * n) ≤ a := by
  have h1 : 0 ≤ a * n := Int.mul_nonneg ha hn.1
  have h2 : a * n ≤ d * n := Int.mul_le_mul_of_nonneg_right h hn.1
  have h3 : a * n ≤ a * 4 := Int.mul_le_mul_of_nonneg_left hn.2 ha
  unfold R4
  omega
theorem fade_laid {a b c d n : Int} (h : laidOkP a b c d) (hn : 0 ≤ n ∧ n ≤ 255) : laidOkP (R255 (a * n)) (R255 (b * n)) (R255 (c * n)) (R255 (d * n)) := by
  obtain ⟨⟨a1, a2, a3, a4⟩, a5, a6, a7⟩ := h
  have k1 := r255_mono a1.1 a5 hn
  have k2 := r255_mono a2.1 a6 hn
  have k3 := r255_mono a3.1 a7 hn
  have k4 := r255_mono a4.1 (Int.le_refl d) hn
  unfold laidOkP
  omega
theorem thin_laid {a b c d n : Int} (h : laidOkP a b c d) (hn : 0 ≤ n ∧ n ≤ 4) : laidOkP (R4 (a * n)) (R4 (b * n)) (R4 (c * n)) (R4 (d * n)) := by
  obtain ⟨⟨a1, a2, a3, a4⟩, a5, a6, a7⟩ := h
  have k1 := r4_mono a1.1 a5 hn
  have k2 := r4_mono a2.1 a6 hn
  have k3 := r4_mono a3.1 a7 hn
  have k4 := r4_mono a4.1 (Int.le_refl d) hn
  unfold laidOkP
  omega
theorem r255_full (a : Int) : R255 (a * 255) = a := by
  unfold R255
  omega
theorem r4_full (a : Int) : R4 (a * 4) = a := by
  unfold R4
  omega
theorem r255_none (a : Int) : R255 (a * 0) = 0 := by simp [R255]
theorem r4_none (a : Int) : R4 (a * 0) = 0 := by simp [R4]
theorem tmod_bd {v n : Int} (hv : 0 ≤ v) (hn : 0 < n) : 0 ≤ Int.tmod v n ∧ Int.tmod v n ≤ n - 1 := by
  have h1 := Int.tmod_nonneg n hv
  have h2 := Int.tmod_lt_of_pos v hn
  omega
theorem FnFades : laws_FnFades.Pure := by
  intro l hl _ _
  by_cases hn : (l.length : Int) > 1048576
  · exact ⟨0, by simp only [laws_FnFades.f, laws_big.f, Option.bind_some, decide_eq_true hn, if_true]⟩
  · obtain ⟨a, b, c, d, e, f, g, h, hs, h1, h2⟩ := DrawColors_v l (by omega)
    obtain ⟨r, hr, hr2, hr3⟩ := DrawPlaces_v l (by omega)
    obtain ⟨v0, v1, rest, rfl⟩ : ∃ v0 v1 rest, r = v0 :: v1 :: rest := by
      match r, hr2 with
      | v0 :: v1 :: rest, _ => exact ⟨v0, v1, rest, rfl⟩
    have g0 : rd (v0 :: v1 :: rest) 0 = v0 := by simp [rd]
    have g1 : rd (v0 :: v1 :: rest) 1 = v1 := by simp [rd]
    have t0 := tmod_bd (hr3 v0 (by simp)) (show (0 : Int) < 256 by omega)
    have t1 := tmod_bd (hr3 v1 (by simp)) (show (0 : Int) < 5 by omega)
    obtain ⟨p', q', r', s', j1, j2⟩ := Thin_v a b c d (Int.tmod v1 5)
    have n0 : 0 ≤ Int.tmod v0 256 ∧ Int.tmod v0 256 ≤ 255 := by omega
    have n1 : 0 ≤ Int.tmod v1 5 ∧ Int.tmod v1 5 ≤ 4 := by omega
    rw [Thin_r h1 n1] at j2
    obtain ⟨rfl, rfl, rfl, rfl⟩ : R4 (a * Int.tmod v1 5) = p' ∧ R4 (b * Int.tmod v1 5) = q' ∧ R4 (c * Int.tmod v1 5) = r' ∧ R4 (d * Int.tmod v1 5) = s' := by simpa using j2
    have lf := fade_laid h1 n0
    have lt := thin_laid h1 n1
    obtain ⟨⟨a1, a2, a3, a4⟩, a5, a6, a7⟩ := id h1
    refine Ev.rounds ?_
    simp only [laws_FnFades.f, laws_big.f, Option.bind_some, decide_eq_false hn, Bool.false_eq_true, if_false]
    refine Ev.bind hs (Ev.bind hr ?_)
    simp only [g0, g1, Fade_r h1 n0, Thin_r h1 n1, impl_LaidOk_v, decide_eq_true h1, decide_eq_true lf, decide_eq_true lt, Option.bind_some, if_true, Fade_r h1 (show (0 : Int) ≤ 255 ∧ (255 : Int) ≤ 255 by omega), Fade_r h1 (show (0 : Int) ≤ 0 ∧ (0 : Int) ≤ 255 by omega), Thin_r h1 (show (0 : Int) ≤ 4 ∧ (4 : Int) ≤ 4 by omega), Thin_r h1 (show (0 : Int) ≤ 0 ∧ (0 : Int) ≤ 4 by omega), Fade_x (a := a) (b := b) (c := c) (d := d) (show ¬ ((0 : Int) ≤ 256 ∧ (256 : Int) ≤ 255) by omega), Thin_x (a := a) (b := b) (c := c) (d := d) (show ¬ ((0 : Int) ≤ 5 ∧ (5 : Int) ≤ 4) by omega), r255_full, r4_full, r255_none, r4_none, beq_self_eq_true, Bool.and_self,
      if_pos (r255_mono a4.1 (Int.le_refl d) n0).2.2, if_pos (r255_mono a1.1 a5 n0).2.2, if_pos (r4_mono a4.1 (Int.le_refl d) n1).2.2, if_pos (r4_mono a3.1 a7 n1).2.2]
    simp only [if_pos (show (0 : Int) < ((v0 :: v1 :: rest).length : Int) by simp; omega), if_pos (show (1 : Int) < ((v0 :: v1 :: rest).length : Int) by simp; omega)]
    refine Ev.bind j1 ?_
    simp only [beq_self_eq_true, Bool.and_self]
    exact Ev.now true

end Go.Proofs.Ytndeonfbolookaa.Pure
