/- The pure statement of the law FnStrokeLines, for every input: what the printed functions compute makes the law answer true. No conditions beyond what the row reads. -/
import Derived.Test.YtgdlbilpfmjeaaaMFnStrokeLinesx8
namespace Go.Proofs.Ytgdlbilpfmjeaaa.Pure
open Go.RowKit Go.Proofs.Ytgdlbilpfmjeaaa.MFnStrokeLines Go.Proofs.YtgdlbilpfmjeaaaW.PrintWords Go.Proofs.YtgdlbilpfmjeaaaW.PrintLast
set_option linter.unusedVariables false
set_option linter.unusedSimpArgs false

/-! base -/
theorem w64 {x : Int} (h1 : -9223372036854775808 ≤ x) (h2 : x ≤ 9223372036854775807) : wrap64 x = x := by
  unfold wrap64
  omega

theorem wf64 {x : Int} (h : (Lit.int .i64 x).wf = true) : -9223372036854775808 ≤ x ∧ x ≤ 9223372036854775807 := by
  have h2 : (decide (IntKind.i64.min ≤ x) && decide (x ≤ IntKind.i64.max)) = true := h
  rw [Bool.and_eq_true, decide_eq_true_eq, decide_eq_true_eq] at h2
  exact ⟨h2.1, h2.2⟩

theorem take_set_succ {α : Type} (xs : List α) (i : Nat) (v : α) (h : i < xs.length) : (xs.set i v).take (i + 1) = xs.take i ++ [v] := by
  rw [List.take_succ_eq_append_getElem (by simpa using h), List.take_set_of_le (Nat.le_refl i), List.getElem_set_self]

theorem step64 {i n : Nat} (h : i < n) (hn : n ≤ 4611686018427387904) : wrap64 ((i : Int) + 1) = ((i + 1 : Nat) : Int) := by
  rw [w64 (by omega) (by omega)]
  omega

theorem ev_done {α : Type} {g : Nat → Option α} {r : α} (h : ∀ k, g (k + 1) = some r) : Ev g r := Ev.step (f := fun _ => some r) h (Ev.now r)

theorem ev_const {α : Type} {o : Option α} {r : α} (h : o = some r) : Ev (fun _ => o) r := by
  subst h
  exact Ev.now r

/-! DrawB -/
theorem and255 (n : Int) : Go.bits .and .i64 n 255 = n % 256 := by
  have h255 : (BitVec.ofInt 64 255).toNat = 2 ^ 8 - 1 := by decide
  have key : (BitVec.ofInt 64 n &&& BitVec.ofInt 64 255).toNat = (n % ((2 ^ 64 : Nat) : Int)).toNat % 2 ^ 8 := by
    rw [BitVec.toNat_and, BitVec.toNat_ofInt, h255, Nat.and_two_pow_sub_one_eq_mod]
  show IntKind.i64.wrap ((BitVec.ofInt 64 n &&& BitVec.ofInt 64 255).toNat : Nat) = n % 256
  rw [key, IntKind.wrap_i64]
  omega
theorem byte_r (l : List Int) (p s : Int) (hp : 0 ≤ p) (hl : p ≤ l.length) (hn : l.length ≤ 1048576) : ∃ b q t : Int, spec_l01Byte.f l p s = some (b, q, t) ∧ 0 ≤ b ∧ b ≤ 255 ∧ 0 ≤ q ∧ q ≤ l.length := by
  unfold spec_l01Byte.f
  by_cases h : p < (l.length : Int)
  · rw [if_pos h, if_pos hp]
    refine ⟨_, _, _, rfl, ?_, ?_, ?_, ?_⟩
    · rw [and255]
      omega
    · rw [and255]
      omega
    · rw [w64 (by omega) (by omega)]
      omega
    · rw [w64 (by omega) (by omega)]
      omega
  · rw [if_neg h]
    refine ⟨_, _, _, rfl, ?_, ?_, hp, hl⟩
    · rw [and255]
      omega
    · rw [and255]
      omega
theorem below_r (l : List Int) (p s n : Int) (hp : 0 ≤ p) (hl : p ≤ l.length) (hn : l.length ≤ 1048576) (h0 : 0 < n) (h1 : n ≤ 9223372036854775807) : ∃ b q t : Int, spec_l01Below.f l p s n = some (b, q, t) ∧ 0 ≤ b ∧ b < n ∧ 0 ≤ q ∧ q ≤ l.length := by
  unfold spec_l01Below.f
  rw [if_neg (by omega)]
  by_cases h : n ≤ 256
  · obtain ⟨b, q, t, e, b0, b1, q0, q1⟩ := byte_r l p s hp hl hn
    rw [if_pos h, e]
    simp only [Option.bind_some]
    rw [if_neg (by omega)]
    refine ⟨_, _, _, rfl, ?_, ?_, q0, q1⟩
    · exact Int.tmod_nonneg _ b0
    · exact Int.tmod_lt_of_pos _ h0
  · obtain ⟨b, q, t, e, b0, b1, q0, q1⟩ := byte_r l p s hp hl hn
    obtain ⟨b', q', t', e', b0', b1', q0', q1'⟩ := byte_r l q t q0 q1 hn
    obtain ⟨b2, q2, t2, e2, b02, b12, q02, q12⟩ := byte_r l q' t' q0' q1' hn
    obtain ⟨b3, q3, t3, e3, b03, b13, q03, q13⟩ := byte_r l q2 t2 q02 q12 hn
    rw [if_neg h, e]
    simp only [Option.bind_some, e', e2, e3]
    rw [if_neg (by omega)]
    refine ⟨_, _, _, rfl, ?_, ?_, q03, q13⟩
    · refine Int.tmod_nonneg _ ?_
      rw [w64 (x := b * 16777216) (by omega) (by omega), w64 (x := b' * 65536) (by omega) (by omega), w64 (x := b2 * 256) (by omega) (by omega), w64 (x := b * 16777216 + b' * 65536) (by omega) (by omega), w64 (x := b * 16777216 + b' * 65536 + b2 * 256) (by omega) (by omega), w64 (by omega) (by omega)]
      omega
    · exact Int.tmod_lt_of_pos _ h0
theorem new_l (l : List Int) (hn : l.length ≤ 1048576) : ∀ (d : Nat) (i : Int) (x3 : Int), i + d = 4000 → 0 ≤ i → ∃ s, Ev (fun k => spec_l01New.l0 k l x3 i) (l, 0, s) := by
  intro d
  induction d with
  | zero =>
    intro i x3 hi h0
    refine ⟨x3, ev_done (fun k => ?_)⟩
    simp only [spec_l01New.l0]
    by_cases h : i < (l.length : Int)
    · rw [if_pos h, if_neg (by omega)]
    · rw [if_neg h]
  | succ d ih =>
    intro i x3 hi h0
    by_cases h : i < (l.length : Int)
    · obtain ⟨s, hs⟩ := ih (i + 1) (Go.bits .and .i64 (wrap64 ((wrap64 ((wrap64 (x3 * 131)) + (wrap64 (rd l i)))) + 7)) 1073741823) (by omega) (by omega)
      refine ⟨s, Ev.step (fun k => ?_) hs⟩
      simp only [spec_l01New.l0]
      rw [if_pos h, if_pos (by omega), if_pos h0, w64 (x := i + 1) (by omega) (by omega)]
    · refine ⟨x3, ev_done (fun k => ?_)⟩
      simp only [spec_l01New.l0]
      rw [if_neg h]
theorem new_v (l : List Int) (hn : l.length ≤ 1048576) : ∃ s, Ev (fun k => spec_l01New.f k l) (l, 0, s) := by
  obtain ⟨s, hs⟩ := new_l l hn 4000 0 (wrap64 (28001 + (l.length : Int))) (by omega) (by omega)
  exact ⟨s, hs⟩

/-! spec_FloorDiv -/
theorem spec_FloorDiv_tot (a b : Int) : ∃ q, spec_FloorDiv.f a b = some q := by
  unfold spec_FloorDiv.f
  by_cases h : b < 1
  · exact ⟨0, by rw [if_pos h]⟩
  · rw [if_neg h, if_neg (by omega)]
    split <;> exact ⟨_, rfl⟩
theorem spec_FloorDiv_v {a b : Int} (ha : -9223372036854775808 ≤ a) (ha2 : a ≤ 9223372036854775807) (hb : 1 ≤ b) (hb2 : b ≤ 9223372036854775807) : spec_FloorDiv.f a b = some (a / b) := by
  have hq : -9223372036854775808 ≤ a / b ∧ a / b ≤ 9223372036854775807 := by
    refine ⟨(Int.le_ediv_iff_mul_le (by omega)).mpr ?_, ?_⟩
    · have : 9223372036854775808 * 1 ≤ 9223372036854775808 * b := Int.mul_le_mul_of_nonneg_left hb (by omega)
      rw [Int.neg_mul]
      omega
    · rcases Int.le_total 0 a with h | h
      · exact Int.le_trans (Int.ediv_le_self b h) ha2
      · have : a / b ≤ 0 := Int.ediv_le_of_le_mul (by omega) (by omega)
        omega
  have hm := Int.emod_nonneg a (show b ≠ 0 by omega)
  have hml := Int.emod_lt_of_pos a (show 0 < b by omega)
  have hd := Int.mul_ediv_add_emod a b
  unfold spec_FloorDiv.f
  rw [if_neg (by omega), if_neg (by omega)]
  by_cases h0 : 0 ≤ a
  · rw [Int.tmod_eq_emod_of_nonneg h0, if_neg (by omega), Int.tdiv_eq_ediv_of_nonneg h0, w64 hq.1 hq.2]
  · have e1 : Int.tdiv a b = if a % b = 0 then a / b else a / b + 1 := by
      rw [Int.tdiv_eq_ediv]
      have hs : b.sign = 1 := Int.sign_eq_one_of_pos (by omega)
      by_cases hz : a % b = 0
      · rw [if_pos hz, if_pos (.inr (Int.dvd_of_emod_eq_zero hz))]
        omega
      · rw [if_neg hz, if_neg (by
          rintro (h | h)
          · omega
          · exact hz (Int.emod_eq_zero_of_dvd h)), hs]
    have e2 : Int.tmod a b = a - b * Int.tdiv a b := by have := Int.mul_tdiv_add_tmod a b; omega
    by_cases hz : a % b = 0
    · rw [if_pos hz] at e1
      rw [if_neg (by rw [e2, e1]; omega), e1, w64 hq.1 hq.2]
    · rw [if_neg hz] at e1
      have hlt : a / b + 1 ≤ 0 := by
        have : a / b < 0 := Int.ediv_neg_of_neg_of_pos (by omega) (by omega)
        omega
      rw [if_pos (by rw [e2, e1, Int.mul_add]; omega), e1, w64 (x := a / b + 1) (by omega) (by omega), w64 (by omega) (by omega)]
      congr 1
      omega

/-! spec_RoundDiv -/
theorem spec_RoundDiv_tot (a b : Int) : ∃ q, spec_RoundDiv.f a b = some q := by
  obtain ⟨q, hq⟩ := spec_FloorDiv_tot a b
  unfold spec_RoundDiv.f
  rw [hq, Option.bind_some]
  split
  · exact ⟨_, rfl⟩
  · split <;> exact ⟨_, rfl⟩

/-! impl_FloorDiv -/
theorem impl_FloorDiv_s (a b : Int) : impl_FloorDiv.f a b = spec_FloorDiv.f a b := rfl

/-! impl_RoundDiv -/
theorem impl_RoundDiv_s (a b : Int) : impl_RoundDiv.f a b = spec_RoundDiv.f a b := rfl

/-! Draw -/
def R255 (x : Int) : Int := (x + 127) / 255
theorem RoundDiv255 {x : Int} (h0 : 0 ≤ x) (h1 : x ≤ 1000000000) : spec_RoundDiv.f x 255 = some (R255 x) := by
  unfold spec_RoundDiv.f
  rw [if_neg (by omega), spec_FloorDiv_v (by omega) (by omega) (by omega) (by omega), Option.bind_some]
  rw [w64 (x := x / 255 * 255) (by omega) (by omega), w64 (x := x - x / 255 * 255) (by omega) (by omega), w64 (x := 255 - (x - x / 255 * 255)) (by omega) (by omega), w64 (x := x / 255 + 1) (by omega) (by omega)]
  unfold R255
  split
  · congr 1
    omega
  · congr 1
    omega

/-! rd_impl_Point -/
theorem rd_impl_Point (xs : List S32) (i : Nat) (h : i < xs.length) : rd_T32 xs (i : Int) = xs[i] := by
  unfold rd_T32
  simp [h]

/-! DrawPoints -/
theorem point_r (l : List Int) (p s : Int) (hp : 0 ≤ p) (hl : p ≤ l.length) (hn : l.length ≤ 1048576) : ∃ a b q t : Int, spec_l04Point.f l p s = some (a, b, q, t) ∧ (-300 ≤ a ∧ a ≤ 3299) ∧ (-300 ≤ b ∧ b ≤ 3299) ∧ 0 ≤ q ∧ q ≤ l.length := by
  obtain ⟨b0, q0, t0, e0, l0, u0, v0, w0⟩ := below_r l p s 3600 hp hl hn (by omega) (by omega)
  obtain ⟨b1, q1, t1, e1, l1, u1, v1, w1⟩ := below_r l q0 t0 3600 v0 w0 hn (by omega) (by omega)
  unfold spec_l04Point.f
  rw [e0]
  simp only [Option.bind_some, e1]
  rw [w64 (x := b0 - 300) (by omega) (by omega), w64 (x := b1 - 300) (by omega) (by omega)]
  exact ⟨_, _, _, _, rfl, by omega, by omega, v1, w1⟩
def nearP (x : S32) : Prop := (-300 ≤ x.f0 ∧ x.f0 ≤ 3299) ∧ (-300 ≤ x.f1 ∧ x.f1 ≤ 3299)
theorem points_l (l : List Int) (hn : l.length ≤ 1048576) : ∀ (d : Nat) (i : Int) (acc : List S32) (p s : Int), i + d = 8 → 0 ≤ i → (acc.length : Int) = i → (∀ v ∈ acc, nearP v) → 0 ≤ p → p ≤ l.length →
    ∃ r, Ev (fun k => spec_DrawPoints.l0 k acc i l p s) r ∧ 4 ≤ r.length ∧ ∀ v ∈ r, nearP v := by
  intro d
  induction d with
  | zero =>
    intro i acc p s hi h0 ha hv hp hl
    obtain ⟨b, q, t, e, b0, b1, q0, q1⟩ := below_r l p s 5 hp hl hn (by omega) (by omega)
    refine ⟨acc, ev_done (fun k => ?_), by omega, hv⟩
    simp only [spec_DrawPoints.l0, e, Option.bind_some, w64 (x := 4 + b) (by omega) (by omega)]
    rw [if_neg (by omega)]
  | succ d ih =>
    intro i acc p s hi h0 ha hv hp hl
    obtain ⟨b, q, t, e, b0, b1, q0, q1⟩ := below_r l p s 5 hp hl hn (by omega) (by omega)
    by_cases hb : i < 4 + b
    · obtain ⟨x, y, q2, t2, e2, hx, hy, v2, w2⟩ := point_r l q t q0 q1 hn
      obtain ⟨r, h1, h2, h3⟩ := ih (i + 1) (acc ++ [⟨x, y⟩]) q2 t2 (by omega) (by omega) (by simp; omega) (by
        intro v hv'
        rcases List.mem_append.mp hv' with h | h
        · exact hv v h
        · obtain rfl : v = ⟨x, y⟩ := by simpa using h
          exact ⟨hx, hy⟩) v2 w2
      refine ⟨r, Ev.step (fun k => ?_) h1, h2, h3⟩
      simp only [spec_DrawPoints.l0, e, e2, Option.bind_some, w64 (x := i + 1) (by omega) (by omega), w64 (x := 4 + b) (by omega) (by omega)]
      rw [if_pos hb, if_pos (by omega)]
    · refine ⟨acc, ev_done (fun k => ?_), by omega, hv⟩
      simp only [spec_DrawPoints.l0, e, Option.bind_some, w64 (x := 4 + b) (by omega) (by omega)]
      rw [if_neg hb]
theorem DrawPoints_v (l : List Int) (hn : l.length ≤ 1048576) : ∃ r, Ev (fun k => spec_DrawPoints.f k l) r ∧ 4 ≤ r.length ∧ ∀ v ∈ r, nearP v := by
  obtain ⟨s, hs⟩ := new_v l hn
  obtain ⟨r, h1, h2, h3⟩ := points_l l hn 8 0 [] 0 s (by omega) (by omega) rfl (by simp) (by omega) (by omega)
  refine ⟨r, ?_, h2, h3⟩
  unfold spec_DrawPoints.f
  refine Ev.bind hs ?_
  exact h1

/-! DrawPlaces -/
theorem places_l (l : List Int) (hn : l.length ≤ 1048576) : ∀ (d : Nat) (i : Int) (acc : List Int) (p s : Int), i + d = 12 → 0 ≤ i → (acc.length : Int) = i → (∀ v ∈ acc, 0 ≤ v) → 0 ≤ p → p ≤ l.length →
    ∃ r, Ev (fun k => spec_DrawPlaces.l0 k acc i l p s) r ∧ r.length = 12 ∧ ∀ v ∈ r, 0 ≤ v := by
  intro d
  induction d with
  | zero =>
    intro i acc p s hi h0 ha hv hp hl
    refine ⟨acc, ev_done (fun k => ?_), by omega, hv⟩
    simp only [spec_DrawPlaces.l0]
    rw [if_neg (by omega)]
  | succ d ih =>
    intro i acc p s hi h0 ha hv hp hl
    obtain ⟨b, q, t, e, b0, b1, q0, q1⟩ := below_r l p s 10000 hp hl hn (by omega) (by omega)
    obtain ⟨r, h1, h2, h3⟩ := ih (i + 1) (acc ++ [b]) q t (by omega) (by omega) (by simp; omega) (by
      intro v hv'
      rcases List.mem_append.mp hv' with h | h
      · exact hv v h
      · obtain rfl : v = b := by simpa using h
        exact b0) q0 q1
    refine ⟨r, Ev.step (fun k => ?_) h1, h2, h3⟩
    simp only [spec_DrawPlaces.l0, e, Option.bind_some, w64 (x := i + 1) (by omega) (by omega)]
    rw [if_pos (by omega), if_pos (by omega)]
theorem DrawPlaces_v (l : List Int) (hn : l.length ≤ 1048576) : ∃ r, Ev (fun k => spec_DrawPlaces.f k l) r ∧ r.length = 12 ∧ ∀ v ∈ r, 0 ≤ v := by
  obtain ⟨s, hs⟩ := new_v l hn
  obtain ⟨b, q, t, e, b0, b1, q0, q1⟩ := byte_r l 0 s (by omega) (by omega) hn
  obtain ⟨r, h1, h2, h3⟩ := places_l l hn 12 0 [] q t (by omega) (by omega) rfl (by simp) q0 q1
  refine ⟨r, ?_, h2, h3⟩
  unfold spec_DrawPlaces.f
  refine Ev.bind hs ?_
  simp only [e, Option.bind_some]
  exact h1

/-! RootP -/
theorem sq_mono {a b : Int} (h0 : 0 ≤ a) (h : a ≤ b) : a * a ≤ b * b := Int.mul_le_mul h h h0 (by omega)
def RootP (n r : Int) : Prop := 0 ≤ r ∧ r ≤ 3037000499 ∧ (r * r ≤ n ∨ r = 0) ∧ (r = 3037000499 ∨ n < (r + 1) * (r + 1))
theorem RootP_lt {n r s : Int} (hr : RootP n r) (hs : RootP n s) : ¬ r < s := by
  intro h
  obtain ⟨h1, h2, h3, h4⟩ := hr
  obtain ⟨g1, g2, g3, g4⟩ := hs
  have q := sq_mono (a := r + 1) (b := s) (by omega) (by omega)
  rcases h4 with h4 | h4
  · omega
  · rcases g3 with g3 | g3
    · omega
    · omega
theorem RootP_unique {n r s : Int} (hr : RootP n r) (hs : RootP n s) : r = s := by
  have h1 := RootP_lt hr hs
  have h2 := RootP_lt hs hr
  omega
theorem half64 {x : Int} (h0 : 0 ≤ x) (h1 : x ≤ 9223372036854775807) : wrap64 (Int.tdiv x 2) = x / 2 := by
  rw [Int.tdiv_eq_ediv_of_nonneg h0, w64 (by omega) (by omega)]

/-! spec_RootOf -/
theorem spec_RootOf_l (n : Int) (hn : 0 ≤ n) (d : Nat) : ∀ (low high : Int), 0 ≤ low → low < high → high ≤ 3037000500 → high - low ≤ d + 1 → low * low ≤ n → (high = 3037000500 ∨ n < high * high) →
    ∃ r, Ev (fun k => spec_RootOf.l0 k n low high) r ∧ RootP n r := by
  induction d with
  | zero =>
    intro low high h0 h1 h2 h3 h4 h5
    obtain rfl : high = low + 1 := by omega
    refine ⟨low, ev_done (fun k => by simp only [spec_RootOf.l0]; rw [w64 (by omega) (by omega), if_neg (by omega)]), h0, by omega, .inl h4, ?_⟩
    rcases h5 with h5 | h5
    · exact .inl (by omega)
    · exact .inr h5
  | succ d ih =>
    intro low high h0 h1 h2 h3 h4 h5
    have e0 : wrap64 (low + 1) = low + 1 := w64 (by omega) (by omega)
    by_cases hlt : low + 1 < high
    · have e1 : wrap64 (low + high) = low + high := w64 (by omega) (by omega)
      have e3 : wrap64 (Int.tdiv (low + high) 2) = (low + high) / 2 := half64 (by omega) (by omega)
      have q := sq_mono (a := (low + high) / 2) (b := 3037000499) (by omega) (by omega)
      have q0 := sq_mono (a := 0) (b := (low + high) / 2) (by omega) (by omega)
      generalize hm : (low + high) / 2 = m at e3 q q0
      have e4 : wrap64 (m * m) = m * m := w64 (by omega) (by omega)
      by_cases hc : m * m ≤ n
      · obtain ⟨r, hr, hp⟩ := ih m high (by omega) (by omega) h2 (by omega) hc h5
        refine ⟨r, Ev.step (fun k => ?_) hr, hp⟩
        simp only [spec_RootOf.l0]
        rw [e0, if_pos hlt, e1, e3, e4, if_pos (by omega), if_pos hc]
      · obtain ⟨r, hr, hp⟩ := ih low m h0 (by omega) (by omega) (by omega) h4 (.inr (by omega))
        refine ⟨r, Ev.step (fun k => ?_) hr, hp⟩
        simp only [spec_RootOf.l0]
        rw [e0, if_pos hlt, e1, e3, e4, if_pos (by omega), if_neg hc]
    · obtain rfl : high = low + 1 := by omega
      refine ⟨low, ev_done (fun k => by simp only [spec_RootOf.l0]; rw [e0, if_neg hlt]), h0, by omega, .inl h4, ?_⟩
      rcases h5 with h5 | h5
      · exact .inl (by omega)
      · exact .inr h5
theorem spec_RootOf_v (n : Int) : ∃ r, Ev (fun k => spec_RootOf.f k n) r ∧ RootP n r := by
  by_cases hn : n < 0
  · refine ⟨0, Ev.congr (fun k => by unfold spec_RootOf.f; rw [if_pos hn]) (Ev.now 0), by omega, by omega, .inr rfl, .inr (by omega)⟩
  · obtain ⟨r, h, hp⟩ := spec_RootOf_l n (by omega) 3037000499 0 3037000500 (by omega) (by omega) (by omega) (by omega) (by omega) (.inl rfl)
    refine ⟨r, Ev.congr (fun k => ?_) h, hp⟩
    unfold spec_RootOf.f
    rw [if_neg hn]

/-! impl_RootOf -/
theorem impl_RootOf_l (n : Int) (d : Nat) : ∀ (low high : Int), 0 ≤ low → low ≤ high → high ≤ 3037000499 → high - low ≤ d → (low * low ≤ n ∨ low = 0) → (high = 3037000499 ∨ n < (high + 1) * (high + 1)) →
    ∃ r, Ev (fun k => impl_RootOf.l0 k n low high) r ∧ RootP n r := by
  induction d with
  | zero =>
    intro low high h0 h1 h2 h3 h4 h5
    obtain rfl : low = high := by omega
    exact ⟨low, ev_done (fun k => by simp only [impl_RootOf.l0]; rw [if_neg (by omega)]), h0, h2, h4, h5⟩
  | succ d ih =>
    intro low high h0 h1 h2 h3 h4 h5
    by_cases hlt : low < high
    · have e1 : wrap64 (low + high) = low + high := w64 (by omega) (by omega)
      have e2 : wrap64 (low + high + 1) = low + high + 1 := w64 (by omega) (by omega)
      have e3 : wrap64 (Int.tdiv (low + high + 1) 2) = (low + high + 1) / 2 := half64 (by omega) (by omega)
      have q := sq_mono (a := (low + high + 1) / 2) (b := 3037000499) (by omega) (by omega)
      have q0 := sq_mono (a := 0) (b := (low + high + 1) / 2) (by omega) (by omega)
      generalize hm : (low + high + 1) / 2 = m at e3 q q0
      have e4 : wrap64 (m * m) = m * m := w64 (by omega) (by omega)
      have e5 : wrap64 (m - 1) = m - 1 := w64 (by omega) (by omega)
      by_cases hc : m * m ≤ n
      · obtain ⟨r, hr, hp⟩ := ih m high (by omega) (by omega) h2 (by omega) (.inl hc) h5
        refine ⟨r, Ev.step (fun k => ?_) hr, hp⟩
        simp only [impl_RootOf.l0]
        rw [if_pos hlt, e1, e2, e3, e4, if_pos hc]
      · obtain ⟨r, hr, hp⟩ := ih low (m - 1) h0 (by omega) (by omega) (by omega) h4 (.inr (by rw [show m - 1 + 1 = m by omega]; omega))
        refine ⟨r, Ev.step (fun k => ?_) hr, hp⟩
        simp only [impl_RootOf.l0]
        rw [if_pos hlt, e1, e2, e3, e4, if_neg hc, e5]
    · obtain rfl : low = high := by omega
      exact ⟨low, ev_done (fun k => by simp only [impl_RootOf.l0]; rw [if_neg (by omega)]), h0, h2, h4, h5⟩
theorem impl_RootOf_v (n : Int) : ∃ r, Ev (fun k => impl_RootOf.f k n) r ∧ RootP n r := impl_RootOf_l n 3037000499 0 3037000499 (by omega) (by omega) (by omega) (by omega) (.inr rfl) (.inl rfl)

/-! spec_l01In -/
theorem spec_l01In_v (a b c : Int) : spec_l01In.f a b c = some (decide (b ≤ a ∧ a ≤ c)) := by
  unfold spec_l01In.f
  by_cases h : a ≥ b
  · rw [if_pos h]
    simp [h]
  · rw [if_neg h]
    simp
    omega

/-! spec_PointOk -/
def pointOkP (a b : Int) : Prop := (-8388608 ≤ a ∧ a ≤ 8388608) ∧ (-8388608 ≤ b ∧ b ≤ 8388608)
instance (a b : Int) : Decidable (pointOkP a b) := by unfold pointOkP; infer_instance
theorem spec_PointOk_v (a b : Int) : spec_PointOk.f a b = some (decide (pointOkP a b)) := by
  unfold spec_PointOk.f pointOkP
  simp only [spec_l01In_v, Option.bind_some, decide_eq_true_eq]
  repeat' split
  all_goals first | (refine congrArg some (decide_eq_decide.mpr ?_); omega) | (refine congrArg some (Eq.symm (decide_eq_false ?_)); omega)

/-! impl_inRange -/
theorem impl_inRange_v (a b c : Int) : impl_inRange.f a b c = some (decide (b ≤ a ∧ a ≤ c)) := by
  unfold impl_inRange.f
  by_cases h : a ≥ b
  · rw [if_pos h]
    simp [h]
  · rw [if_neg h]
    simp
    omega

/-! impl_isFar -/
theorem impl_isFar_v (a : Int) : impl_isFar.f a = some (decide (-8388608 ≤ a ∧ a ≤ 8388608)) := by
  unfold impl_isFar.f
  simp only [impl_inRange_v, Option.bind_some]

/-! impl_PointOk -/
theorem impl_PointOk_v (a b : Int) : impl_PointOk.f a b = some (decide (pointOkP a b)) := by
  unfold impl_PointOk.f pointOkP
  simp only [impl_isFar_v, Option.bind_some, decide_eq_true_eq]
  repeat' split
  all_goals first | (refine congrArg some (decide_eq_decide.mpr ?_); omega) | (refine congrArg some (Eq.symm (decide_eq_false ?_)); omega)

/-! LengthOf -/
theorem LengthOf_v (a b c d : Int) : ∃ r, Ev (fun k => spec_LengthOf.f k a b c d) r ∧ Ev (fun k => impl_LengthOf.f k a b c d) r ∧ 0 ≤ r ∧ r ≤ 3037000499 ∧
    (pointOkP a b → pointOkP c d → RootP ((c - a) * (c - a) + (d - b) * (d - b)) r) ∧ (¬ (pointOkP a b ∧ pointOkP c d) → r = 0) := by
  by_cases h1 : pointOkP a b
  · by_cases h2 : pointOkP c d
    · obtain ⟨r, hr, hp⟩ := impl_RootOf_v ((c - a) * (c - a) + (d - b) * (d - b))
      obtain ⟨s, hs, hq⟩ := spec_RootOf_v ((c - a) * (c - a) + (d - b) * (d - b))
      obtain rfl := RootP_unique hp hq
      obtain ⟨⟨p1, p2⟩, p3, p4⟩ := h1
      obtain ⟨⟨q1, q2⟩, q3, q4⟩ := h2
      have e1 : wrap64 (c - a) = c - a := w64 (by omega) (by omega)
      have e2 : wrap64 (d - b) = d - b := w64 (by omega) (by omega)
      have sq : ∀ x : Int, -16777216 ≤ x → x ≤ 16777216 → 0 ≤ x * x ∧ x * x ≤ 281474976710656 := by
        intro x hx hy
        rcases Int.le_total 0 x with h | h
        · have := sq_mono h hy
          have := sq_mono (a := 0) (by omega) h
          omega
        · have := sq_mono (a := -x) (b := 16777216) (by omega) (by omega)
          have := sq_mono (a := 0) (b := -x) (by omega) (by omega)
          rw [Int.neg_mul_neg] at *
          omega
      have s1 := sq (c - a) (by omega) (by omega)
      have s2 := sq (d - b) (by omega) (by omega)
      have e3 : wrap64 ((c - a) * (c - a)) = (c - a) * (c - a) := w64 (by omega) (by omega)
      have e4 : wrap64 ((d - b) * (d - b)) = (d - b) * (d - b) := w64 (by omega) (by omega)
      have e5 : wrap64 ((c - a) * (c - a) + (d - b) * (d - b)) = (c - a) * (c - a) + (d - b) * (d - b) := w64 (by omega) (by omega)
      refine ⟨r, Ev.congr (fun k => ?_) hs, Ev.congr (fun k => ?_) hr, hp.1, hp.2.1, fun _ _ => hp, fun h => absurd ⟨⟨⟨p1, p2⟩, p3, p4⟩, ⟨q1, q2⟩, q3, q4⟩ h⟩
      · unfold spec_LengthOf.f
        simp only [spec_PointOk_v, Option.bind_some, e1, e2, e3, e4, e5]
        rw [if_pos (decide_eq_true ⟨⟨p1, p2⟩, p3, p4⟩), if_pos (decide_eq_true ⟨⟨q1, q2⟩, q3, q4⟩), Option.bind_fun_some]
      · unfold impl_LengthOf.f
        simp only [impl_PointOk_v, Option.bind_some, e1, e2, e3, e4, e5]
        rw [if_pos (decide_eq_true ⟨⟨p1, p2⟩, p3, p4⟩), if_pos (decide_eq_true ⟨⟨q1, q2⟩, q3, q4⟩), Option.bind_fun_some]
    · refine ⟨0, Ev.congr (fun k => ?_) (Ev.now 0), Ev.congr (fun k => ?_) (Ev.now 0), by omega, by omega, fun _ h => absurd h h2, fun _ => rfl⟩
      · unfold spec_LengthOf.f
        simp only [spec_PointOk_v, Option.bind_some]
        rw [if_pos (decide_eq_true h1), if_neg (by simpa using h2)]
      · unfold impl_LengthOf.f
        simp only [impl_PointOk_v, Option.bind_some]
        rw [if_pos (decide_eq_true h1), if_neg (by simpa using h2)]
  · refine ⟨0, Ev.congr (fun k => ?_) (Ev.now 0), Ev.congr (fun k => ?_) (Ev.now 0), by omega, by omega, fun h _ => absurd h h1, fun _ => rfl⟩
    · unfold spec_LengthOf.f
      simp only [spec_PointOk_v, Option.bind_some]
      rw [if_neg (by simpa using h1)]
    · unfold impl_LengthOf.f
      simp only [impl_PointOk_v, Option.bind_some]
      rw [if_neg (by simpa using h1)]

/-! SideOf -/
theorem SideOf_v (a b c d w : Int) : ∃ x y : Int, Ev (fun k => spec_SideOf.f k a b c d w) (x, y) ∧ Ev (fun k => impl_SideOf.f k a b c d w) (x, y) := by
  obtain ⟨l, h1, h2, _⟩ := LengthOf_v a b c d
  obtain ⟨x, hx⟩ := spec_RoundDiv_tot (wrap64 ((wrap64 (b - d)) * w)) (wrap64 (2 * l))
  obtain ⟨y, hy⟩ := spec_RoundDiv_tot (wrap64 ((wrap64 (c - a)) * w)) (wrap64 (2 * l))
  have j1 : ∀ k, spec_SideOf.j0 (k + 1) w l true a b c d = some (0, 0) := fun k => by simp only [spec_SideOf.j0, if_true]
  have j2 : ∀ k, impl_SideOf.j0 (k + 1) w l true a b c d = some (0, 0) := fun k => by simp only [impl_SideOf.j0, if_true]
  have j3 : ∀ k, spec_SideOf.j0 (k + 1) w l false a b c d = some (x, y) := fun k => by simp only [spec_SideOf.j0, hx, hy, Option.bind_some, Bool.false_eq_true, if_false]
  have j4 : ∀ k, impl_SideOf.j0 (k + 1) w l false a b c d = some (x, y) := fun k => by simp only [impl_SideOf.j0, impl_RoundDiv_s, hx, hy, Option.bind_some, Bool.false_eq_true, if_false]
  by_cases hl : l = 0
  · refine ⟨0, 0, ?_, ?_⟩
    · unfold spec_SideOf.f
      refine Ev.bind h1 ?_
      simp only [if_pos hl]
      exact ev_done j1
    · unfold impl_SideOf.f
      refine Ev.bind h2 ?_
      simp only [if_pos hl]
      exact ev_done j2
  · by_cases hw : 1 ≤ w ∧ w ≤ 2048
    · refine ⟨x, y, ?_, ?_⟩
      · unfold spec_SideOf.f
        refine Ev.bind h1 ?_
        simp only [if_neg hl, spec_l01In_v, Option.bind_some, decide_eq_true hw]
        exact ev_done j3
      · unfold impl_SideOf.f impl_isWidth.f
        refine Ev.bind h2 ?_
        simp only [if_neg hl, impl_inRange_v, Option.bind_some, decide_eq_true hw]
        exact ev_done j4
    · refine ⟨0, 0, ?_, ?_⟩
      · unfold spec_SideOf.f
        refine Ev.bind h1 ?_
        simp only [if_neg hl, spec_l01In_v, Option.bind_some, decide_eq_false hw]
        exact ev_done j1
      · unfold impl_SideOf.f impl_isWidth.f
        refine Ev.bind h2 ?_
        simp only [if_neg hl, impl_inRange_v, Option.bind_some, decide_eq_false hw]
        exact ev_done j2

/-! QuadOf -/
theorem QuadOf_v (a b c d w : Int) : ∃ l, l.length ≤ 4 ∧ Ev (fun k => spec_QuadOf.f k a b c d w) l ∧ Ev (fun k => impl_QuadOf.f k a b c d w) l := by
  obtain ⟨l, h1, h2, _⟩ := LengthOf_v a b c d
  obtain ⟨x, y, h3, h4⟩ := SideOf_v a b c d w
  unfold spec_QuadOf.f impl_QuadOf.f impl_isWidth.f
  simp only [spec_l01In_v, impl_inRange_v, Option.bind_some]
  by_cases hl : l = 0
  · refine ⟨[], by simp, Ev.bind h1 ?_, Ev.bind h2 ?_⟩
    · simp only [if_pos hl]
      exact Ev.now _
    · simp only [if_pos hl]
      exact Ev.now _
  · by_cases hw : 1 ≤ w ∧ w ≤ 2048
    · refine ⟨[⟨wrap64 (a + x), wrap64 (b + y)⟩, ⟨wrap64 (c + x), wrap64 (d + y)⟩, ⟨wrap64 (c - x), wrap64 (d - y)⟩, ⟨wrap64 (a - x), wrap64 (b - y)⟩], ?_, Ev.bind h1 ?_, Ev.bind h2 ?_⟩
      rotate_left
      · simp only [if_neg hl, decide_eq_true hw, if_true]
        exact Ev.bind h3 (Ev.now _)
      · simp only [if_neg hl, decide_eq_true hw, if_true]
        exact Ev.bind h4 (Ev.now _)
      · simp
    · refine ⟨[], by simp, Ev.bind h1 ?_, Ev.bind h2 ?_⟩
      · simp only [if_neg hl, decide_eq_false hw, Bool.false_eq_true, if_false]
        exact Ev.now _
      · simp only [if_neg hl, decide_eq_false hw, Bool.false_eq_true, if_false]
        exact Ev.now _

/-! rd_impl_PointSS -/
theorem rd_impl_PointSS (xs : List (List S32)) (i : Nat) (h : i < xs.length) : rd_L3 xs (i : Int) = xs[i] := by
  unfold rd_L3
  simp [h]

/-! law_FnStrokeLines -/
theorem pointsU_l (l : List Int) (hn : l.length ≤ 1048576) : ∀ (d : Nat) (i : Int) (acc : List S32) (p s : Int), i + d = 8 → 0 ≤ i → (acc.length : Int) = i → (∀ v ∈ acc, nearP v) → 0 ≤ p → p ≤ l.length →
    ∃ r, Ev (fun k => spec_DrawPoints.l0 k acc i l p s) r ∧ (4 ≤ r.length ∧ r.length ≤ 8) ∧ ∀ v ∈ r, nearP v := by
  intro d
  induction d with
  | zero =>
    intro i acc p s hi h0 ha hv hp hl
    obtain ⟨b, q, t, e, b0, b1, q0, q1⟩ := below_r l p s 5 hp hl hn (by omega) (by omega)
    refine ⟨acc, ev_done (fun k => ?_), by omega, hv⟩
    simp only [spec_DrawPoints.l0, e, Option.bind_some, w64 (x := 4 + b) (by omega) (by omega)]
    rw [if_neg (by omega)]
  | succ d ih =>
    intro i acc p s hi h0 ha hv hp hl
    obtain ⟨b, q, t, e, b0, b1, q0, q1⟩ := below_r l p s 5 hp hl hn (by omega) (by omega)
    by_cases hb : i < 4 + b
    · obtain ⟨x, y, q2, t2, e2, hx, hy, v2, w2⟩ := point_r l q t q0 q1 hn
      obtain ⟨r, h1, h2, h3⟩ := ih (i + 1) (acc ++ [⟨x, y⟩]) q2 t2 (by omega) (by omega) (by simp; omega) (by
        intro v hv'
        rcases List.mem_append.mp hv' with h | h
        · exact hv v h
        · obtain rfl : v = ⟨x, y⟩ := by simpa using h
          exact ⟨hx, hy⟩) v2 w2
      refine ⟨r, Ev.step (fun k => ?_) h1, h2, h3⟩
      simp only [spec_DrawPoints.l0, e, e2, Option.bind_some, w64 (x := i + 1) (by omega) (by omega), w64 (x := 4 + b) (by omega) (by omega)]
      rw [if_pos hb, if_pos (by omega)]
    · refine ⟨acc, ev_done (fun k => ?_), by omega, hv⟩
      simp only [spec_DrawPoints.l0, e, Option.bind_some, w64 (x := 4 + b) (by omega) (by omega)]
      rw [if_neg hb]
theorem DrawPointsU (l : List Int) (hn : l.length ≤ 1048576) : ∃ r, Ev (fun k => spec_DrawPoints.f k l) r ∧ (4 ≤ r.length ∧ r.length ≤ 8) ∧ ∀ v ∈ r, nearP v := by
  obtain ⟨s, hs⟩ := new_v l hn
  obtain ⟨r, h1, h2, h3⟩ := pointsU_l l hn 8 0 [] 0 s (by omega) (by omega) rfl (by simp) (by omega) (by omega)
  refine ⟨r, ?_, h2, h3⟩
  unfold spec_DrawPoints.f
  refine Ev.bind hs ?_
  exact h1
theorem quad_w (a b c d w : Int) (hw : 1 ≤ w ∧ w ≤ 2048) : ∃ (n : Int) (q : List S32), Ev (fun k => spec_LengthOf.f k a b c d) n ∧ Ev (fun k => spec_QuadOf.f k a b c d w) q ∧ Ev (fun k => impl_QuadOf.f k a b c d w) q ∧ ((n = 0 ∧ q = []) ∨ (0 < n ∧ q.length = 4)) := by
  obtain ⟨l, h1, h2, h0, _⟩ := LengthOf_v a b c d
  obtain ⟨x, y, h3, h4⟩ := SideOf_v a b c d w
  unfold spec_QuadOf.f impl_QuadOf.f impl_isWidth.f
  simp only [spec_l01In_v, impl_inRange_v, Option.bind_some]
  by_cases hl : l = 0
  · refine ⟨l, [], h1, Ev.bind h1 ?_, Ev.bind h2 ?_, .inl ⟨hl, rfl⟩⟩
    · simp only [if_pos hl]
      exact Ev.now _
    · simp only [if_pos hl]
      exact Ev.now _
  · refine ⟨l, [⟨wrap64 (a + x), wrap64 (b + y)⟩, ⟨wrap64 (c + x), wrap64 (d + y)⟩, ⟨wrap64 (c - x), wrap64 (d - y)⟩, ⟨wrap64 (a - x), wrap64 (b - y)⟩], h1, Ev.bind h1 ?_, Ev.bind h2 ?_, .inr ⟨by omega, rfl⟩⟩
    · simp only [if_neg hl, decide_eq_true hw, if_true]
      exact Ev.bind h3 (Ev.now _)
    · simp only [if_neg hl, decide_eq_true hw, if_true]
      exact Ev.bind h4 (Ev.now _)
def jointP (w : Int) (p : S32) : List S32 := [⟨wrap64 (p.f0 - wrap64 (Int.tdiv w 2)), wrap64 (p.f1 - wrap64 (Int.tdiv w 2))⟩, ⟨wrap64 (wrap64 (p.f0 - wrap64 (Int.tdiv w 2)) + w), wrap64 (p.f1 - wrap64 (Int.tdiv w 2))⟩, ⟨wrap64 (wrap64 (p.f0 - wrap64 (Int.tdiv w 2)) + w), wrap64 (wrap64 (p.f1 - wrap64 (Int.tdiv w 2)) + w)⟩, ⟨wrap64 (p.f0 - wrap64 (Int.tdiv w 2)), wrap64 (wrap64 (p.f1 - wrap64 (Int.tdiv w 2)) + w)⟩]
theorem joint_i (w : Int) (p : S32) : impl_corners.f (wrap64 (p.f0 - wrap64 (Int.tdiv w 2))) (wrap64 (p.f1 - wrap64 (Int.tdiv w 2))) (wrap64 (wrap64 (p.f0 - wrap64 (Int.tdiv w 2)) + w)) (wrap64 (wrap64 (p.f1 - wrap64 (Int.tdiv w 2)) + w)) = some (jointP w p) ∧ (jointP w p).length = 4 := ⟨rfl, rfl⟩
theorem joint_s (w : Int) (p : S32) : spec_l08Joint.f p.f0 p.f1 w = some (jointP w p) := rfl
section
variable {P : List S32} {w : Int} (hP : ∀ v ∈ P, nearP v) (hU : P.length ≤ 8) (hw : 1 ≤ w ∧ w ≤ 2048)
include hP hU hw
omit hw in
theorem spec_st (i : Nat) (acc : List (List S32)) (hi2 : i < P.length) (h1 : 1 ≤ i) (k : Nat) : spec_StrokeOf.l1 (k + 1) [P] w acc 0 (i : Int) = (spec_QuadOf.f k (P[i - 1]'(by omega)).f0 (P[i - 1]'(by omega)).f1 P[i].f0 P[i].f1 w).bind fun q => (if (q.length : Int) > 0 then (if acc.length < 5864062014805 then (if ((i + 1 : Nat) : Int) < (P.length : Int) then (if (acc ++ [q]).length < 5864062014805 then (spec_StrokeOf.l1 k [P] w (acc ++ [q] ++ [jointP w P[i]]) 0 ((i + 1 : Nat) : Int)) else none) else (spec_StrokeOf.l1 k [P] w (acc ++ [q]) 0 ((i + 1 : Nat) : Int))) else none) else (if ((i + 1 : Nat) : Int) < (P.length : Int) then (if acc.length < 5864062014805 then (spec_StrokeOf.l1 k [P] w (acc ++ [jointP w P[i]]) 0 ((i + 1 : Nat) : Int)) else none) else (spec_StrokeOf.l1 k [P] w acc 0 ((i + 1 : Nat) : Int)))) := by
  have hi1 : i - 1 < P.length := by omega
  have rl : rd_L3 [P] 0 = P := rfl
  have ei : wrap64 ((i : Int) - 1) = ((i - 1 : Nat) : Int) := by
    rw [w64 (by omega) (by omega)]
    omega
  have e1 : wrap64 ((i : Int) + 1) = ((i + 1 : Nat) : Int) := step64 hi2 (by omega)
  have r0 := rd_impl_Point P (i - 1) hi1
  have r1 := rd_impl_Point P i hi2
  have hJ2 := joint_s w P[i]
  have hp : spec_PointOk.f P[i].f0 P[i].f1 = some true := by
    obtain ⟨⟨a1, a2⟩, a3, a4⟩ := hP P[i] (List.getElem_mem hi2)
    rw [spec_PointOk_v, decide_eq_true (show pointOkP P[i].f0 P[i].f1 from ⟨⟨by omega, by omega⟩, by omega, by omega⟩)]
  generalize jointP w P[i] = J at hJ2 ⊢
  have hi : ((i : Nat) : Int) < (P.length : Int) := by omega
  have hi0 : (0 : Int) ≤ (i : Int) := by omega
  have hip : (i : Int) > 0 := by omega
  have him : (0 : Int) ≤ ((i - 1 : Nat) : Int) := by omega
  have hil : ((i - 1 : Nat) : Int) < (P.length : Int) := by omega
  rw [spec_StrokeOf.l1, if_pos (Int.le_refl 0), if_pos (show (0 : Int) < (([P] : List (List S32)).length : Int) by simp), rl, if_pos hi, if_pos hi0, r1, hp, Option.bind_some, if_pos rfl, if_pos hip, ei, if_pos him, if_pos hil, r0, e1, hJ2]
  rfl
theorem strokes_l : ∀ (d i : Nat) (acc : List (List S32)), i + d = P.length → 1 ≤ i → acc.length + 2 * d ≤ 1000 →
    ∃ (R : List (List S32)) (m : Int), (0 ≤ m ∧ m ≤ d) ∧ (∀ v ∈ R, v.length = 4) ∧ (R.length : Int) = m + ((d - 1 : Nat) : Int) ∧
      Ev (fun k => impl_strokeOf.l0 k P w acc (i : Int)) (acc ++ R) ∧ Ev (fun k => spec_StrokeOf.l1 k [P] w acc 0 (i : Int)) (acc ++ R) ∧
      ∀ (s : List (List S32)) (x6 : Int) (r : Bool), -100 ≤ x6 → x6 ≤ 1000 - d → Ev (fun k => laws_FnStrokeLines.l1 k P w s (x6 + m) 0) r → Ev (fun k => laws_FnStrokeLines.l0 k P w s x6 (i : Int)) r := by
  have rl : rd_L3 [P] 0 = P := rfl
  intro d
  induction d with
  | zero =>
    intro i acc hi h1 ha
    refine ⟨[], 0, by omega, by simp, by simp, ?_, ?_, ?_⟩
    · refine ev_done (fun k => ?_)
      simp only [impl_strokeOf.l0]
      rw [if_neg (by omega), List.append_nil]
    · refine Ev.step (fun k => ?_) (ev_done (g := fun k => spec_StrokeOf.l0 k [P] w acc 1) (r := acc ++ []) (fun k => ?_))
      · simp only [spec_StrokeOf.l1, rl]
        rw [if_pos (by omega), if_pos (by simp), if_neg (by omega), w64 (x := 0 + 1) (by omega) (by omega)]
        rfl
      · simp only [spec_StrokeOf.l0]
        rw [if_neg (by simp), List.append_nil]
    · intro s x6 r hx hy h
      rw [Int.add_zero] at h
      refine Ev.step (fun k => ?_) h
      simp only [laws_FnStrokeLines.l0]
      rw [if_neg (by omega)]
  | succ d ih =>
    intro i acc hi h1 ha
    have hi2 : i < P.length := by omega
    have hi1 : i - 1 < P.length := by omega
    have ei : wrap64 ((i : Int) - 1) = ((i - 1 : Nat) : Int) := by
      rw [w64 (by omega) (by omega)]
      omega
    have e1 : wrap64 ((i : Int) + 1) = ((i + 1 : Nat) : Int) := step64 hi2 (by omega)
    have eL : wrap64 ((P.length : Int) - 1) = (P.length : Int) - 1 := w64 (by omega) (by omega)
    have r0 := rd_impl_Point P (i - 1) hi1
    have r1 := rd_impl_Point P i hi2
    have c0 : (i : Int) < (P.length : Int) := by omega
    have c1 : (0 : Int) ≤ ((i - 1 : Nat) : Int) := by omega
    have c2 : ((i - 1 : Nat) : Int) < (P.length : Int) := by omega
    have c3 : (0 : Int) ≤ (i : Int) := by omega
    have c4 : (i : Int) > 0 := by omega
    have c5 : (0 : Int) < (([P] : List (List S32)).length : Int) := by simp
    have hp : spec_PointOk.f P[i].f0 P[i].f1 = some true := by
      obtain ⟨⟨a1, a2⟩, a3, a4⟩ := hP P[i] (List.getElem_mem hi2)
      rw [spec_PointOk_v, decide_eq_true (show pointOkP P[i].f0 P[i].f1 from ⟨⟨by omega, by omega⟩, by omega, by omega⟩)]
    have hJ := joint_i w P[i]
    have hJ2 := joint_s w P[i]
    have st := fun k => spec_st (w := w) hP hU i acc hi2 h1 k
    generalize jointP w P[i] = J at hJ hJ2 st
    have hJ4 : J.length = 4 := hJ.2
    replace hJ := hJ.1
    obtain ⟨n, q, hn, hs, hq, hc⟩ := quad_w P[i - 1].f0 P[i - 1].f1 P[i].f0 P[i].f1 w hw
    rcases hc with ⟨rfl, rfl⟩ | ⟨n0, q4⟩
    · by_cases hd : d = 0
      · subst hd
        obtain ⟨R, m, hm, h4, hl, hI, hS, hL⟩ := ih (i + 1) acc (by omega) (by omega) (by omega)
        obtain rfl : R = [] := List.eq_nil_of_length_eq_zero (by omega)
        refine ⟨[], 0, by omega, by simp, by simp, ?_, ?_, ?_⟩
        · refine Ev.step (fun k => rfl) ?_
          simp only [impl_strokeOf.l0, if_pos c0, ei, if_pos c1, if_pos c2, if_pos c3, r0, r1]
          refine Ev.bind hq ?_
          simp only [eL, List.length_nil, if_neg (show ¬ (((0 : Nat) : Int) > 0) by omega), if_pos (show (i : Int) = (P.length : Int) - 1 by omega), List.append_nil]
          exact Ev.now _
        · refine Ev.step st ?_
          refine Ev.bind hs ?_
          simp only [List.length_nil, if_neg (show ¬ (((0 : Nat) : Int) > 0) by omega), if_neg (show ¬ (((i + 1 : Nat) : Int) < (P.length : Int)) by omega)]
          exact hS
        · intro s x6 r hx hy h
          refine Ev.step (fun k => rfl) ?_
          simp only [laws_FnStrokeLines.l0, if_pos c0, ei, if_pos c1, if_pos c2, if_pos c3, r0, r1]
          refine Ev.bind hn ?_
          simp only [e1, if_neg (show ¬ ((0 : Int) > 0) by omega)]
          exact hL s x6 r hx (by omega) (by rw [show x6 + m = x6 + 0 by omega]; exact h)
      · obtain ⟨R, m, hm, h4, hl, hI, hS, hL⟩ := ih (i + 1) (acc ++ [J]) (by omega) (by omega) (by simp; omega)
        refine ⟨J :: R, m, by omega, ?_, by simp only [List.length_cons]; omega, ?_, ?_, ?_⟩
        · intro v hv
          rcases List.mem_cons.mp hv with rfl | h
          · exact hJ4
          · exact h4 v h
        · refine Ev.step (fun k => rfl) ?_
          simp only [impl_strokeOf.l0, if_pos c0, ei, if_pos c1, if_pos c2, if_pos c3, r0, r1]
          refine Ev.bind hq ?_
          simp only [eL, e1, List.length_nil, if_neg (show ¬ (((0 : Nat) : Int) > 0) by omega), if_neg (show ¬ ((i : Int) = (P.length : Int) - 1) by omega), hJ, Option.bind_some, if_pos (show acc.length < 5864062014805 by omega)]
          rw [show acc ++ J :: R = (acc ++ [J]) ++ R by simp]
          exact hI
        · refine Ev.step st ?_
          refine Ev.bind hs ?_
          simp only [List.length_nil, if_neg (show ¬ (((0 : Nat) : Int) > 0) by omega), if_pos (show ((i + 1 : Nat) : Int) < (P.length : Int) by omega), hJ2, Option.bind_some, if_pos (show acc.length < 5864062014805 by omega)]
          rw [show acc ++ J :: R = (acc ++ [J]) ++ R by simp]
          exact hS
        · intro s x6 r hx hy h
          refine Ev.step (fun k => rfl) ?_
          simp only [laws_FnStrokeLines.l0, if_pos c0, ei, if_pos c1, if_pos c2, if_pos c3, r0, r1]
          refine Ev.bind hn ?_
          simp only [e1, if_neg (show ¬ ((0 : Int) > 0) by omega)]
          exact hL s x6 r hx (by omega) h
    · have q0 : (q.length : Int) > 0 := by omega
      by_cases hd : d = 0
      · subst hd
        obtain ⟨R, m, hm, h4, hl, hI, hS, hL⟩ := ih (i + 1) (acc ++ [q]) (by omega) (by omega) (by simp; omega)
        obtain rfl : R = [] := List.eq_nil_of_length_eq_zero (by omega)
        refine ⟨[q], 1, by omega, by simpa using q4, by simp, ?_, ?_, ?_⟩
        · refine Ev.step (fun k => rfl) ?_
          simp only [impl_strokeOf.l0, if_pos c0, ei, if_pos c1, if_pos c2, if_pos c3, r0, r1]
          refine Ev.bind hq ?_
          simp only [eL, if_pos q0, if_pos (show acc.length < 5864062014805 by omega), Option.bind_some, if_pos (show (i : Int) = (P.length : Int) - 1 by omega)]
          exact Ev.now _
        · refine Ev.step st ?_
          refine Ev.bind hs ?_
          simp only [if_pos q0, if_pos (show acc.length < 5864062014805 by omega), Option.bind_some, if_neg (show ¬ (((i + 1 : Nat) : Int) < (P.length : Int)) by omega)]
          rw [List.append_nil] at hS
          exact hS
        · intro s x6 r hx hy h
          refine Ev.step (fun k => rfl) ?_
          simp only [laws_FnStrokeLines.l0, if_pos c0, ei, if_pos c1, if_pos c2, if_pos c3, r0, r1]
          refine Ev.bind hn ?_
          simp only [e1, if_pos (show n > 0 by omega), w64 (x := x6 + 1) (by omega) (by omega)]
          exact hL s (x6 + 1) r (by omega) (by omega) (by rw [show x6 + 1 + m = x6 + 1 by omega]; exact h)
      · obtain ⟨R, m, hm, h4, hl, hI, hS, hL⟩ := ih (i + 1) (acc ++ [q] ++ [J]) (by omega) (by omega) (by simp; omega)
        refine ⟨q :: J :: R, m + 1, by omega, ?_, by simp only [List.length_cons]; omega, ?_, ?_, ?_⟩
        · intro v hv
          rcases List.mem_cons.mp hv with rfl | h
          · exact q4
          · rcases List.mem_cons.mp h with rfl | h
            · exact hJ4
            · exact h4 v h
        · refine Ev.step (fun k => rfl) ?_
          simp only [impl_strokeOf.l0, if_pos c0, ei, if_pos c1, if_pos c2, if_pos c3, r0, r1]
          refine Ev.bind hq ?_
          simp only [eL, e1, if_pos q0, if_pos (show acc.length < 5864062014805 by omega), Option.bind_some, if_neg (show ¬ ((i : Int) = (P.length : Int) - 1) by omega), hJ, if_pos (show (acc ++ [q]).length < 5864062014805 by simp; omega)]
          rw [show acc ++ q :: J :: R = (acc ++ [q] ++ [J]) ++ R by simp]
          exact hI
        · refine Ev.step st ?_
          refine Ev.bind hs ?_
          simp only [if_pos q0, if_pos (show acc.length < 5864062014805 by omega), Option.bind_some, if_pos (show ((i + 1 : Nat) : Int) < (P.length : Int) by omega), hJ2, if_pos (show (acc ++ [q]).length < 5864062014805 by simp; omega)]
          rw [show acc ++ q :: J :: R = (acc ++ [q] ++ [J]) ++ R by simp]
          exact hS
        · intro s x6 r hx hy h
          refine Ev.step (fun k => rfl) ?_
          simp only [laws_FnStrokeLines.l0, if_pos c0, ei, if_pos c1, if_pos c2, if_pos c3, r0, r1]
          refine Ev.bind hn ?_
          simp only [e1, if_pos (show n > 0 by omega), w64 (x := x6 + 1) (by omega) (by omega)]
          exact hL s (x6 + 1) r (by omega) (by omega) (by rw [show x6 + 1 + m = x6 + (m + 1) by omega]; exact h)
omit hw in
theorem ok_l : ∀ (d i : Nat), i + d = P.length → Ev (fun k => impl_pointsOk.l0 k P (P.length : Int) (i : Int)) true := by
  intro d
  induction d with
  | zero =>
    intro i hi
    refine ev_done (fun k => ?_)
    simp only [impl_pointsOk.l0]
    rw [if_neg (by omega)]
  | succ d ih =>
    intro i hi
    have hi2 : i < P.length := by omega
    have hp : decide (pointOkP P[i].f0 P[i].f1) = true := by
      obtain ⟨⟨a1, a2⟩, a3, a4⟩ := hP P[i] (List.getElem_mem hi2)
      exact decide_eq_true ⟨⟨by omega, by omega⟩, by omega, by omega⟩
    refine Ev.step (fun k => ?_) (ih (i + 1) (by omega))
    simp only [impl_pointsOk.l0, rd_impl_Point P i hi2, impl_PointOk_v, Option.bind_some, hp, if_true]
    rw [if_pos (by omega), if_pos (by omega), if_pos (by omega), step64 hi2 (by omega)]
/-- The two programs' strokes of one line, and how many they are. -/
theorem stroke_v (h4 : 4 ≤ P.length) : ∃ (R : List (List S32)) (m : Int), 0 ≤ m ∧ m ≤ 8 ∧ (∀ v ∈ R, v.length = 4) ∧ (R.length : Int) = m + ((P.length : Int) - 2) ∧ R.length ≤ 1000 ∧
      Ev (fun k => impl_StrokeOf.f k [P] w) R ∧ Ev (fun k => spec_StrokeOf.f k [P] w) R ∧
      ∀ (r : Bool), Ev (fun k => laws_FnStrokeLines.l1 k P w R (R.length : Int) 0) r → Ev (fun k => laws_FnStrokeLines.l0 k P w R ((P.length : Int) - 2) 1) r := by
  obtain ⟨R, m, hm, hv, hl, hI, hS, hL⟩ := strokes_l hP hU hw (P.length - 1) 1 [] (by omega) (by omega) (by simp; omega)
  have rl : rd_L3 [P] 0 = P := rfl
  rw [List.nil_append] at hI hS
  refine ⟨R, m, by omega, by omega, hv, by omega, by omega, ?_, ?_, fun r h => hL R _ r (by omega) (by omega) (by rw [show (P.length : Int) - 2 + m = (R.length : Int) by omega]; exact h)⟩
  · unfold impl_StrokeOf.f impl_isWidth.f
    simp only [impl_inRange_v, Option.bind_some, decide_eq_true hw, if_true]
    refine Ev.step (fun k => rfl) ?_
    simp only [impl_StrokeOf.l0, List.length_cons, List.length_nil, rl]
    simp only [if_pos (show (0 : Int) < ((0 + 1 : Nat) : Int) by omega), if_pos (show (0 : Int) ≤ 0 by omega)]
    refine Ev.bind (ok_l hP hU P.length 0 (by omega)) ?_
    simp only [if_true]
    refine Ev.bind (show Ev (fun k => impl_strokeOf.f k P w) R from hI) ?_
    simp only [if_pos (show 0 + R.length < 5864062014805 by omega), List.nil_append]
    refine ev_done (fun k => ?_)
    simp only [impl_StrokeOf.l0]
    rw [if_neg (by rw [w64 (x := 0 + 1) (by omega) (by omega)]; omega)]
  · unfold spec_StrokeOf.f
    simp only [spec_l01In_v, Option.bind_some, decide_eq_true hw, if_true]
    refine Ev.step (f := fun k => spec_StrokeOf.l1 k [P] w [] 0 0) (fun k => ?_) ?_
    · simp only [spec_StrokeOf.l0]
      rw [if_pos (by simp)]
    have hi2 : 0 < P.length := by omega
    have r1 : rd_T32 P 0 = P[0] := rd_impl_Point P 0 hi2
    have hp : spec_PointOk.f P[0].f0 P[0].f1 = some true := by
      obtain ⟨⟨a1, a2⟩, a3, a4⟩ := hP P[0] (List.getElem_mem hi2)
      rw [spec_PointOk_v, decide_eq_true (show pointOkP P[0].f0 P[0].f1 from ⟨⟨by omega, by omega⟩, by omega, by omega⟩)]
    refine Ev.step (fun k => ?_) hS
    simp only [spec_StrokeOf.l1, rl, r1, hp, Option.bind_some, if_true]
    rw [if_pos (by omega), if_pos (by simp), if_pos (by omega), if_pos (by omega), if_neg (by omega), w64 (x := 0 + 1) (by omega) (by omega)]
    rfl
end
theorem same_l (xs : List S32) (hn : xs.length ≤ 1048576) : ∀ (d i : Nat), i + d = xs.length → Ev (fun k => laws_samePoints.l0 k xs xs (i : Int)) true := by
  intro d
  induction d with
  | zero =>
    intro i hi
    refine ev_done (fun k => ?_)
    simp only [laws_samePoints.l0]
    rw [if_neg (by omega)]
  | succ d ih =>
    intro i hi
    have hi2 : i < xs.length := by omega
    refine Ev.step (fun k => ?_) (ih (i + 1) (by omega))
    simp only [laws_samePoints.l0, beq_self_eq_true, Bool.not_true, Bool.or_self, Bool.false_eq_true, if_false]
    rw [if_pos (by omega), if_pos (by omega), if_pos (by omega), step64 hi2 (by omega)]
theorem same_v (xs : List S32) (hn : xs.length ≤ 1048576) : Ev (fun k => laws_samePoints.f k xs xs) true := by
  unfold laws_samePoints.f
  simp only [if_true]
  exact same_l xs hn xs.length 0 (by omega)
theorem lines_l (xs : List (List S32)) (hn : xs.length ≤ 1048576) (h4 : ∀ v ∈ xs, v.length = 4) : ∀ (d i : Nat), i + d = xs.length → Ev (fun k => laws_sameLines.l0 k xs xs (i : Int)) true := by
  intro d
  induction d with
  | zero =>
    intro i hi
    refine ev_done (fun k => ?_)
    simp only [laws_sameLines.l0]
    rw [if_neg (by omega)]
  | succ d ih =>
    intro i hi
    have hi2 : i < xs.length := by omega
    refine Ev.step (fun k => rfl) ?_
    simp only [laws_sameLines.l0, rd_impl_PointSS xs i hi2, if_pos (show (i : Int) < (xs.length : Int) by omega), if_pos (show (0 : Int) ≤ (i : Int) by omega)]
    refine Ev.bind (same_v xs[i] (by have := h4 _ (List.getElem_mem hi2); omega)) ?_
    simp only [if_true, step64 hi2 (by omega)]
    exact ih (i + 1) (by omega)
theorem lens_l (P : List S32) (w : Int) (s : List (List S32)) (hn : s.length ≤ 1000) (h4 : ∀ v ∈ s, v.length = 4) (hS : Ev (fun k => spec_StrokeOf.f k [P] w) s) (hZ : Ev (fun k => impl_StrokeOf.f k [P] 0) []) :
    ∀ (d i : Nat), i + d = s.length → Ev (fun k => laws_FnStrokeLines.l1 k P w s (s.length : Int) (i : Int)) true := by
  intro d
  induction d with
  | zero =>
    intro i hi
    refine Ev.step (fun k => rfl) ?_
    simp only [laws_FnStrokeLines.l1, if_neg (show ¬ ((i : Int) < (s.length : Int)) by omega), if_true]
    refine Ev.bind hS (Ev.bind (a := true) ?_ ?_)
    · unfold laws_sameLines.f
      simp only [if_true]
      exact lines_l s (by omega) h4 s.length 0 (by omega)
    · simp only [if_true]
      refine Ev.bind hZ ?_
      exact Ev.now _
  | succ d ih =>
    intro i hi
    have hi2 : i < s.length := by omega
    have := h4 _ (List.getElem_mem hi2)
    refine Ev.step (fun k => ?_) (ih (i + 1) (by omega))
    simp only [laws_FnStrokeLines.l1, rd_impl_PointSS s i hi2]
    rw [if_pos (by omega), if_pos (by omega), if_pos (by omega), step64 hi2 (by omega)]
theorem FnStrokeLines : laws_FnStrokeLines.Pure := by
  intro l hl _ _
  by_cases hn : (l.length : Int) > 1048576
  · exact ⟨0, by simp only [laws_FnStrokeLines.f, laws_big.f, Option.bind_some, decide_eq_true hn, if_true]⟩
  · obtain ⟨P, hP, ⟨p4, p8⟩, hP3⟩ := DrawPointsU l (by omega)
    obtain ⟨r, hr, hr2, hr3⟩ := DrawPlaces_v l (by omega)
    have t0 : 0 ≤ Int.tmod (rd r 0) 900 ∧ Int.tmod (rd r 0) 900 ≤ 899 := by
      obtain ⟨v, rest, rfl⟩ : ∃ v rest, r = v :: rest := by
        match r, hr2 with
        | v :: rest, _ => exact ⟨v, rest, rfl⟩
      have hv := hr3 v (by simp)
      have g : rd (v :: rest) 0 = v := by simp [rd]
      rw [g]
      have h1 := Int.tmod_nonneg 900 hv
      have h2 := Int.tmod_lt_of_pos v (show (0 : Int) < 900 by omega)
      omega
    have ew : wrap64 (1 + Int.tmod (rd r 0) 900) = 1 + Int.tmod (rd r 0) 900 := w64 (by omega) (by omega)
    obtain ⟨R, m, m0, m1, h4, hl2, hn2, hI, hS, hL⟩ := stroke_v (w := 1 + Int.tmod (rd r 0) 900) hP3 p8 (by omega) p4
    have hZ : Ev (fun k => impl_StrokeOf.f k [P] 0) [] := by
      unfold impl_StrokeOf.f impl_isWidth.f
      simp only [impl_inRange_v, Option.bind_some, decide_eq_false (show ¬ ((1 : Int) ≤ 0 ∧ (0 : Int) ≤ 2048) by omega), Bool.false_eq_true, if_false]
      exact Ev.now _
    refine Ev.rounds ?_
    simp only [laws_FnStrokeLines.f, laws_big.f, Option.bind_some, decide_eq_false hn, Bool.false_eq_true, if_false]
    refine Ev.bind hP (Ev.bind hr ?_)
    simp only [if_pos (show (0 : Int) < (r.length : Int) by omega), ew, w64 (x := (P.length : Int) - 2) (by omega) (by omega)]
    refine Ev.bind hI ?_
    exact hL true (lens_l P _ R hn2 h4 hS hZ R.length 0 (by omega))

end Go.Proofs.Ytgdlbilpfmjeaaa.Pure
