/- The pure statement of the law FnStrokes, for every input: what the printed functions compute makes the law answer true. No conditions beyond what the row reads. -/
import Derived.Test.YtkbgcdoeedmaiaaMFnStrokesx5
namespace Go.Proofs.Ytkbgcdoeedmaiaa.Pure
open Go.RowKit Go.Proofs.Ytkbgcdoeedmaiaa.MFnStrokes Go.Proofs.YtkbgcdoeedmaiaaW.PrintWords Go.Proofs.YtkbgcdoeedmaiaaW.PrintLast
set_option linter.unusedVariables false
set_option linter.unusedSimpArgs false

/-! base -/
theorem w64 {x : Int} (h1 : -9223372036854775808 ≤ x) (h2 : x ≤ 9223372036854775807) : wrap64 x = x := by
  unfold wrap64
  omega

theorem wf64 {x : Int} (h : (Lit.int .i64 x).wf = true) : -9223372036854775808 ≤ x ∧ x ≤ 9223372036854775807 := by
  have h2 : (decide (IntKind.i64.min ≤ x) && decide (x ≤ IntKind.i64.max)) = true := h
  rw [Bool.and_eq_true, decide_eq_true_eq, decide_eq_true_eq] at h2
  exact ⟨h2.1, h2.2⟩

theorem take_set_succ {α : Type} (xs : List α) (i : Nat) (v : α) (h : i < xs.length) : (xs.set i v).take (i + 1) = xs.take i ++ [v] := by
  rw [List.take_succ_eq_append_getElem (by simpa using h), List.take_set_of_le (Nat.le_refl i), List.getElem_set_self]

theorem step64 {i n : Nat} (h : i < n) (hn : n ≤ 4611686018427387904) : wrap64 ((i : Int) + 1) = ((i + 1 : Nat) : Int) := by
  rw [w64 (by omega) (by omega)]
  omega

theorem ev_done {α : Type} {g : Nat → Option α} {r : α} (h : ∀ k, g (k + 1) = some r) : Ev g r := Ev.step (f := fun _ => some r) h (Ev.now r)

theorem ev_const {α : Type} {o : Option α} {r : α} (h : o = some r) : Ev (fun _ => o) r := by
  subst h
  exact Ev.now r

/-! spec_FloorDiv -/
theorem spec_FloorDiv_tot (a b : Int) : ∃ q, spec_FloorDiv.f a b = some q := by
  unfold spec_FloorDiv.f
  by_cases h : b < 1
  · exact ⟨0, by rw [if_pos h]⟩
  · rw [if_neg h, if_neg (by omega)]
    split <;> exact ⟨_, rfl⟩
theorem spec_FloorDiv_v {a b : Int} (ha : -9223372036854775808 ≤ a) (ha2 : a ≤ 9223372036854775807) (hb : 1 ≤ b) (hb2 : b ≤ 9223372036854775807) : spec_FloorDiv.f a b = some (a / b) := by
  have hq : -9223372036854775808 ≤ a / b ∧ a / b ≤ 9223372036854775807 := by
    refine ⟨(Int.le_ediv_iff_mul_le (by omega)).mpr ?_, ?_⟩
    · have : 9223372036854775808 * 1 ≤ 9223372036854775808 * b := Int.mul_le_mul_of_nonneg_left hb (by omega)
      rw [Int.neg_mul]
      omega
    · rcases Int.le_total 0 a with h | h
      · exact Int.le_trans (Int.ediv_le_self b h) ha2
      · have : a / b ≤ 0 := Int.ediv_le_of_le_mul (by omega) (by omega)
        omega
  have hm := Int.emod_nonneg a (show b ≠ 0 by omega)
  have hml := Int.emod_lt_of_pos a (show 0 < b by omega)
  have hd := Int.mul_ediv_add_emod a b
  unfold spec_FloorDiv.f
  rw [if_neg (by omega), if_neg (by omega)]
  by_cases h0 : 0 ≤ a
  · rw [Int.tmod_eq_emod_of_nonneg h0, if_neg (by omega), Int.tdiv_eq_ediv_of_nonneg h0, w64 hq.1 hq.2]
  · have e1 : Int.tdiv a b = if a % b = 0 then a / b else a / b + 1 := by
      rw [Int.tdiv_eq_ediv]
      have hs : b.sign = 1 := Int.sign_eq_one_of_pos (by omega)
      by_cases hz : a % b = 0
      · rw [if_pos hz, if_pos (.inr (Int.dvd_of_emod_eq_zero hz))]
        omega
      · rw [if_neg hz, if_neg (by
          rintro (h | h)
          · omega
          · exact hz (Int.emod_eq_zero_of_dvd h)), hs]
    have e2 : Int.tmod a b = a - b * Int.tdiv a b := by have := Int.mul_tdiv_add_tmod a b; omega
    by_cases hz : a % b = 0
    · rw [if_pos hz] at e1
      rw [if_neg (by rw [e2, e1]; omega), e1, w64 hq.1 hq.2]
    · rw [if_neg hz] at e1
      have hlt : a / b + 1 ≤ 0 := by
        have : a / b < 0 := Int.ediv_neg_of_neg_of_pos (by omega) (by omega)
        omega
      rw [if_pos (by rw [e2, e1, Int.mul_add]; omega), e1, w64 (x := a / b + 1) (by omega) (by omega), w64 (by omega) (by omega)]
      congr 1
      omega

/-! spec_RoundDiv -/
theorem spec_RoundDiv_tot (a b : Int) : ∃ q, spec_RoundDiv.f a b = some q := by
  obtain ⟨q, hq⟩ := spec_FloorDiv_tot a b
  unfold spec_RoundDiv.f
  rw [hq, Option.bind_some]
  split
  · exact ⟨_, rfl⟩
  · split <;> exact ⟨_, rfl⟩

/-! impl_FloorDiv -/
theorem impl_FloorDiv_s (a b : Int) : impl_FloorDiv.f a b = spec_FloorDiv.f a b := rfl

/-! impl_RoundDiv -/
theorem impl_RoundDiv_s (a b : Int) : impl_RoundDiv.f a b = spec_RoundDiv.f a b := rfl

/-! Draw -/
theorem and255 (n : Int) : Go.bits .and .i64 n 255 = n % 256 := by
  have h255 : (BitVec.ofInt 64 255).toNat = 2 ^ 8 - 1 := by decide
  have key : (BitVec.ofInt 64 n &&& BitVec.ofInt 64 255).toNat = (n % ((2 ^ 64 : Nat) : Int)).toNat % 2 ^ 8 := by
    rw [BitVec.toNat_and, BitVec.toNat_ofInt, h255, Nat.and_two_pow_sub_one_eq_mod]
  show IntKind.i64.wrap ((BitVec.ofInt 64 n &&& BitVec.ofInt 64 255).toNat : Nat) = n % 256
  rw [key, IntKind.wrap_i64]
  omega
theorem byte_r (l : List Int) (p s : Int) (hp : 0 ≤ p) (hl : p ≤ l.length) (hn : l.length ≤ 1048576) : ∃ b q t : Int, spec_l01Byte.f l p s = some (b, q, t) ∧ 0 ≤ b ∧ b ≤ 255 ∧ 0 ≤ q ∧ q ≤ l.length := by
  unfold spec_l01Byte.f
  by_cases h : p < (l.length : Int)
  · rw [if_pos h, if_pos hp]
    refine ⟨_, _, _, rfl, ?_, ?_, ?_, ?_⟩
    · rw [and255]
      omega
    · rw [and255]
      omega
    · rw [w64 (by omega) (by omega)]
      omega
    · rw [w64 (by omega) (by omega)]
      omega
  · rw [if_neg h]
    refine ⟨_, _, _, rfl, ?_, ?_, hp, hl⟩
    · rw [and255]
      omega
    · rw [and255]
      omega
theorem below_r (l : List Int) (p s n : Int) (hp : 0 ≤ p) (hl : p ≤ l.length) (hn : l.length ≤ 1048576) (h0 : 0 < n) (h1 : n ≤ 9223372036854775807) : ∃ b q t : Int, spec_l01Below.f l p s n = some (b, q, t) ∧ 0 ≤ b ∧ b < n ∧ 0 ≤ q ∧ q ≤ l.length := by
  unfold spec_l01Below.f
  rw [if_neg (by omega)]
  by_cases h : n ≤ 256
  · obtain ⟨b, q, t, e, b0, b1, q0, q1⟩ := byte_r l p s hp hl hn
    rw [if_pos h, e]
    simp only [Option.bind_some]
    rw [if_neg (by omega)]
    refine ⟨_, _, _, rfl, ?_, ?_, q0, q1⟩
    · exact Int.tmod_nonneg _ b0
    · exact Int.tmod_lt_of_pos _ h0
  · obtain ⟨b, q, t, e, b0, b1, q0, q1⟩ := byte_r l p s hp hl hn
    obtain ⟨b', q', t', e', b0', b1', q0', q1'⟩ := byte_r l q t q0 q1 hn
    obtain ⟨b2, q2, t2, e2, b02, b12, q02, q12⟩ := byte_r l q' t' q0' q1' hn
    obtain ⟨b3, q3, t3, e3, b03, b13, q03, q13⟩ := byte_r l q2 t2 q02 q12 hn
    rw [if_neg h, e]
    simp only [Option.bind_some, e', e2, e3]
    rw [if_neg (by omega)]
    refine ⟨_, _, _, rfl, ?_, ?_, q03, q13⟩
    · refine Int.tmod_nonneg _ ?_
      rw [w64 (x := b * 16777216) (by omega) (by omega), w64 (x := b' * 65536) (by omega) (by omega), w64 (x := b2 * 256) (by omega) (by omega), w64 (x := b * 16777216 + b' * 65536) (by omega) (by omega), w64 (x := b * 16777216 + b' * 65536 + b2 * 256) (by omega) (by omega), w64 (by omega) (by omega)]
      omega
    · exact Int.tmod_lt_of_pos _ h0
theorem new_l (l : List Int) (hn : l.length ≤ 1048576) : ∀ (d : Nat) (i : Int) (x3 : Int), i + d = 4000 → 0 ≤ i → ∃ s, Ev (fun k => spec_l01New.l0 k l x3 i) (l, 0, s) := by
  intro d
  induction d with
  | zero =>
    intro i x3 hi h0
    refine ⟨x3, ev_done (fun k => ?_)⟩
    simp only [spec_l01New.l0]
    by_cases h : i < (l.length : Int)
    · rw [if_pos h, if_neg (by omega)]
    · rw [if_neg h]
  | succ d ih =>
    intro i x3 hi h0
    by_cases h : i < (l.length : Int)
    · obtain ⟨s, hs⟩ := ih (i + 1) (Go.bits .and .i64 (wrap64 ((wrap64 ((wrap64 (x3 * 131)) + (wrap64 (rd l i)))) + 7)) 1073741823) (by omega) (by omega)
      refine ⟨s, Ev.step (fun k => ?_) hs⟩
      simp only [spec_l01New.l0]
      rw [if_pos h, if_pos (by omega), if_pos h0, w64 (x := i + 1) (by omega) (by omega)]
    · refine ⟨x3, ev_done (fun k => ?_)⟩
      simp only [spec_l01New.l0]
      rw [if_neg h]
theorem new_v (l : List Int) (hn : l.length ≤ 1048576) : ∃ s, Ev (fun k => spec_l01New.f k l) (l, 0, s) := by
  obtain ⟨s, hs⟩ := new_l l hn 4000 0 (wrap64 (28001 + (l.length : Int))) (by omega) (by omega)
  exact ⟨s, hs⟩
def R255 (x : Int) : Int := (x + 127) / 255
theorem RoundDiv255 {x : Int} (h0 : 0 ≤ x) (h1 : x ≤ 1000000000) : spec_RoundDiv.f x 255 = some (R255 x) := by
  unfold spec_RoundDiv.f
  rw [if_neg (by omega), spec_FloorDiv_v (by omega) (by omega) (by omega) (by omega), Option.bind_some]
  rw [w64 (x := x / 255 * 255) (by omega) (by omega), w64 (x := x - x / 255 * 255) (by omega) (by omega), w64 (x := 255 - (x - x / 255 * 255)) (by omega) (by omega), w64 (x := x / 255 + 1) (by omega) (by omega)]
  unfold R255
  split
  · congr 1
    omega
  · congr 1
    omega

/-! rd_impl_Point -/
theorem rd_impl_Point (xs : List S45) (i : Nat) (h : i < xs.length) : rd_T45 xs (i : Int) = xs[i] := by
  unfold rd_T45
  simp [h]

/-! DrawPoints -/
theorem point_r (l : List Int) (p s : Int) (hp : 0 ≤ p) (hl : p ≤ l.length) (hn : l.length ≤ 1048576) : ∃ a b q t : Int, spec_l04Point.f l p s = some (a, b, q, t) ∧ (-300 ≤ a ∧ a ≤ 3299) ∧ (-300 ≤ b ∧ b ≤ 3299) ∧ 0 ≤ q ∧ q ≤ l.length := by
  obtain ⟨b0, q0, t0, e0, l0, u0, v0, w0⟩ := below_r l p s 3600 hp hl hn (by omega) (by omega)
  obtain ⟨b1, q1, t1, e1, l1, u1, v1, w1⟩ := below_r l q0 t0 3600 v0 w0 hn (by omega) (by omega)
  unfold spec_l04Point.f
  rw [e0]
  simp only [Option.bind_some, e1]
  rw [w64 (x := b0 - 300) (by omega) (by omega), w64 (x := b1 - 300) (by omega) (by omega)]
  exact ⟨_, _, _, _, rfl, by omega, by omega, v1, w1⟩
def nearP (x : S45) : Prop := (-300 ≤ x.f0 ∧ x.f0 ≤ 3299) ∧ (-300 ≤ x.f1 ∧ x.f1 ≤ 3299)
theorem points_l (l : List Int) (hn : l.length ≤ 1048576) : ∀ (d : Nat) (i : Int) (acc : List S45) (p s : Int), i + d = 8 → 0 ≤ i → (acc.length : Int) = i → (∀ v ∈ acc, nearP v) → 0 ≤ p → p ≤ l.length →
    ∃ r, Ev (fun k => spec_DrawPoints.l0 k acc i l p s) r ∧ 4 ≤ r.length ∧ ∀ v ∈ r, nearP v := by
  intro d
  induction d with
  | zero =>
    intro i acc p s hi h0 ha hv hp hl
    obtain ⟨b, q, t, e, b0, b1, q0, q1⟩ := below_r l p s 5 hp hl hn (by omega) (by omega)
    refine ⟨acc, ev_done (fun k => ?_), by omega, hv⟩
    simp only [spec_DrawPoints.l0, e, Option.bind_some, w64 (x := 4 + b) (by omega) (by omega)]
    rw [if_neg (by omega)]
  | succ d ih =>
    intro i acc p s hi h0 ha hv hp hl
    obtain ⟨b, q, t, e, b0, b1, q0, q1⟩ := below_r l p s 5 hp hl hn (by omega) (by omega)
    by_cases hb : i < 4 + b
    · obtain ⟨x, y, q2, t2, e2, hx, hy, v2, w2⟩ := point_r l q t q0 q1 hn
      obtain ⟨r, h1, h2, h3⟩ := ih (i + 1) (acc ++ [⟨x, y⟩]) q2 t2 (by omega) (by omega) (by simp; omega) (by
        intro v hv'
        rcases List.mem_append.mp hv' with h | h
        · exact hv v h
        · obtain rfl : v = ⟨x, y⟩ := by simpa using h
          exact ⟨hx, hy⟩) v2 w2
      refine ⟨r, Ev.step (fun k => ?_) h1, h2, h3⟩
      simp only [spec_DrawPoints.l0, e, e2, Option.bind_some, w64 (x := i + 1) (by omega) (by omega), w64 (x := 4 + b) (by omega) (by omega)]
      rw [if_pos hb, if_pos (by omega)]
    · refine ⟨acc, ev_done (fun k => ?_), by omega, hv⟩
      simp only [spec_DrawPoints.l0, e, Option.bind_some, w64 (x := 4 + b) (by omega) (by omega)]
      rw [if_neg hb]
theorem DrawPoints_v (l : List Int) (hn : l.length ≤ 1048576) : ∃ r, Ev (fun k => spec_DrawPoints.f k l) r ∧ 4 ≤ r.length ∧ ∀ v ∈ r, nearP v := by
  obtain ⟨s, hs⟩ := new_v l hn
  obtain ⟨r, h1, h2, h3⟩ := points_l l hn 8 0 [] 0 s (by omega) (by omega) rfl (by simp) (by omega) (by omega)
  refine ⟨r, ?_, h2, h3⟩
  unfold spec_DrawPoints.f
  refine Ev.bind hs ?_
  exact h1

/-! DrawPlaces -/
theorem places_l (l : List Int) (hn : l.length ≤ 1048576) : ∀ (d : Nat) (i : Int) (acc : List Int) (p s : Int), i + d = 12 → 0 ≤ i → (acc.length : Int) = i → (∀ v ∈ acc, 0 ≤ v) → 0 ≤ p → p ≤ l.length →
    ∃ r, Ev (fun k => spec_DrawPlaces.l0 k acc i l p s) r ∧ r.length = 12 ∧ ∀ v ∈ r, 0 ≤ v := by
  intro d
  induction d with
  | zero =>
    intro i acc p s hi h0 ha hv hp hl
    refine ⟨acc, ev_done (fun k => ?_), by omega, hv⟩
    simp only [spec_DrawPlaces.l0]
    rw [if_neg (by omega)]
  | succ d ih =>
    intro i acc p s hi h0 ha hv hp hl
    obtain ⟨b, q, t, e, b0, b1, q0, q1⟩ := below_r l p s 10000 hp hl hn (by omega) (by omega)
    obtain ⟨r, h1, h2, h3⟩ := ih (i + 1) (acc ++ [b]) q t (by omega) (by omega) (by simp; omega) (by
      intro v hv'
      rcases List.mem_append.mp hv' with h | h
      · exact hv v h
      · obtain rfl : v = b := by simpa using h
        exact b0) q0 q1
    refine ⟨r, Ev.step (fun k => ?_) h1, h2, h3⟩
    simp only [spec_DrawPlaces.l0, e, Option.bind_some, w64 (x := i + 1) (by omega) (by omega)]
    rw [if_pos (by omega), if_pos (by omega)]
theorem DrawPlaces_v (l : List Int) (hn : l.length ≤ 1048576) : ∃ r, Ev (fun k => spec_DrawPlaces.f k l) r ∧ r.length = 12 ∧ ∀ v ∈ r, 0 ≤ v := by
  obtain ⟨s, hs⟩ := new_v l hn
  obtain ⟨b, q, t, e, b0, b1, q0, q1⟩ := byte_r l 0 s (by omega) (by omega) hn
  obtain ⟨r, h1, h2, h3⟩ := places_l l hn 12 0 [] q t (by omega) (by omega) rfl (by simp) q0 q1
  refine ⟨r, ?_, h2, h3⟩
  unfold spec_DrawPlaces.f
  refine Ev.bind hs ?_
  simp only [e, Option.bind_some]
  exact h1

/-! RootP -/
theorem sq_mono {a b : Int} (h0 : 0 ≤ a) (h : a ≤ b) : a * a ≤ b * b := Int.mul_le_mul h h h0 (by omega)
def RootP (n r : Int) : Prop := 0 ≤ r ∧ r ≤ 3037000499 ∧ (r * r ≤ n ∨ r = 0) ∧ (r = 3037000499 ∨ n < (r + 1) * (r + 1))
theorem RootP_lt {n r s : Int} (hr : RootP n r) (hs : RootP n s) : ¬ r < s := by
  intro h
  obtain ⟨h1, h2, h3, h4⟩ := hr
  obtain ⟨g1, g2, g3, g4⟩ := hs
  have q := sq_mono (a := r + 1) (b := s) (by omega) (by omega)
  rcases h4 with h4 | h4
  · omega
  · rcases g3 with g3 | g3
    · omega
    · omega
theorem RootP_unique {n r s : Int} (hr : RootP n r) (hs : RootP n s) : r = s := by
  have h1 := RootP_lt hr hs
  have h2 := RootP_lt hs hr
  omega
theorem half64 {x : Int} (h0 : 0 ≤ x) (h1 : x ≤ 9223372036854775807) : wrap64 (Int.tdiv x 2) = x / 2 := by
  rw [Int.tdiv_eq_ediv_of_nonneg h0, w64 (by omega) (by omega)]

/-! spec_RootOf -/
theorem spec_RootOf_l (n : Int) (hn : 0 ≤ n) (d : Nat) : ∀ (low high : Int), 0 ≤ low → low < high → high ≤ 3037000500 → high - low ≤ d + 1 → low * low ≤ n → (high = 3037000500 ∨ n < high * high) →
    ∃ r, Ev (fun k => spec_RootOf.l0 k n low high) r ∧ RootP n r := by
  induction d with
  | zero =>
    intro low high h0 h1 h2 h3 h4 h5
    obtain rfl : high = low + 1 := by omega
    refine ⟨low, ev_done (fun k => by simp only [spec_RootOf.l0]; rw [w64 (by omega) (by omega), if_neg (by omega)]), h0, by omega, .inl h4, ?_⟩
    rcases h5 with h5 | h5
    · exact .inl (by omega)
    · exact .inr h5
  | succ d ih =>
    intro low high h0 h1 h2 h3 h4 h5
    have e0 : wrap64 (low + 1) = low + 1 := w64 (by omega) (by omega)
    by_cases hlt : low + 1 < high
    · have e1 : wrap64 (low + high) = low + high := w64 (by omega) (by omega)
      have e3 : wrap64 (Int.tdiv (low + high) 2) = (low + high) / 2 := half64 (by omega) (by omega)
      have q := sq_mono (a := (low + high) / 2) (b := 3037000499) (by omega) (by omega)
      have q0 := sq_mono (a := 0) (b := (low + high) / 2) (by omega) (by omega)
      generalize hm : (low + high) / 2 = m at e3 q q0
      have e4 : wrap64 (m * m) = m * m := w64 (by omega) (by omega)
      by_cases hc : m * m ≤ n
      · obtain ⟨r, hr, hp⟩ := ih m high (by omega) (by omega) h2 (by omega) hc h5
        refine ⟨r, Ev.step (fun k => ?_) hr, hp⟩
        simp only [spec_RootOf.l0]
        rw [e0, if_pos hlt, e1, e3, e4, if_pos (by omega), if_pos hc]
      · obtain ⟨r, hr, hp⟩ := ih low m h0 (by omega) (by omega) (by omega) h4 (.inr (by omega))
        refine ⟨r, Ev.step (fun k => ?_) hr, hp⟩
        simp only [spec_RootOf.l0]
        rw [e0, if_pos hlt, e1, e3, e4, if_pos (by omega), if_neg hc]
    · obtain rfl : high = low + 1 := by omega
      refine ⟨low, ev_done (fun k => by simp only [spec_RootOf.l0]; rw [e0, if_neg hlt]), h0, by omega, .inl h4, ?_⟩
      rcases h5 with h5 | h5
      · exact .inl (by omega)
      · exact .inr h5
theorem spec_RootOf_v (n : Int) : ∃ r, Ev (fun k => spec_RootOf.f k n) r ∧ RootP n r := by
  by_cases hn : n < 0
  · refine ⟨0, Ev.congr (fun k => by unfold spec_RootOf.f; rw [if_pos hn]) (Ev.now 0), by omega, by omega, .inr rfl, .inr (by omega)⟩
  · obtain ⟨r, h, hp⟩ := spec_RootOf_l n (by omega) 3037000499 0 3037000500 (by omega) (by omega) (by omega) (by omega) (by omega) (.inl rfl)
    refine ⟨r, Ev.congr (fun k => ?_) h, hp⟩
    unfold spec_RootOf.f
    rw [if_neg hn]

/-! impl_RootOf -/
theorem impl_RootOf_l (n : Int) (d : Nat) : ∀ (low high : Int), 0 ≤ low → low ≤ high → high ≤ 3037000499 → high - low ≤ d → (low * low ≤ n ∨ low = 0) → (high = 3037000499 ∨ n < (high + 1) * (high + 1)) →
    ∃ r, Ev (fun k => impl_RootOf.l0 k n low high) r ∧ RootP n r := by
  induction d with
  | zero =>
    intro low high h0 h1 h2 h3 h4 h5
    obtain rfl : low = high := by omega
    exact ⟨low, ev_done (fun k => by simp only [impl_RootOf.l0]; rw [if_neg (by omega)]), h0, h2, h4, h5⟩
  | succ d ih =>
    intro low high h0 h1 h2 h3 h4 h5
    by_cases hlt : low < high
    · have e1 : wrap64 (low + high) = low + high := w64 (by omega) (by omega)
      have e2 : wrap64 (low + high + 1) = low + high + 1 := w64 (by omega) (by omega)
      have e3 : wrap64 (Int.tdiv (low + high + 1) 2) = (low + high + 1) / 2 := half64 (by omega) (by omega)
      have q := sq_mono (a := (low + high + 1) / 2) (b := 3037000499) (by omega) (by omega)
      have q0 := sq_mono (a := 0) (b := (low + high + 1) / 2) (by omega) (by omega)
      generalize hm : (low + high + 1) / 2 = m at e3 q q0
      have e4 : wrap64 (m * m) = m * m := w64 (by omega) (by omega)
      have e5 : wrap64 (m - 1) = m - 1 := w64 (by omega) (by omega)
      by_cases hc : m * m ≤ n
      · obtain ⟨r, hr, hp⟩ := ih m high (by omega) (by omega) h2 (by omega) (.inl hc) h5
        refine ⟨r, Ev.step (fun k => ?_) hr, hp⟩
        simp only [impl_RootOf.l0]
        rw [if_pos hlt, e1, e2, e3, e4, if_pos hc]
      · obtain ⟨r, hr, hp⟩ := ih low (m - 1) h0 (by omega) (by omega) (by omega) h4 (.inr (by rw [show m - 1 + 1 = m by omega]; omega))
        refine ⟨r, Ev.step (fun k => ?_) hr, hp⟩
        simp only [impl_RootOf.l0]
        rw [if_pos hlt, e1, e2, e3, e4, if_neg hc, e5]
    · obtain rfl : low = high := by omega
      exact ⟨low, ev_done (fun k => by simp only [impl_RootOf.l0]; rw [if_neg (by omega)]), h0, h2, h4, h5⟩
theorem impl_RootOf_v (n : Int) : ∃ r, Ev (fun k => impl_RootOf.f k n) r ∧ RootP n r := impl_RootOf_l n 3037000499 0 3037000499 (by omega) (by omega) (by omega) (by omega) (.inr rfl) (.inl rfl)

/-! spec_l01In -/
theorem spec_l01In_v (a b c : Int) : spec_l01In.f a b c = some (decide (b ≤ a ∧ a ≤ c)) := by
  unfold spec_l01In.f
  by_cases h : a ≥ b
  · rw [if_pos h]
    simp [h]
  · rw [if_neg h]
    simp
    omega

/-! spec_PointOk -/
def pointOkP (a b : Int) : Prop := (-8388608 ≤ a ∧ a ≤ 8388608) ∧ (-8388608 ≤ b ∧ b ≤ 8388608)
instance (a b : Int) : Decidable (pointOkP a b) := by unfold pointOkP; infer_instance
theorem spec_PointOk_v (a b : Int) : spec_PointOk.f a b = some (decide (pointOkP a b)) := by
  unfold spec_PointOk.f pointOkP
  simp only [spec_l01In_v, Option.bind_some, decide_eq_true_eq]
  repeat' split
  all_goals first | (refine congrArg some (decide_eq_decide.mpr ?_); omega) | (refine congrArg some (Eq.symm (decide_eq_false ?_)); omega)

/-! impl_inRange -/
theorem impl_inRange_v (a b c : Int) : impl_inRange.f a b c = some (decide (b ≤ a ∧ a ≤ c)) := by
  unfold impl_inRange.f
  by_cases h : a ≥ b
  · rw [if_pos h]
    simp [h]
  · rw [if_neg h]
    simp
    omega

/-! impl_isFar -/
theorem impl_isFar_v (a : Int) : impl_isFar.f a = some (decide (-8388608 ≤ a ∧ a ≤ 8388608)) := by
  unfold impl_isFar.f
  simp only [impl_inRange_v, Option.bind_some]

/-! impl_PointOk -/
theorem impl_PointOk_v (a b : Int) : impl_PointOk.f a b = some (decide (pointOkP a b)) := by
  unfold impl_PointOk.f pointOkP
  simp only [impl_isFar_v, Option.bind_some, decide_eq_true_eq]
  repeat' split
  all_goals first | (refine congrArg some (decide_eq_decide.mpr ?_); omega) | (refine congrArg some (Eq.symm (decide_eq_false ?_)); omega)

/-! LengthOf -/
theorem LengthOf_v (a b c d : Int) : ∃ r, Ev (fun k => spec_LengthOf.f k a b c d) r ∧ Ev (fun k => impl_LengthOf.f k a b c d) r ∧ 0 ≤ r ∧ r ≤ 3037000499 ∧
    (pointOkP a b → pointOkP c d → RootP ((c - a) * (c - a) + (d - b) * (d - b)) r) ∧ (¬ (pointOkP a b ∧ pointOkP c d) → r = 0) := by
  by_cases h1 : pointOkP a b
  · by_cases h2 : pointOkP c d
    · obtain ⟨r, hr, hp⟩ := impl_RootOf_v ((c - a) * (c - a) + (d - b) * (d - b))
      obtain ⟨s, hs, hq⟩ := spec_RootOf_v ((c - a) * (c - a) + (d - b) * (d - b))
      obtain rfl := RootP_unique hp hq
      obtain ⟨⟨p1, p2⟩, p3, p4⟩ := h1
      obtain ⟨⟨q1, q2⟩, q3, q4⟩ := h2
      have e1 : wrap64 (c - a) = c - a := w64 (by omega) (by omega)
      have e2 : wrap64 (d - b) = d - b := w64 (by omega) (by omega)
      have sq : ∀ x : Int, -16777216 ≤ x → x ≤ 16777216 → 0 ≤ x * x ∧ x * x ≤ 281474976710656 := by
        intro x hx hy
        rcases Int.le_total 0 x with h | h
        · have := sq_mono h hy
          have := sq_mono (a := 0) (by omega) h
          omega
        · have := sq_mono (a := -x) (b := 16777216) (by omega) (by omega)
          have := sq_mono (a := 0) (b := -x) (by omega) (by omega)
          rw [Int.neg_mul_neg] at *
          omega
      have s1 := sq (c - a) (by omega) (by omega)
      have s2 := sq (d - b) (by omega) (by omega)
      have e3 : wrap64 ((c - a) * (c - a)) = (c - a) * (c - a) := w64 (by omega) (by omega)
      have e4 : wrap64 ((d - b) * (d - b)) = (d - b) * (d - b) := w64 (by omega) (by omega)
      have e5 : wrap64 ((c - a) * (c - a) + (d - b) * (d - b)) = (c - a) * (c - a) + (d - b) * (d - b) := w64 (by omega) (by omega)
      refine ⟨r, Ev.congr (fun k => ?_) hs, Ev.congr (fun k => ?_) hr, hp.1, hp.2.1, fun _ _ => hp, fun h => absurd ⟨⟨⟨p1, p2⟩, p3, p4⟩, ⟨q1, q2⟩, q3, q4⟩ h⟩
      · unfold spec_LengthOf.f
        simp only [spec_PointOk_v, Option.bind_some, e1, e2, e3, e4, e5]
        rw [if_pos (decide_eq_true ⟨⟨p1, p2⟩, p3, p4⟩), if_pos (decide_eq_true ⟨⟨q1, q2⟩, q3, q4⟩), Option.bind_fun_some]
      · unfold impl_LengthOf.f
        simp only [impl_PointOk_v, Option.bind_some, e1, e2, e3, e4, e5]
        rw [if_pos (decide_eq_true ⟨⟨p1, p2⟩, p3, p4⟩), if_pos (decide_eq_true ⟨⟨q1, q2⟩, q3, q4⟩), Option.bind_fun_some]
    · refine ⟨0, Ev.congr (fun k => ?_) (Ev.now 0), Ev.congr (fun k => ?_) (Ev.now 0), by omega, by omega, fun _ h => absurd h h2, fun _ => rfl⟩
      · unfold spec_LengthOf.f
        simp only [spec_PointOk_v, Option.bind_some]
        rw [if_pos (decide_eq_true h1), if_neg (by simpa using h2)]
      · unfold impl_LengthOf.f
        simp only [impl_PointOk_v, Option.bind_some]
        rw [if_pos (decide_eq_true h1), if_neg (by simpa using h2)]
  · refine ⟨0, Ev.congr (fun k => ?_) (Ev.now 0), Ev.congr (fun k => ?_) (Ev.now 0), by omega, by omega, fun h _ => absurd h h1, fun _ => rfl⟩
    · unfold spec_LengthOf.f
      simp only [spec_PointOk_v, Option.bind_some]
      rw [if_neg (by simpa using h1)]
    · unfold impl_LengthOf.f
      simp only [impl_PointOk_v, Option.bind_some]
      rw [if_neg (by simpa using h1)]

/-! SideOf -/
theorem SideOf_v (a b c d w : Int) : ∃ x y : Int, Ev (fun k => spec_SideOf.f k a b c d w) (x, y) ∧ Ev (fun k => impl_SideOf.f k a b c d w) (x, y) := by
  obtain ⟨l, h1, h2, _⟩ := LengthOf_v a b c d
  obtain ⟨x, hx⟩ := spec_RoundDiv_tot (wrap64 ((wrap64 (b - d)) * w)) (wrap64 (2 * l))
  obtain ⟨y, hy⟩ := spec_RoundDiv_tot (wrap64 ((wrap64 (c - a)) * w)) (wrap64 (2 * l))
  have j1 : ∀ k, spec_SideOf.j0 (k + 1) w l true a b c d = some (0, 0) := fun k => by simp only [spec_SideOf.j0, if_true]
  have j2 : ∀ k, impl_SideOf.j0 (k + 1) w l true a b c d = some (0, 0) := fun k => by simp only [impl_SideOf.j0, if_true]
  have j3 : ∀ k, spec_SideOf.j0 (k + 1) w l false a b c d = some (x, y) := fun k => by simp only [spec_SideOf.j0, hx, hy, Option.bind_some, Bool.false_eq_true, if_false]
  have j4 : ∀ k, impl_SideOf.j0 (k + 1) w l false a b c d = some (x, y) := fun k => by simp only [impl_SideOf.j0, impl_RoundDiv_s, hx, hy, Option.bind_some, Bool.false_eq_true, if_false]
  by_cases hl : l = 0
  · refine ⟨0, 0, ?_, ?_⟩
    · unfold spec_SideOf.f
      refine Ev.bind h1 ?_
      simp only [if_pos hl]
      exact ev_done j1
    · unfold impl_SideOf.f
      refine Ev.bind h2 ?_
      simp only [if_pos hl]
      exact ev_done j2
  · by_cases hw : 1 ≤ w ∧ w ≤ 2048
    · refine ⟨x, y, ?_, ?_⟩
      · unfold spec_SideOf.f
        refine Ev.bind h1 ?_
        simp only [if_neg hl, spec_l01In_v, Option.bind_some, decide_eq_true hw]
        exact ev_done j3
      · unfold impl_SideOf.f impl_isWidth.f
        refine Ev.bind h2 ?_
        simp only [if_neg hl, impl_inRange_v, Option.bind_some, decide_eq_true hw]
        exact ev_done j4
    · refine ⟨0, 0, ?_, ?_⟩
      · unfold spec_SideOf.f
        refine Ev.bind h1 ?_
        simp only [if_neg hl, spec_l01In_v, Option.bind_some, decide_eq_false hw]
        exact ev_done j1
      · unfold impl_SideOf.f impl_isWidth.f
        refine Ev.bind h2 ?_
        simp only [if_neg hl, impl_inRange_v, Option.bind_some, decide_eq_false hw]
        exact ev_done j2

/-! QuadOf -/
theorem QuadOf_v (a b c d w : Int) : ∃ l, l.length ≤ 4 ∧ Ev (fun k => spec_QuadOf.f k a b c d w) l ∧ Ev (fun k => impl_QuadOf.f k a b c d w) l := by
  obtain ⟨l, h1, h2, _⟩ := LengthOf_v a b c d
  obtain ⟨x, y, h3, h4⟩ := SideOf_v a b c d w
  unfold spec_QuadOf.f impl_QuadOf.f impl_isWidth.f
  simp only [spec_l01In_v, impl_inRange_v, Option.bind_some]
  by_cases hl : l = 0
  · refine ⟨[], by simp, Ev.bind h1 ?_, Ev.bind h2 ?_⟩
    · simp only [if_pos hl]
      exact Ev.now _
    · simp only [if_pos hl]
      exact Ev.now _
  · by_cases hw : 1 ≤ w ∧ w ≤ 2048
    · refine ⟨[⟨wrap64 (a + x), wrap64 (b + y)⟩, ⟨wrap64 (c + x), wrap64 (d + y)⟩, ⟨wrap64 (c - x), wrap64 (d - y)⟩, ⟨wrap64 (a - x), wrap64 (b - y)⟩], ?_, Ev.bind h1 ?_, Ev.bind h2 ?_⟩
      rotate_left
      · simp only [if_neg hl, decide_eq_true hw, if_true]
        exact Ev.bind h3 (Ev.now _)
      · simp only [if_neg hl, decide_eq_true hw, if_true]
        exact Ev.bind h4 (Ev.now _)
      · simp
    · refine ⟨[], by simp, Ev.bind h1 ?_, Ev.bind h2 ?_⟩
      · simp only [if_neg hl, decide_eq_false hw, Bool.false_eq_true, if_false]
        exact Ev.now _
      · simp only [if_neg hl, decide_eq_false hw, Bool.false_eq_true, if_false]
        exact Ev.now _

/-! law_FnStrokes -/
theorem mul_abs {x y A B : Int} (hx : -A ≤ x ∧ x ≤ A) (hy : -B ≤ y ∧ y ≤ B) : -(A * B) ≤ x * y ∧ x * y ≤ A * B := by
  have h1 : 0 ≤ (A - x) * (B + y) := Int.mul_nonneg (by omega) (by omega)
  have h2 : 0 ≤ (A + x) * (B - y) := Int.mul_nonneg (by omega) (by omega)
  have h3 : 0 ≤ (A - x) * (B - y) := Int.mul_nonneg (by omega) (by omega)
  have h4 : 0 ≤ (A + x) * (B + y) := Int.mul_nonneg (by omega) (by omega)
  simp only [Int.sub_mul, Int.add_mul, Int.mul_sub, Int.mul_add] at h1 h2 h3 h4
  omega
theorem RoundDiv_r {a m : Int} (hm : 1 ≤ m) (hm2 : m ≤ 1000000000000) (h1 : -1000000000000 ≤ a) (h2 : a ≤ 1000000000000) : ∃ q, spec_RoundDiv.f a (2 * m) = some q ∧ -m ≤ 2 * m * q - a ∧ 2 * m * q - a ≤ m ∧ -2000000000000 ≤ q ∧ q ≤ 2000000000000 := by
  have hf := spec_FloorDiv_v (a := a) (b := 2 * m) (by omega) (by omega) (by omega) (by omega)
  have hd := Int.mul_ediv_add_emod a (2 * m)
  have h0 := Int.emod_nonneg a (show 2 * m ≠ 0 by omega)
  have hl := Int.emod_lt_of_pos a (show 0 < 2 * m by omega)
  generalize a / (2 * m) = q0 at hf hd
  generalize a % (2 * m) = r at hd h0 hl
  have e : q0 * (2 * m) = a - r := by
    rw [Int.mul_comm]
    omega
  have e2 : 2 * m * q0 = a - r := by omega
  have b1 : -1000000000002 - 2 * m ≤ q0 ∧ q0 ≤ 1000000000000 := by
    rcases Int.le_total 0 q0 with h | h
    · have := Int.mul_le_mul_of_nonneg_left (show 1 ≤ 2 * m by omega) h
      omega
    · have := Int.mul_le_mul_of_nonneg_left (show 1 ≤ 2 * m by omega) (show 0 ≤ -q0 by omega)
      simp only [Int.neg_mul] at this
      omega
  have b2 : -1000000000002 ≤ q0 := by
    rcases Int.lt_or_le (-1) q0 with h | h
    · omega
    · have := Int.mul_le_mul_of_nonneg_left (show 2 * 1 ≤ 2 * m by omega) (show 0 ≤ -q0 - 1 by omega)
      simp only [Int.sub_mul, Int.neg_mul] at this
      omega
  unfold spec_RoundDiv.f
  rw [if_neg (by omega), hf, Option.bind_some, e, w64 (x := a - r) (by omega) (by omega), show a - (a - r) = r by omega, w64 (x := r) (by omega) (by omega), w64 (x := 2 * m - r) (by omega) (by omega), w64 (x := q0 + 1) (by omega) (by omega)]
  by_cases hr : r ≥ 2 * m - r
  · rw [if_pos hr]
    refine ⟨q0 + 1, rfl, ?_, ?_, by omega, by omega⟩
    · rw [Int.mul_add, Int.mul_one]
      omega
    · rw [Int.mul_add, Int.mul_one]
      omega
  · rw [if_neg hr]
    exact ⟨q0, rfl, by omega, by omega, by omega, by omega⟩
def absI (x : Int) : Int := if x < 0 then -x else x
theorem abs_v {x : Int} (h1 : -9000000000000000000 ≤ x) (h2 : x ≤ 9000000000000000000) : laws_abs.f x = some (absI x) := by
  unfold laws_abs.f absI
  rw [w64 (x := -x) (by omega) (by omega)]
  split <;> rfl
theorem abs_bd (x : Int) : -(absI x) ≤ x ∧ x ≤ absI x ∧ 0 ≤ absI x := by
  unfold absI
  split <;> omega
theorem same_l (xs : List S45) (hn : xs.length ≤ 1048576) : ∀ (d i : Nat), i + d = xs.length → Ev (fun k => laws_samePoints.l0 k xs xs (i : Int)) true := by
  intro d
  induction d with
  | zero =>
    intro i hi
    refine ev_done (fun k => ?_)
    simp only [laws_samePoints.l0]
    rw [if_neg (by omega)]
  | succ d ih =>
    intro i hi
    have hi2 : i < xs.length := by omega
    refine Ev.step (fun k => ?_) (ih (i + 1) (by omega))
    simp only [laws_samePoints.l0, beq_self_eq_true, Bool.not_true, Bool.or_self, Bool.false_eq_true, if_false]
    rw [if_pos (by omega), if_pos (by omega), if_pos (by omega), step64 hi2 (by omega)]
theorem same_v (xs : List S45) (hn : xs.length ≤ 1048576) : Ev (fun k => laws_samePoints.f k xs xs) true := by
  unfold laws_samePoints.f
  simp only [if_true]
  exact same_l xs hn xs.length 0 (by omega)
/-- The side of a line, by its rounding. -/
theorem side_r {a b c d w n : Int} (ha : -300 ≤ a ∧ a ≤ 3299) (hb : -300 ≤ b ∧ b ≤ 3299) (hc : -300 ≤ c ∧ c ≤ 3299) (hd : -300 ≤ d ∧ d ≤ 3299) (hw : 1 ≤ w ∧ w ≤ 2048) (hn : 1 ≤ n ∧ n ≤ 1000000) (h1 : Ev (fun k => spec_LengthOf.f k a b c d) n) (h2 : Ev (fun k => impl_LengthOf.f k a b c d) n) :
    ∃ x y : Int, Ev (fun k => spec_SideOf.f k a b c d w) (x, y) ∧ Ev (fun k => impl_SideOf.f k a b c d w) (x, y) ∧ (-n ≤ 2 * n * x - (b - d) * w ∧ 2 * n * x - (b - d) * w ≤ n) ∧ (-n ≤ 2 * n * y - (c - a) * w ∧ 2 * n * y - (c - a) * w ≤ n) ∧ (-2000000000000 ≤ x ∧ x ≤ 2000000000000) ∧ (-2000000000000 ≤ y ∧ y ≤ 2000000000000) := by
  have m1 := mul_abs (x := b - d) (y := w) (A := 3599) (B := 2048) (by omega) (by omega)
  have m2 := mul_abs (x := c - a) (y := w) (A := 3599) (B := 2048) (by omega) (by omega)
  obtain ⟨x, hx, x1, x2, x3, x4⟩ := RoundDiv_r (a := (b - d) * w) (m := n) (by omega) (by omega) (by omega) (by omega)
  obtain ⟨y, hy, y1, y2, y3, y4⟩ := RoundDiv_r (a := (c - a) * w) (m := n) (by omega) (by omega) (by omega) (by omega)
  have e1 : wrap64 (b - d) = b - d := w64 (by omega) (by omega)
  have e2 : wrap64 (c - a) = c - a := w64 (by omega) (by omega)
  have e3 : wrap64 ((b - d) * w) = (b - d) * w := w64 (by omega) (by omega)
  have e4 : wrap64 ((c - a) * w) = (c - a) * w := w64 (by omega) (by omega)
  have e5 : wrap64 (2 * n) = 2 * n := w64 (by omega) (by omega)
  refine ⟨x, y, ?_, ?_, ⟨x1, x2⟩, ⟨y1, y2⟩, ⟨x3, x4⟩, y3, y4⟩
  · unfold spec_SideOf.f
    refine Ev.bind h1 ?_
    simp only [if_neg (show ¬ n = 0 by omega), spec_l01In_v, Option.bind_some, decide_eq_true hw]
    refine ev_done (fun k => ?_)
    simp only [spec_SideOf.j0, Bool.not_true, Bool.false_eq_true, if_false, e1, e2, e3, e4, e5, hx, hy, Option.bind_some]
  · unfold impl_SideOf.f impl_isWidth.f
    refine Ev.bind h2 ?_
    simp only [if_neg (show ¬ n = 0 by omega), impl_inRange_v, Option.bind_some, decide_eq_true hw]
    refine ev_done (fun k => ?_)
    simp only [impl_SideOf.j0, impl_RoundDiv_s, Bool.not_true, Bool.false_eq_true, if_false, e1, e2, e3, e4, e5, hx, hy, Option.bind_some]
def quadP (a b c d x y : Int) : List S45 := [⟨wrap64 (a + x), wrap64 (b + y)⟩, ⟨wrap64 (c + x), wrap64 (d + y)⟩, ⟨wrap64 (c - x), wrap64 (d - y)⟩, ⟨wrap64 (a - x), wrap64 (b - y)⟩]
theorem quad_r {a b c d w n x y : Int} (hw : 1 ≤ w ∧ w ≤ 2048) (hn : 1 ≤ n) (h1 : Ev (fun k => spec_LengthOf.f k a b c d) n) (h2 : Ev (fun k => impl_LengthOf.f k a b c d) n) (h3 : Ev (fun k => spec_SideOf.f k a b c d w) (x, y)) (h4 : Ev (fun k => impl_SideOf.f k a b c d w) (x, y)) :
    Ev (fun k => spec_QuadOf.f k a b c d w) (quadP a b c d x y) ∧ Ev (fun k => impl_QuadOf.f k a b c d w) (quadP a b c d x y) := by
  unfold spec_QuadOf.f impl_QuadOf.f impl_isWidth.f
  simp only [spec_l01In_v, impl_inRange_v, Option.bind_some]
  refine ⟨Ev.bind h1 ?_, Ev.bind h2 ?_⟩
  · simp only [if_neg (show ¬ n = 0 by omega), decide_eq_true hw, if_true]
    exact Ev.bind h3 (Ev.now _)
  · simp only [if_neg (show ¬ n = 0 by omega), decide_eq_true hw, if_true]
    exact Ev.bind h4 (Ev.now _)
/-- The side stands across the line, but for half a unit. -/
theorem across {X Y n w x y : Int} (hn : 1 ≤ n) (hw : 1 ≤ w) (h1 : -n ≤ 2 * n * x - -Y * w ∧ 2 * n * x - -Y * w ≤ n) (h2 : -n ≤ 2 * n * y - X * w ∧ 2 * n * y - X * w ≤ n) :
    -(absI X + absI Y) ≤ 2 * (x * X + y * Y) ∧ 2 * (x * X + y * Y) ≤ absI X + absI Y ∧ -(absI X + absI Y) ≤ 2 * (X * y - Y * x) := by
  obtain ⟨a1, a2, a3⟩ := abs_bd X
  obtain ⟨b1, b2, b3⟩ := abs_bd Y
  generalize hu : 2 * n * x - -Y * w = u at h1
  generalize hv : 2 * n * y - X * w = v at h2
  have p1 := mul_abs h1 ⟨a1, a2⟩
  have p2 := mul_abs h2 ⟨b1, b2⟩
  have p3 := mul_abs h2 ⟨a1, a2⟩
  have p4 := mul_abs h1 ⟨b1, b2⟩
  have ex : 2 * n * x = u - Y * w := by rw [Int.neg_mul] at hu; omega
  have ey : 2 * n * y = v + X * w := by omega
  have c1 : 2 * n * (x * X) = u * X - Y * w * X := by rw [← Int.mul_assoc, ex, Int.sub_mul]
  have c2 : 2 * n * (y * Y) = v * Y + X * w * Y := by rw [← Int.mul_assoc, ey, Int.add_mul]
  have c3 : Y * w * X = X * w * Y := by rw [Int.mul_comm (Y * w) X, Int.mul_comm Y w, ← Int.mul_assoc]
  have c4 : 2 * n * (X * y) = v * X + X * w * X := by rw [Int.mul_comm X y, ← Int.mul_assoc, ey, Int.add_mul]
  have c5 : 2 * n * (Y * x) = u * Y - Y * w * Y := by rw [Int.mul_comm Y x, ← Int.mul_assoc, ex, Int.sub_mul]
  have sq : ∀ z : Int, 0 ≤ z * w * z := by
    intro z
    rcases Int.le_total 0 z with h | h
    · exact Int.mul_nonneg (Int.mul_nonneg h (by omega)) h
    · have := Int.mul_nonneg (Int.mul_nonneg (show 0 ≤ -z by omega) (show 0 ≤ w by omega)) (show 0 ≤ -z by omega)
      rw [Int.neg_mul, Int.neg_mul_neg] at this
      exact this
  have s1 := sq X
  have s2 := sq Y
  have d1 : n * (2 * (x * X + y * Y)) = 2 * n * (x * X) + 2 * n * (y * Y) := by
    rw [← Int.mul_add, ← Int.mul_assoc, Int.mul_comm n 2]
  have d2 : n * (2 * (X * y - Y * x)) = 2 * n * (X * y) - 2 * n * (Y * x) := by
    rw [← Int.mul_sub, ← Int.mul_assoc, Int.mul_comm n 2]
  have g1 : n * (absI X + absI Y) = n * absI X + n * absI Y := Int.mul_add _ _ _
  have g2 : n * -(absI X + absI Y) = -(n * absI X + n * absI Y) := by rw [Int.mul_neg, g1]
  refine ⟨Int.le_of_mul_le_mul_left (a := n) ?_ (by omega), Int.le_of_mul_le_mul_left (a := n) ?_ (by omega), Int.le_of_mul_le_mul_left (a := n) ?_ (by omega)⟩
  · omega
  · omega
  · omega
theorem sq_pos {z : Int} (h : ¬ z = 0) : 1 ≤ z * z := by
  rcases Int.le_total 0 z with h1 | h1
  · have := Int.mul_le_mul_of_nonneg_left (show 1 ≤ z by omega) h1
    omega
  · have := Int.mul_le_mul_of_nonneg_left (show 1 ≤ -z by omega) (show 0 ≤ -z by omega)
    rw [Int.neg_mul_neg] at this
    omega
theorem strokes_v {a b c d w : Int} (ha : -300 ≤ a ∧ a ≤ 3299) (hb : -300 ≤ b ∧ b ≤ 3299) (hc : -300 ≤ c ∧ c ≤ 3299) (hd : -300 ≤ d ∧ d ≤ 3299) (hw : 1 ≤ w ∧ w ≤ 2048) :
    ∃ (n x y : Int) (Q : List S45), Ev (fun k => impl_SideOf.f k a b c d w) (x, y) ∧ Ev (fun k => impl_QuadOf.f k a b c d w) Q ∧ Ev (fun k => impl_LengthOf.f k a b c d) n ∧ Ev (fun k => impl_LengthOf.f k c d a b) n ∧
      n * n ≤ (c - a) * (c - a) + (d - b) * (d - b) ∧ (c - a) * (c - a) + (d - b) * (d - b) < (n + 1) * (n + 1) ∧ 0 ≤ n ∧ n ≤ 10000 ∧ Ev (fun k => laws_FnStrokes.j0 k w Q n (c - a) (d - b) false a b c d x y) true := by
  obtain ⟨n, h1, h2, n0, n1, hr, _⟩ := LengthOf_v a b c d
  obtain ⟨m, g1, g2, m0, m1, gr, _⟩ := LengthOf_v c d a b
  have hp : pointOkP a b := by
    unfold pointOkP
    omega
  have hq : pointOkP c d := by
    unfold pointOkP
    omega
  have r1 := hr hp hq
  have r2 := gr hq hp
  have eD : (a - c) * (a - c) + (b - d) * (b - d) = (c - a) * (c - a) + (d - b) * (d - b) := by
    have t1 : (a - c) * (a - c) = (c - a) * (c - a) := by rw [← Int.neg_mul_neg, show -(a - c) = c - a by omega]
    have t2 : (b - d) * (b - d) = (d - b) * (d - b) := by rw [← Int.neg_mul_neg, show -(b - d) = d - b by omega]
    rw [t1, t2]
  rw [eD] at r2
  obtain rfl := RootP_unique r1 r2
  have sx := mul_abs (x := c - a) (y := c - a) (A := 3599) (B := 3599) (by omega) (by omega)
  have sy := mul_abs (x := d - b) (y := d - b) (A := 3599) (B := 3599) (by omega) (by omega)
  have px : 0 ≤ (c - a) * (c - a) := by
    by_cases h : c - a = 0
    · rw [h]
      decide
    · have := sq_pos h
      omega
  have py : 0 ≤ (d - b) * (d - b) := by
    by_cases h : d - b = 0
    · rw [h]
      decide
    · have := sq_pos h
      omega
  obtain ⟨_, _, k3, k4⟩ := r1
  have nn : n * n ≤ (c - a) * (c - a) + (d - b) * (d - b) := by
    rcases k3 with k3 | rfl
    · exact k3
    · omega
  have nb : n ≤ 10000 := by
    rcases Int.lt_or_le 10000 n with h | h
    · have := sq_mono (a := 10000) (b := n) (by omega) (by omega)
      omega
    · exact h
  have n2 : (c - a) * (c - a) + (d - b) * (d - b) < (n + 1) * (n + 1) := by
    rcases k4 with k4 | k4
    · omega
    · exact k4
  by_cases hz : n = 0
  · subst hz
    have dx : c - a = 0 := by
      refine Classical.byContradiction fun h => ?_
      have := sq_pos h
      omega
    have dy : d - b = 0 := by
      refine Classical.byContradiction fun h => ?_
      have := sq_pos h
      omega
    have hS : Ev (fun k => impl_SideOf.f k a b c d w) (0, 0) := by
      unfold impl_SideOf.f
      refine Ev.bind h2 ?_
      simp only [if_true]
      exact ev_done (fun k => by simp only [impl_SideOf.j0, if_true])
    have hQ : Ev (fun k => impl_QuadOf.f k a b c d w) [] := by
      unfold impl_QuadOf.f
      refine Ev.bind h2 ?_
      simp only [if_true]
      exact Ev.now _
    refine ⟨0, 0, 0, [], hS, hQ, h2, g2, nn, n2, by omega, by omega, ev_done (fun k => ?_)⟩
    simp only [laws_FnStrokes.j0, Bool.false_eq_true, if_false, if_true]
    obtain rfl : a = c := by omega
    obtain rfl : b = d := by omega
    simp
  · obtain ⟨x, y, hSs, hS, u1, u2, bx, by_⟩ := side_r ha hb hc hd hw (show 1 ≤ n ∧ n ≤ 1000000 by omega) h1 h2
    obtain ⟨hQs, hQ⟩ := quad_r hw (by omega) h1 h2 hSs hS
    refine ⟨n, x, y, quadP a b c d x y, hS, hQ, h2, g2, nn, n2, by omega, nb, ?_⟩
    have ac := across (X := c - a) (Y := d - b) (n := n) (w := w) (x := x) (y := y) (by omega) (by omega) (by rw [show -(d - b) = b - d by omega]; exact u1) u2
    obtain ⟨ac1, ac2, ac3⟩ := ac
    have q1 := mul_abs (x := x) (y := c - a) (A := 2000000000000) (B := 3599) (by omega) (by omega)
    have q2 := mul_abs (x := y) (y := d - b) (A := 2000000000000) (B := 3599) (by omega) (by omega)
    have q3 := mul_abs (x := c - a) (y := y) (A := 3599) (B := 2000000000000) (by omega) (by omega)
    have q4 := mul_abs (x := d - b) (y := x) (A := 3599) (B := 2000000000000) (by omega) (by omega)
    obtain ⟨A1, A2, A3⟩ := abs_bd (c - a)
    obtain ⟨B1, B2, B3⟩ := abs_bd (d - b)
    have A4 : absI (c - a) ≤ 3599 := by
      unfold absI
      split <;> omega
    have B4 : absI (d - b) ≤ 3599 := by
      unfold absI
      split <;> omega
    have D2 : 2 * absI (x * (c - a) + y * (d - b)) ≤ absI (c - a) + absI (d - b) := by
      generalize x * (c - a) + y * (d - b) = z at ac1 ac2
      rw [show absI z = if z < 0 then -z else z from rfl]
      split <;> omega
    have D3 : 0 ≤ absI (x * (c - a) + y * (d - b)) := (abs_bd _).2.2
    have W1 : wrap64 (x * (c - a)) = x * (c - a) := w64 (by omega) (by omega)
    have W2 : wrap64 (y * (d - b)) = y * (d - b) := w64 (by omega) (by omega)
    have W3 : wrap64 (x * (c - a) + y * (d - b)) = x * (c - a) + y * (d - b) := w64 (by omega) (by omega)
    have V1 : laws_abs.f (x * (c - a) + y * (d - b)) = some (absI (x * (c - a) + y * (d - b))) := abs_v (by omega) (by omega)
    have V2 : laws_abs.f (c - a) = some (absI (c - a)) := abs_v (by omega) (by omega)
    have V3 : laws_abs.f (d - b) = some (absI (d - b)) := abs_v (by omega) (by omega)
    have W4 : wrap64 (2 * absI (x * (c - a) + y * (d - b))) = 2 * absI (x * (c - a) + y * (d - b)) := w64 (by omega) (by omega)
    have W5 : wrap64 (absI (c - a) + absI (d - b)) = absI (c - a) + absI (d - b) := w64 (by omega) (by omega)
    have W6 : wrap64 ((c - a) * y) = (c - a) * y := w64 (by omega) (by omega)
    have W7 : wrap64 ((d - b) * x) = (d - b) * x := w64 (by omega) (by omega)
    have W8 : wrap64 ((c - a) * y - (d - b) * x) = (c - a) * y - (d - b) * x := w64 (by omega) (by omega)
    have W9 : wrap64 (-absI (c - a)) = -absI (c - a) := w64 (by omega) (by omega)
    have W10 : wrap64 (-absI (c - a) - absI (d - b)) = -absI (c - a) - absI (d - b) := w64 (by omega) (by omega)
    have D4 : (c - a) * y - (d - b) * x ≥ -absI (c - a) - absI (d - b) := by omega
    have zl : ((quadP a b c d x y).length : Int) = 4 := rfl
    refine Ev.step (f := _) (fun k => by simp only [laws_FnStrokes.j0, Bool.false_eq_true, if_false, if_neg hz, W1, W2, W3, V1, V2, V3, Option.bind_some, W4, W5, if_pos D2, W6, W7, W8, W9, W10, if_pos D4, zl, if_true]; rfl) ?_
    have z0 : rd_T45 (quadP a b c d x y) 0 = ⟨wrap64 (a + x), wrap64 (b + y)⟩ := rfl
    have z1 : rd_T45 (quadP a b c d x y) 1 = ⟨wrap64 (c + x), wrap64 (d + y)⟩ := rfl
    have z2 : rd_T45 (quadP a b c d x y) 2 = ⟨wrap64 (c - x), wrap64 (d - y)⟩ := rfl
    have z3 : rd_T45 (quadP a b c d x y) 3 = ⟨wrap64 (a - x), wrap64 (b - y)⟩ := rfl
    simp only [z0, z1, z2, z3, if_true, if_pos (show (0 : Int) < 4 by omega), if_pos (show (1 : Int) < 4 by omega), if_pos (show (2 : Int) < 4 by omega), if_pos (show (3 : Int) < 4 by omega),
      w64 (x := a + x) (by omega) (by omega), w64 (x := a - x) (by omega) (by omega), w64 (x := d + y) (by omega) (by omega), w64 (x := d - y) (by omega) (by omega), show a + x - (a - x) = 2 * x by omega, show d + y - (d - y) = 2 * y by omega, show a + x + (a - x) = 2 * a by omega, show d + y + (d - y) = 2 * d by omega]
    refine Ev.bind hQs (Ev.bind (same_v _ (by simp [quadP])) ?_)
    exact Ev.now true
theorem FnStrokes : laws_FnStrokes.Pure := by
  intro l hl _ _
  by_cases hn : (l.length : Int) > 1048576
  · exact ⟨0, by simp only [laws_FnStrokes.f, laws_big.f, Option.bind_some, decide_eq_true hn, if_true]⟩
  · obtain ⟨P, hP, hP2, hP3⟩ := DrawPoints_v l (by omega)
    obtain ⟨r, hr, hr2, hr3⟩ := DrawPlaces_v l (by omega)
    obtain ⟨u, v, rest, rfl⟩ : ∃ u v rest, P = u :: v :: rest := by
      match P, hP2 with
      | u :: v :: rest, _ => exact ⟨u, v, rest, rfl⟩
    have e0 : rd_T45 (u :: v :: rest) 0 = u := rfl
    have e1 : rd_T45 (u :: v :: rest) 1 = v := rfl
    have hp := hP3 u (by simp)
    have hq := hP3 v (by simp)
    have t0 : 0 ≤ Int.tmod (rd r 0) 2000 ∧ Int.tmod (rd r 0) 2000 ≤ 1999 := by
      obtain ⟨v, rest, rfl⟩ : ∃ v rest, r = v :: rest := by
        match r, hr2 with
        | v :: rest, _ => exact ⟨v, rest, rfl⟩
      have hv := hr3 v (by simp)
      have g : rd (v :: rest) 0 = v := by simp [rd]
      rw [g]
      have h1 := Int.tmod_nonneg 2000 hv
      have h2 := Int.tmod_lt_of_pos v (show (0 : Int) < 2000 by omega)
      omega
    have ew : wrap64 (1 + Int.tmod (rd r 0) 2000) = 1 + Int.tmod (rd r 0) 2000 := w64 (by omega) (by omega)
    obtain ⟨n, x, y, Q, hS, hQ, hL, hL2, nn, n2, n0, nb, hj⟩ := strokes_v (w := 1 + Int.tmod (rd r 0) 2000) hp.1 hp.2 hq.1 hq.2 (by omega)
    obtain ⟨⟨p1, p2⟩, p3, p4⟩ := hp
    obtain ⟨⟨q1, q2⟩, q3, q4⟩ := hq
    have sx := mul_abs (x := v.f0 - u.f0) (y := v.f0 - u.f0) (A := 3599) (B := 3599) (by omega) (by omega)
    have sy := mul_abs (x := v.f1 - u.f1) (y := v.f1 - u.f1) (A := 3599) (B := 3599) (by omega) (by omega)
    have sn := mul_abs (x := n) (y := n) (A := 10000) (B := 10000) (by omega) (by omega)
    have sn1 := mul_abs (x := n + 1) (y := n + 1) (A := 10001) (B := 10001) (by omega) (by omega)
    refine Ev.rounds ?_
    simp only [laws_FnStrokes.f, laws_big.f, Option.bind_some, decide_eq_false hn, Bool.false_eq_true, if_false]
    refine Ev.bind hP ?_
    simp only [if_pos (show (0 : Int) < ((u :: v :: rest).length : Int) by simp; omega), if_pos (show (1 : Int) < ((u :: v :: rest).length : Int) by simp; omega), e0, e1]
    refine Ev.bind hr ?_
    simp only [if_pos (show (0 : Int) < (r.length : Int) by omega), ew]
    refine Ev.bind hS (Ev.bind hQ (Ev.bind hL ?_))
    simp only [w64 (x := v.f0 - u.f0) (by omega) (by omega), w64 (x := v.f1 - u.f1) (by omega) (by omega), w64 (x := n * n) (by omega) (by omega), w64 (x := n + 1) (by omega) (by omega), w64 (x := (n + 1) * (n + 1)) (by omega) (by omega), w64 (x := (v.f0 - u.f0) * (v.f0 - u.f0)) (by omega) (by omega), w64 (x := (v.f1 - u.f1) * (v.f1 - u.f1)) (by omega) (by omega), w64 (x := (v.f0 - u.f0) * (v.f0 - u.f0) + (v.f1 - u.f1) * (v.f1 - u.f1)) (by omega) (by omega)]
    simp only [if_neg (show ¬ (n * n > (v.f0 - u.f0) * (v.f0 - u.f0) + (v.f1 - u.f1) * (v.f1 - u.f1)) by omega), if_neg (show ¬ ((n + 1) * (n + 1) ≤ (v.f0 - u.f0) * (v.f0 - u.f0) + (v.f1 - u.f1) * (v.f1 - u.f1)) by omega)]
    refine Ev.bind hL2 ?_
    simp only [bne_self_eq_false]
    exact hj

end Go.Proofs.Ytkbgcdoeedmaiaa.Pure
