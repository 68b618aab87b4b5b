/- The pure statement of the law FnExactDashOf, for every input: what the printed functions compute makes the law answer true. No conditions beyond what the row reads. -/
import Derived.Test.YtjfienkbcacijaaTFnExactDashOf
namespace Go.Proofs.Ytjfienkbcacijaa.QFnExactDashOf
open Go.RowKit Go.Proofs.Ytjfienkbcacijaa.MFnExactDashOf Go.Proofs.Ytjfienkbcacijaa.TFnExactDashOf Go.Proofs.YtjfienkbcacijaaW.PrintWords Go.Proofs.YtjfienkbcacijaaW.PrintLast
set_option linter.unusedVariables false
set_option linter.unusedSimpArgs false

/-! base -/
theorem w64 {x : Int} (h1 : -9223372036854775808 ≤ x) (h2 : x ≤ 9223372036854775807) : wrap64 x = x := by
  unfold wrap64
  omega

theorem wf64 {x : Int} (h : (Lit.int .i64 x).wf = true) : -9223372036854775808 ≤ x ∧ x ≤ 9223372036854775807 := by
  have h2 : (decide (IntKind.i64.min ≤ x) && decide (x ≤ IntKind.i64.max)) = true := h
  rw [Bool.and_eq_true, decide_eq_true_eq, decide_eq_true_eq] at h2
  exact ⟨h2.1, h2.2⟩

theorem take_set_succ {α : Type} (xs : List α) (i : Nat) (v : α) (h : i < xs.length) : (xs.set i v).take (i + 1) = xs.take i ++ [v] := by
  rw [List.take_succ_eq_append_getElem (by simpa using h), List.take_set_of_le (Nat.le_refl i), List.getElem_set_self]

theorem step64 {i n : Nat} (h : i < n) (hn : n ≤ 4611686018427387904) : wrap64 ((i : Int) + 1) = ((i + 1 : Nat) : Int) := by
  rw [w64 (by omega) (by omega)]
  omega

theorem ev_done {α : Type} {g : Nat → Option α} {r : α} (h : ∀ k, g (k + 1) = some r) : Ev g r := Ev.step (f := fun _ => some r) h (Ev.now r)

theorem ev_const {α : Type} {o : Option α} {r : α} (h : o = some r) : Ev (fun _ => o) r := by
  subst h
  exact Ev.now r

/-! RootP -/
theorem sq_mono {a b : Int} (h0 : 0 ≤ a) (h : a ≤ b) : a * a ≤ b * b := Int.mul_le_mul h h h0 (by omega)
def RootP (n r : Int) : Prop := 0 ≤ r ∧ r ≤ 3037000499 ∧ (r * r ≤ n ∨ r = 0) ∧ (r = 3037000499 ∨ n < (r + 1) * (r + 1))
theorem RootP_lt {n r s : Int} (hr : RootP n r) (hs : RootP n s) : ¬ r < s := by
  intro h
  obtain ⟨h1, h2, h3, h4⟩ := hr
  obtain ⟨g1, g2, g3, g4⟩ := hs
  have q := sq_mono (a := r + 1) (b := s) (by omega) (by omega)
  rcases h4 with h4 | h4
  · omega
  · rcases g3 with g3 | g3
    · omega
    · omega
theorem RootP_unique {n r s : Int} (hr : RootP n r) (hs : RootP n s) : r = s := by
  have h1 := RootP_lt hr hs
  have h2 := RootP_lt hs hr
  omega
theorem half64 {x : Int} (h0 : 0 ≤ x) (h1 : x ≤ 9223372036854775807) : wrap64 (Int.tdiv x 2) = x / 2 := by
  rw [Int.tdiv_eq_ediv_of_nonneg h0, w64 (by omega) (by omega)]

/-! spec_RootOf -/
theorem spec_RootOf_l (n : Int) (hn : 0 ≤ n) (d : Nat) : ∀ (low high : Int), 0 ≤ low → low < high → high ≤ 3037000500 → high - low ≤ d + 1 → low * low ≤ n → (high = 3037000500 ∨ n < high * high) →
    ∃ r, Ev (fun k => spec_RootOf.l0 k n low high) r ∧ RootP n r := by
  induction d with
  | zero =>
    intro low high h0 h1 h2 h3 h4 h5
    obtain rfl : high = low + 1 := by omega
    refine ⟨low, ev_done (fun k => by simp only [spec_RootOf.l0]; rw [w64 (by omega) (by omega), if_neg (by omega)]), h0, by omega, .inl h4, ?_⟩
    rcases h5 with h5 | h5
    · exact .inl (by omega)
    · exact .inr h5
  | succ d ih =>
    intro low high h0 h1 h2 h3 h4 h5
    have e0 : wrap64 (low + 1) = low + 1 := w64 (by omega) (by omega)
    by_cases hlt : low + 1 < high
    · have e1 : wrap64 (low + high) = low + high := w64 (by omega) (by omega)
      have e3 : wrap64 (Int.tdiv (low + high) 2) = (low + high) / 2 := half64 (by omega) (by omega)
      have q := sq_mono (a := (low + high) / 2) (b := 3037000499) (by omega) (by omega)
      have q0 := sq_mono (a := 0) (b := (low + high) / 2) (by omega) (by omega)
      generalize hm : (low + high) / 2 = m at e3 q q0
      have e4 : wrap64 (m * m) = m * m := w64 (by omega) (by omega)
      by_cases hc : m * m ≤ n
      · obtain ⟨r, hr, hp⟩ := ih m high (by omega) (by omega) h2 (by omega) hc h5
        refine ⟨r, Ev.step (fun k => ?_) hr, hp⟩
        simp only [spec_RootOf.l0]
        rw [e0, if_pos hlt, e1, e3, e4, if_pos (by omega), if_pos hc]
      · obtain ⟨r, hr, hp⟩ := ih low m h0 (by omega) (by omega) (by omega) h4 (.inr (by omega))
        refine ⟨r, Ev.step (fun k => ?_) hr, hp⟩
        simp only [spec_RootOf.l0]
        rw [e0, if_pos hlt, e1, e3, e4, if_pos (by omega), if_neg hc]
    · obtain rfl : high = low + 1 := by omega
      refine ⟨low, ev_done (fun k => by simp only [spec_RootOf.l0]; rw [e0, if_neg hlt]), h0, by omega, .inl h4, ?_⟩
      rcases h5 with h5 | h5
      · exact .inl (by omega)
      · exact .inr h5
theorem spec_RootOf_v (n : Int) : ∃ r, Ev (fun k => spec_RootOf.f k n) r ∧ RootP n r := by
  by_cases hn : n < 0
  · refine ⟨0, Ev.congr (fun k => by unfold spec_RootOf.f; rw [if_pos hn]) (Ev.now 0), by omega, by omega, .inr rfl, .inr (by omega)⟩
  · obtain ⟨r, h, hp⟩ := spec_RootOf_l n (by omega) 3037000499 0 3037000500 (by omega) (by omega) (by omega) (by omega) (by omega) (.inl rfl)
    refine ⟨r, Ev.congr (fun k => ?_) h, hp⟩
    unfold spec_RootOf.f
    rw [if_neg hn]

/-! impl_RootOf -/
theorem impl_RootOf_l (n : Int) (d : Nat) : ∀ (low high : Int), 0 ≤ low → low ≤ high → high ≤ 3037000499 → high - low ≤ d → (low * low ≤ n ∨ low = 0) → (high = 3037000499 ∨ n < (high + 1) * (high + 1)) →
    ∃ r, Ev (fun k => impl_RootOf.l0 k n low high) r ∧ RootP n r := by
  induction d with
  | zero =>
    intro low high h0 h1 h2 h3 h4 h5
    obtain rfl : low = high := by omega
    exact ⟨low, ev_done (fun k => by simp only [impl_RootOf.l0]; rw [if_neg (by omega)]), h0, h2, h4, h5⟩
  | succ d ih =>
    intro low high h0 h1 h2 h3 h4 h5
    by_cases hlt : low < high
    · have e1 : wrap64 (low + high) = low + high := w64 (by omega) (by omega)
      have e2 : wrap64 (low + high + 1) = low + high + 1 := w64 (by omega) (by omega)
      have e3 : wrap64 (Int.tdiv (low + high + 1) 2) = (low + high + 1) / 2 := half64 (by omega) (by omega)
      have q := sq_mono (a := (low + high + 1) / 2) (b := 3037000499) (by omega) (by omega)
      have q0 := sq_mono (a := 0) (b := (low + high + 1) / 2) (by omega) (by omega)
      generalize hm : (low + high + 1) / 2 = m at e3 q q0
      have e4 : wrap64 (m * m) = m * m := w64 (by omega) (by omega)
      have e5 : wrap64 (m - 1) = m - 1 := w64 (by omega) (by omega)
      by_cases hc : m * m ≤ n
      · obtain ⟨r, hr, hp⟩ := ih m high (by omega) (by omega) h2 (by omega) (.inl hc) h5
        refine ⟨r, Ev.step (fun k => ?_) hr, hp⟩
        simp only [impl_RootOf.l0]
        rw [if_pos hlt, e1, e2, e3, e4, if_pos hc]
      · obtain ⟨r, hr, hp⟩ := ih low (m - 1) h0 (by omega) (by omega) (by omega) h4 (.inr (by rw [show m - 1 + 1 = m by omega]; omega))
        refine ⟨r, Ev.step (fun k => ?_) hr, hp⟩
        simp only [impl_RootOf.l0]
        rw [if_pos hlt, e1, e2, e3, e4, if_neg hc, e5]
    · obtain rfl : low = high := by omega
      exact ⟨low, ev_done (fun k => by simp only [impl_RootOf.l0]; rw [if_neg (by omega)]), h0, h2, h4, h5⟩
theorem impl_RootOf_v (n : Int) : ∃ r, Ev (fun k => impl_RootOf.f k n) r ∧ RootP n r := impl_RootOf_l n 3037000499 0 3037000499 (by omega) (by omega) (by omega) (by omega) (.inr rfl) (.inl rfl)

/-! spec_l01In -/
theorem spec_l01In_v (a b c : Int) : spec_l01In.f a b c = some (decide (b ≤ a ∧ a ≤ c)) := by
  unfold spec_l01In.f
  by_cases h : a ≥ b
  · rw [if_pos h]
    simp [h]
  · rw [if_neg h]
    simp
    omega

/-! pointOkP -/
def pointOkP (a b : Int) : Prop := (-8388608 ≤ a ∧ a ≤ 8388608) ∧ (-8388608 ≤ b ∧ b ≤ 8388608)
instance (a b : Int) : Decidable (pointOkP a b) := by unfold pointOkP; infer_instance

/-! spec_PointOk -/
theorem spec_PointOk_v (a b : Int) : spec_PointOk.f a b = some (decide (pointOkP a b)) := by
  unfold spec_PointOk.f pointOkP
  simp only [spec_l01In_v, Option.bind_some, decide_eq_true_eq]
  repeat' split
  all_goals first | (refine congrArg some (decide_eq_decide.mpr ?_); omega) | (refine congrArg some (Eq.symm (decide_eq_false ?_)); omega)

/-! impl_inRange -/
theorem impl_inRange_v (a b c : Int) : impl_inRange.f a b c = some (decide (b ≤ a ∧ a ≤ c)) := by
  unfold impl_inRange.f
  by_cases h : a ≥ b
  · rw [if_pos h]
    simp [h]
  · rw [if_neg h]
    simp
    omega

/-! impl_isFar -/
theorem impl_isFar_v (a : Int) : impl_isFar.f a = some (decide (-8388608 ≤ a ∧ a ≤ 8388608)) := by
  unfold impl_isFar.f
  simp only [impl_inRange_v, Option.bind_some]

/-! impl_PointOk -/
theorem impl_PointOk_v (a b : Int) : impl_PointOk.f a b = some (decide (pointOkP a b)) := by
  unfold impl_PointOk.f pointOkP
  simp only [impl_isFar_v, Option.bind_some, decide_eq_true_eq]
  repeat' split
  all_goals first | (refine congrArg some (decide_eq_decide.mpr ?_); omega) | (refine congrArg some (Eq.symm (decide_eq_false ?_)); omega)

/-! LengthOf -/
theorem LengthOf_v (a b c d : Int) : ∃ r, Ev (fun k => spec_LengthOf.f k a b c d) r ∧ Ev (fun k => impl_LengthOf.f k a b c d) r ∧ 0 ≤ r ∧ r ≤ 3037000499 ∧
    (pointOkP a b → pointOkP c d → RootP ((c - a) * (c - a) + (d - b) * (d - b)) r) ∧ (¬ (pointOkP a b ∧ pointOkP c d) → r = 0) := by
  by_cases h1 : pointOkP a b
  · by_cases h2 : pointOkP c d
    · obtain ⟨r, hr, hp⟩ := impl_RootOf_v ((c - a) * (c - a) + (d - b) * (d - b))
      obtain ⟨s, hs, hq⟩ := spec_RootOf_v ((c - a) * (c - a) + (d - b) * (d - b))
      obtain rfl := RootP_unique hp hq
      obtain ⟨⟨p1, p2⟩, p3, p4⟩ := h1
      obtain ⟨⟨q1, q2⟩, q3, q4⟩ := h2
      have e1 : wrap64 (c - a) = c - a := w64 (by omega) (by omega)
      have e2 : wrap64 (d - b) = d - b := w64 (by omega) (by omega)
      have sq : ∀ x : Int, -16777216 ≤ x → x ≤ 16777216 → 0 ≤ x * x ∧ x * x ≤ 281474976710656 := by
        intro x hx hy
        rcases Int.le_total 0 x with h | h
        · have := sq_mono h hy
          have := sq_mono (a := 0) (by omega) h
          omega
        · have := sq_mono (a := -x) (b := 16777216) (by omega) (by omega)
          have := sq_mono (a := 0) (b := -x) (by omega) (by omega)
          rw [Int.neg_mul_neg] at *
          omega
      have s1 := sq (c - a) (by omega) (by omega)
      have s2 := sq (d - b) (by omega) (by omega)
      have e3 : wrap64 ((c - a) * (c - a)) = (c - a) * (c - a) := w64 (by omega) (by omega)
      have e4 : wrap64 ((d - b) * (d - b)) = (d - b) * (d - b) := w64 (by omega) (by omega)
      have e5 : wrap64 ((c - a) * (c - a) + (d - b) * (d - b)) = (c - a) * (c - a) + (d - b) * (d - b) := w64 (by omega) (by omega)
      refine ⟨r, Ev.congr (fun k => ?_) hs, Ev.congr (fun k => ?_) hr, hp.1, hp.2.1, fun _ _ => hp, fun h => absurd ⟨⟨⟨p1, p2⟩, p3, p4⟩, ⟨q1, q2⟩, q3, q4⟩ h⟩
      · unfold spec_LengthOf.f
        simp only [spec_PointOk_v, Option.bind_some, e1, e2, e3, e4, e5]
        rw [if_pos (decide_eq_true ⟨⟨p1, p2⟩, p3, p4⟩), if_pos (decide_eq_true ⟨⟨q1, q2⟩, q3, q4⟩), Option.bind_fun_some]
      · unfold impl_LengthOf.f
        simp only [impl_PointOk_v, Option.bind_some, e1, e2, e3, e4, e5]
        rw [if_pos (decide_eq_true ⟨⟨p1, p2⟩, p3, p4⟩), if_pos (decide_eq_true ⟨⟨q1, q2⟩, q3, q4⟩), Option.bind_fun_some]
    · refine ⟨0, Ev.congr (fun k => ?_) (Ev.now 0), Ev.congr (fun k => ?_) (Ev.now 0), by omega, by omega, fun _ h => absurd h h2, fun _ => rfl⟩
      · unfold spec_LengthOf.f
        simp only [spec_PointOk_v, Option.bind_some]
        rw [if_pos (decide_eq_true h1), if_neg (by simpa using h2)]
      · unfold impl_LengthOf.f
        simp only [impl_PointOk_v, Option.bind_some]
        rw [if_pos (decide_eq_true h1), if_neg (by simpa using h2)]
  · refine ⟨0, Ev.congr (fun k => ?_) (Ev.now 0), Ev.congr (fun k => ?_) (Ev.now 0), by omega, by omega, fun h _ => absurd h h1, fun _ => rfl⟩
    · unfold spec_LengthOf.f
      simp only [spec_PointOk_v, Option.bind_some]
      rw [if_neg (by simpa using h1)]
    · unfold impl_LengthOf.f
      simp only [impl_PointOk_v, Option.bind_some]
      rw [if_neg (by simpa using h1)]

/-! spec_FloorDiv -/
theorem spec_FloorDiv_tot (a b : Int) : ∃ q, spec_FloorDiv.f a b = some q := by
  unfold spec_FloorDiv.f
  by_cases h : b < 1
  · exact ⟨0, by rw [if_pos h]⟩
  · rw [if_neg h, if_neg (by omega)]
    split <;> exact ⟨_, rfl⟩
theorem spec_FloorDiv_v {a b : Int} (ha : -9223372036854775808 ≤ a) (ha2 : a ≤ 9223372036854775807) (hb : 1 ≤ b) (hb2 : b ≤ 9223372036854775807) : spec_FloorDiv.f a b = some (a / b) := by
  have hq : -9223372036854775808 ≤ a / b ∧ a / b ≤ 9223372036854775807 := by
    refine ⟨(Int.le_ediv_iff_mul_le (by omega)).mpr ?_, ?_⟩
    · have : 9223372036854775808 * 1 ≤ 9223372036854775808 * b := Int.mul_le_mul_of_nonneg_left hb (by omega)
      rw [Int.neg_mul]
      omega
    · rcases Int.le_total 0 a with h | h
      · exact Int.le_trans (Int.ediv_le_self b h) ha2
      · have : a / b ≤ 0 := Int.ediv_le_of_le_mul (by omega) (by omega)
        omega
  have hm := Int.emod_nonneg a (show b ≠ 0 by omega)
  have hml := Int.emod_lt_of_pos a (show 0 < b by omega)
  have hd := Int.mul_ediv_add_emod a b
  unfold spec_FloorDiv.f
  rw [if_neg (by omega), if_neg (by omega)]
  by_cases h0 : 0 ≤ a
  · rw [Int.tmod_eq_emod_of_nonneg h0, if_neg (by omega), Int.tdiv_eq_ediv_of_nonneg h0, w64 hq.1 hq.2]
  · have e1 : Int.tdiv a b = if a % b = 0 then a / b else a / b + 1 := by
      rw [Int.tdiv_eq_ediv]
      have hs : b.sign = 1 := Int.sign_eq_one_of_pos (by omega)
      by_cases hz : a % b = 0
      · rw [if_pos hz, if_pos (.inr (Int.dvd_of_emod_eq_zero hz))]
        omega
      · rw [if_neg hz, if_neg (by
          rintro (h | h)
          · omega
          · exact hz (Int.emod_eq_zero_of_dvd h)), hs]
    have e2 : Int.tmod a b = a - b * Int.tdiv a b := by have := Int.mul_tdiv_add_tmod a b; omega
    by_cases hz : a % b = 0
    · rw [if_pos hz] at e1
      rw [if_neg (by rw [e2, e1]; omega), e1, w64 hq.1 hq.2]
    · rw [if_neg hz] at e1
      have hlt : a / b + 1 ≤ 0 := by
        have : a / b < 0 := Int.ediv_neg_of_neg_of_pos (by omega) (by omega)
        omega
      rw [if_pos (by rw [e2, e1, Int.mul_add]; omega), e1, w64 (x := a / b + 1) (by omega) (by omega), w64 (by omega) (by omega)]
      congr 1
      omega

/-! spec_RoundDiv -/
theorem spec_RoundDiv_tot (a b : Int) : ∃ q, spec_RoundDiv.f a b = some q := by
  obtain ⟨q, hq⟩ := spec_FloorDiv_tot a b
  unfold spec_RoundDiv.f
  rw [hq, Option.bind_some]
  split
  · exact ⟨_, rfl⟩
  · split <;> exact ⟨_, rfl⟩

/-! impl_FloorDiv -/
theorem impl_FloorDiv_s (a b : Int) : impl_FloorDiv.f a b = spec_FloorDiv.f a b := rfl

/-! impl_RoundDiv -/
theorem impl_RoundDiv_s (a b : Int) : impl_RoundDiv.f a b = spec_RoundDiv.f a b := rfl

/-! Clamp_i -/
def clampI (x low high : Int) : Int := if x < low then low else if x > high then high else x
theorem impl_Clamp_v (x low high : Int) : impl_Clamp.f x low high = some (clampI x low high) := by
  unfold impl_Clamp.f clampI
  split
  · rfl
  · split <;> rfl

/-! Clamp -/
theorem spec_Clamp_v (x low high : Int) : spec_Clamp.f x low high = some (clampI x low high) := by
  unfold spec_Clamp.f clampI
  split
  · rfl
  · split <;> rfl

/-! rd_int -/
theorem rd_int (xs : List Int) (i : Nat) (h : i < xs.length) : rd xs (i : Int) = xs[i] := by
  unfold rd
  simp [h]

/-! dashOkB -/
def dashOkB (l : List Int) : Bool := l.all (fun x => decide (1 ≤ x ∧ x ≤ 20000)) && (decide (l.length % 2 = 0) && decide (l.length ≤ 4))
theorem dash_end (l : List Int) : (if ((l.length : Int) % 2) = 0 then some (decide ((l.length : Int) ≤ 4)) else some false) = some (decide (l.length % 2 = 0) && decide (l.length ≤ 4)) := by
  by_cases h : (l.length : Int) % 2 = 0
  · rw [if_pos h]
    have h2 : l.length % 2 = 0 := by omega
    simp [h2]
    omega
  · rw [if_neg h]
    have h2 : ¬ l.length % 2 = 0 := by omega
    simp [h2]

/-! impl_DashOk -/
theorem impl_DashOk_l (l : List Int) (hn : l.length ≤ 1048576) : ∀ (d i : Nat), i + d = l.length → Ev (fun k => impl_DashOk.l0 k l l (l.length : Int) (i : Int)) ((l.drop i).all (fun x => decide (1 ≤ x ∧ x ≤ 20000)) && (decide (l.length % 2 = 0) && decide (l.length ≤ 4))) := by
  intro d
  induction d with
  | zero =>
    intro i hi
    refine ev_done (fun k => ?_)
    simp only [impl_DashOk.l0]
    rw [if_neg (by omega), dash_end, List.drop_of_length_le (by omega)]
    rfl
  | succ d ih =>
    intro i hi
    have hi2 : i < l.length := by omega
    rw [List.drop_eq_getElem_cons hi2, List.all_cons]
    by_cases hx : 1 ≤ l[i] ∧ l[i] ≤ 20000
    · rw [decide_eq_true hx, Bool.true_and]
      refine Ev.step (fun k => ?_) (ih (i + 1) (by omega))
      simp only [impl_DashOk.l0, impl_inRange_v, Option.bind_some]
      rw [if_pos (by omega), if_pos (by omega), if_pos (by omega), rd_int _ _ hi2, step64 hi2 (by omega), if_pos (by simpa using hx)]
    · rw [decide_eq_false hx, Bool.false_and, Bool.false_and]
      refine ev_done (fun k => ?_)
      simp only [impl_DashOk.l0, impl_inRange_v, Option.bind_some]
      rw [if_pos (by omega), if_pos (by omega), if_pos (by omega), rd_int _ _ hi2, if_neg (by simpa using hx)]
theorem impl_DashOk_v (l : List Int) (hn : l.length ≤ 1048576) : Ev (fun k => impl_DashOk.f k l) (dashOkB l) := impl_DashOk_l l hn l.length 0 (by omega)

/-! spec_DashOk -/
theorem spec_DashOk_l (l : List Int) (hn : l.length ≤ 1048576) : ∀ (d i : Nat), i + d = l.length → Ev (fun k => spec_DashOk.l0 k l (i : Int)) ((l.drop i).all (fun x => decide (1 ≤ x ∧ x ≤ 20000)) && (decide (l.length % 2 = 0) && decide (l.length ≤ 4))) := by
  intro d
  induction d with
  | zero =>
    intro i hi
    refine ev_done (fun k => ?_)
    simp only [spec_DashOk.l0]
    rw [if_neg (by omega), dash_end, List.drop_of_length_le (by omega)]
    rfl
  | succ d ih =>
    intro i hi
    have hi2 : i < l.length := by omega
    rw [List.drop_eq_getElem_cons hi2, List.all_cons]
    by_cases hx : 1 ≤ l[i] ∧ l[i] ≤ 20000
    · rw [decide_eq_true hx, Bool.true_and]
      refine Ev.step (fun k => ?_) (ih (i + 1) (by omega))
      simp only [spec_DashOk.l0, spec_l01In_v, Option.bind_some]
      rw [if_pos (by omega), if_pos (by omega), rd_int _ _ hi2, step64 hi2 (by omega), if_pos (by simpa using hx)]
    · rw [decide_eq_false hx, Bool.false_and, Bool.false_and]
      refine ev_done (fun k => ?_)
      simp only [spec_DashOk.l0, spec_l01In_v, Option.bind_some]
      rw [if_pos (by omega), if_pos (by omega), rd_int _ _ hi2, if_neg (by simpa using hx)]
theorem spec_DashOk_v (l : List Int) (hn : l.length ≤ 1048576) : Ev (fun k => spec_DashOk.f k l) (dashOkB l) := spec_DashOk_l l hn l.length 0 (by omega)

/-! rd_impl_PointSS -/
theorem rd_impl_PointSS (xs : List (List S29)) (i : Nat) (h : i < xs.length) : rd_L2 xs (i : Int) = xs[i] := by
  unfold rd_L2
  simp [h]

/-! rd_impl_Point -/
theorem rd_impl_Point (xs : List S29) (i : Nat) (h : i < xs.length) : rd_T29 xs (i : Int) = xs[i] := by
  unfold rd_T29
  simp [h]

/-! DashS -/
def preS : List Int → Nat → Int
  | [], _ => 0
  | _ :: _, 0 => 0
  | v :: t, k + 1 => v + preS t k
theorem preS_zero (l : List Int) : preS l 0 = 0 := by cases l <;> rfl
theorem preS_succ : ∀ (l : List Int) (k : Nat) (h : k < l.length), preS l (k + 1) = preS l k + l[k]
  | [], _, h => absurd h (by simp)
  | v :: t, 0, _ => by simp [preS, preS_zero]
  | v :: t, k + 1, h => by
    have h2 : k < t.length := by simpa using h
    simp only [preS, List.getElem_cons_succ]
    rw [preS_succ t k h2]
    omega
def seekK : List Int → Int → Nat
  | [], _ => 0
  | v :: t, x => if x ≥ v then seekK t (x - v) + 1 else 0
theorem seek_spec : ∀ (l : List Int) (t : Int), 0 ≤ t → t < preS l l.length → seekK l t < l.length ∧ preS l (seekK l t) ≤ t ∧ t < preS l (seekK l t + 1)
  | [], t, h0, h => by simp [preS] at h; omega
  | v :: u, t, h0, h => by
    simp only [seekK]
    by_cases c : t ≥ v
    · rw [if_pos c]
      simp only [List.length_cons, preS] at h
      obtain ⟨h1, h2, h3⟩ := seek_spec u (t - v) (by omega) (by omega)
      refine ⟨by simpa using h1, ?_, ?_⟩
      · simp only [preS]; omega
      · simp only [preS] at h3 ⊢; omega
    · rw [if_neg c]
      refine ⟨by simp, ?_, ?_⟩
      · simp only [preS]; omega
      · simp only [preS, preS_zero]; omega
theorem preS_le : ∀ (l : List Int), (∀ v ∈ l, 1 ≤ v) → ∀ k, 0 ≤ preS l k
  | [], _, _ => by simp [preS]
  | _ :: _, _, 0 => by simp [preS]
  | v :: t, h, k + 1 => by
    have h1 := h v (by simp)
    have h2 := preS_le t (fun u hu => h u (by simp [hu])) k
    simp only [preS]
    omega
theorem preS_mono : ∀ (l : List Int), (∀ v ∈ l, 1 ≤ v) → ∀ j k, j ≤ k → preS l j ≤ preS l k
  | [], _, _, _, _ => by simp [preS]
  | v :: t, h, 0, k, _ => by rw [preS_zero]; exact preS_le _ h k
  | v :: t, h, j + 1, 0, hk => absurd hk (by omega)
  | v :: t, h, j + 1, k + 1, hk => by
    have := preS_mono t (fun u hu => h u (by simp [hu])) j k (by omega)
    simp only [preS]
    omega
theorem preS_up : ∀ (l : List Int), (∀ v ∈ l, 1 ≤ v ∧ v ≤ 20000) → ∀ k, preS l k ≤ 20000 * (l.length : Int)
  | [], _, _ => by simp [preS]
  | _ :: t, _, 0 => by simp only [preS, List.length_cons]; omega
  | v :: t, h, k + 1 => by
    have h1 := h v (by simp)
    have h2 := preS_up t (fun u hu => h u (by simp [hu])) k
    simp only [preS, List.length_cons]
    omega
theorem seek_uniq : ∀ (l : List Int), (∀ v ∈ l, 1 ≤ v) → ∀ (k : Nat) (t : Int), k < l.length → preS l k ≤ t → t < preS l (k + 1) → seekK l t = k
  | [], _, _, _, h, _, _ => absurd h (by simp)
  | v :: u, hp, 0, t, h, h1, h2 => by
    simp only [preS, preS_zero] at h1 h2
    simp only [seekK]
    rw [if_neg (by omega)]
  | v :: u, hp, k + 1, t, h, h1, h2 => by
    have hu : ∀ w ∈ u, 1 ≤ w := fun w hw => hp w (by simp [hw])
    have h0 := preS_le u hu k
    simp only [preS] at h1 h2
    simp only [seekK]
    rw [if_pos (by omega), seek_uniq u hu k (t - v) (by simpa using h) (by omega) (by omega)]
theorem dash_s0 (ds : List Int) (hd : ∀ v ∈ ds, 1 ≤ v ∧ v ≤ 20000) (hl : ds.length ≤ 4) : ∀ (d i : Nat), i + d = ds.length → Ev (fun k => impl_DashOf.s0 k ds (preS ds i) (i : Int)) (preS ds ds.length) := by
  intro d
  induction d with
  | zero =>
    intro i hi
    obtain rfl : i = ds.length := by omega
    refine ev_done (fun k => ?_)
    simp only [impl_DashOf.s0]
    rw [if_neg (by omega)]
  | succ d ih =>
    intro i hi
    have hi2 : i < ds.length := by omega
    have h0 := preS_le ds (fun v hv => (hd v hv).1) (i + 1)
    have h1 := preS_up ds hd (i + 1)
    have e := preS_succ ds i hi2
    refine Ev.step (fun k => ?_) (ih (i + 1) (by omega))
    simp only [impl_DashOf.s0]
    rw [if_pos (by omega), if_pos (by omega), rd_int _ _ hi2, step64 hi2 (by omega), ← e, w64 (by omega) (by omega)]
theorem dash_s1 (ds : List Int) (hd : ∀ v ∈ ds, 1 ≤ v ∧ v ≤ 20000) (hl : ds.length ≤ 4) (k : Nat) (t : Int) (hk : k < ds.length) (h1 : preS ds k ≤ t) (h2 : t < preS ds (k + 1)) : ∀ (d j : Nat), j + d = k → Ev (fun q => impl_DashOf.s1 q ds (t - preS ds j) (j : Int)) (t - preS ds k, (k : Int)) := by
  have hp : ∀ v ∈ ds, 1 ≤ v := fun v hv => (hd v hv).1
  have e := preS_succ ds k hk
  have u1 := preS_up ds hd (k + 1)
  have u2 := preS_le ds hp k
  intro d
  induction d with
  | zero =>
    intro j hj
    obtain rfl : j = k := by omega
    refine ev_done (fun q => ?_)
    simp only [impl_DashOf.s1]
    rw [if_pos (by omega), if_pos (by omega), rd_int _ _ hk, if_neg (by omega)]
  | succ d ih =>
    intro j hj
    have hj2 : j < ds.length := by omega
    have e2 := preS_succ ds j hj2
    have m := preS_mono ds hp (j + 1) k (by omega)
    have z := preS_le ds hp j
    have z2 := preS_le ds hp (j + 1)
    refine Ev.step (fun q => ?_) (ih (j + 1) (by omega))
    simp only [impl_DashOf.s1]
    rw [if_pos (by omega), if_pos (by omega), rd_int _ _ hj2, if_pos (by omega), step64 hj2 (by omega), show t - preS ds j - ds[j] = t - preS ds (j + 1) by omega, w64 (by omega) (by omega)]
theorem tmod_len {kk n : Nat} : Int.tmod ((kk : Int) + 1) (n : Int) = (((kk + 1) % n : Nat) : Int) := by
  rw [Int.tmod_eq_emod_of_nonneg (by omega)]
  exact (Int.natCast_emod (kk + 1) n).symm
theorem par_next {kk n : Nat} (hk : kk < n) (he : n % 2 = 0) : ((kk + 1) % n) % 2 = 0 ↔ ¬ kk % 2 = 0 := by
  by_cases hw : kk + 1 < n
  · rw [Nat.mod_eq_of_lt hw]
    omega
  · obtain hw2 : kk + 1 = n := by omega
    rw [hw2, Nat.mod_self]
    omega
theorem tm_even {kk : Nat} (h : kk % 2 = 0) : Int.tmod (kk : Int) 2 = 0 := by rw [Int.tmod_eq_emod_of_nonneg (by omega)]; omega
theorem tm_odd {kk : Nat} (h : ¬ kk % 2 = 0) : ¬ Int.tmod (kk : Int) 2 = 0 := by rw [Int.tmod_eq_emod_of_nonneg (by omega)]; omega

/-! PointsOk -/
def ptsOkB (l : List S29) : Bool := l.all (fun v => decide (pointOkP v.f0 v.f1))
theorem impl_pointsOk_l (l : List S29) (hn : l.length ≤ 1048576) : ∀ (d i : Nat), i + d = l.length → Ev (fun k => impl_pointsOk.l0 k l (l.length : Int) (i : Int)) ((l.drop i).all (fun v => decide (pointOkP v.f0 v.f1))) := by
  intro d
  induction d with
  | zero =>
    intro i hi
    refine ev_done (fun k => ?_)
    simp only [impl_pointsOk.l0]
    rw [if_neg (by omega), List.drop_of_length_le (by omega)]
    rfl
  | succ d ih =>
    intro i hi
    have hi2 : i < l.length := by omega
    rw [List.drop_eq_getElem_cons hi2, List.all_cons]
    by_cases hx : pointOkP l[i].f0 l[i].f1
    · rw [decide_eq_true hx, Bool.true_and]
      refine Ev.step (fun k => ?_) (ih (i + 1) (by omega))
      simp only [impl_pointsOk.l0, impl_PointOk_v, Option.bind_some]
      rw [if_pos (by omega), if_pos (by omega), if_pos (by omega), rd_impl_Point _ _ hi2, step64 hi2 (by omega), if_pos (by simpa using hx)]
    · rw [decide_eq_false hx, Bool.false_and]
      refine ev_done (fun k => ?_)
      simp only [impl_pointsOk.l0, impl_PointOk_v, Option.bind_some]
      rw [if_pos (by omega), if_pos (by omega), if_pos (by omega), rd_impl_Point _ _ hi2, if_neg (by simpa using hx)]
theorem impl_pointsOk_v (l : List S29) (hn : l.length ≤ 1048576) : Ev (fun k => impl_pointsOk.f k l) (ptsOkB l) := impl_pointsOk_l l hn l.length 0 (by omega)

/-! DashOf -/
theorem PointAt_v (a b c d t n : Int) : ∃ p : Int × Int, Ev (fun k => spec_PointAt.f k a b c d t n) p ∧ Ev (fun k => impl_PointAt.f k a b c d t n) p := by
  obtain ⟨x, hx⟩ := spec_RoundDiv_tot (wrap64 ((wrap64 (c - a)) * clampI t 0 n)) n
  obtain ⟨y, hy⟩ := spec_RoundDiv_tot (wrap64 ((wrap64 (d - b)) * clampI t 0 n)) n
  have h : ∃ p : Int × Int, spec_PointAt.f 1 a b c d t n = some p ∧ impl_PointAt.f 1 a b c d t n = some p := by
    simp only [spec_PointAt.f, impl_PointAt.f, spec_PointAt.j0, impl_PointAt.j0, spec_PointOk_v, impl_PointOk_v, spec_l01In_v, impl_inRange_v, spec_Clamp_v, impl_Clamp_v, impl_RoundDiv_s, hx, hy, Option.bind_some]
    by_cases h1 : 1 ≤ n ∧ n ≤ 50000000 <;> by_cases h2 : pointOkP a b <;> by_cases h3 : pointOkP c d <;> simp [h1, h2, h3]
  obtain ⟨p, h1, h2⟩ := h
  exact ⟨p, Ev.of (fun k => spec_PointAt.mono _ _ _ _ _ _ k) h1, Ev.of (fun k => impl_PointAt.mono _ _ _ _ _ _ k) h2⟩
def fil (zs : List (List S29)) : List (List S29) := zs.filter (fun v => decide (v.length > 1))
theorem fil_app (zs : List (List S29)) (v : List S29) : fil (zs ++ [v]) = if v.length > 1 then fil zs ++ [v] else fil zs := by
  unfold fil
  by_cases h : v.length > 1
  · rw [if_pos h, List.filter_append]
    simp [h]
  · rw [if_neg h, List.filter_append]
    simp [h]
theorem fil_len (zs : List (List S29)) : (fil zs).length ≤ zs.length := List.length_filter_le _ _
def totP : List (List S29) → Nat
  | [] => 0
  | v :: t => v.length + totP t
theorem totP_app : ∀ (a b : List (List S29)), totP (a ++ b) = totP a + totP b
  | [], b => by simp [totP]
  | v :: t, b => by
    rw [List.cons_append, totP, totP, totP_app t b]
    omega
theorem totP_fil : ∀ (zs : List (List S29)), totP (fil zs) ≤ totP zs
  | [] => Nat.le_refl _
  | v :: t => by
    have h := totP_fil t
    unfold fil at h ⊢
    by_cases hv : v.length > 1
    · rw [List.filter_cons_of_pos (by simpa using hv), totP, totP]
      omega
    · rw [List.filter_cons_of_neg (by simpa using hv), totP]
      omega
/-- The way so far is F long, with what is left of the dash; nothing is open without a stretch. -/
structure DI (ds : List Int) (F : Int) (kk : Nat) (left : Int) (xs : List S29) (zs : List (List S29)) (i : Nat) : Prop where
  l : 0 ≤ left ∧ left ≤ 20000
  hk : kk < ds.length
  o : ¬ kk % 2 = 0 → xs = []
  x : xs.length ≤ i
  z : 2 * (zs.length : Int) ≤ F + ((kk % 2 : Nat) : Int)
  w : ∀ v ∈ zs, v.length ≤ 1048576
  t : totP zs + xs.length + kk % 2 ≤ 2 * zs.length + 1 + i
section
variable (P : List S29) (ds : List Int) (ax ay bx by_ n at_ left : Int) (en : wrap64 (n - at_) = n - at_) (ea : wrap64 (at_ + left) = at_ + left) (hc : n - at_ > left)
include en ea hc
theorem piece_st (k : Nat) (kk : Int) (xs : List S29) (ys : List (List S29)) : impl_dasher_piece.l0 (k + 1) ds ax ay bx by_ n at_ kk left xs ys = (impl_PointAt.f k ax ay bx by_ (at_ + left) n).bind fun p => (if xs.length < 8796093022208 then (if ys.length < 5864062014805 then (if (ds.length : Int) = 0 then none else (if 0 ≤ Int.tmod (wrap64 (kk + 1)) (ds.length : Int) then (if Int.tmod (wrap64 (kk + 1)) (ds.length : Int) < (ds.length : Int) then (if Int.tmod kk 2 = 0 then (impl_dasher_piece.l0 k ds ax ay bx by_ n (at_ + left) (Int.tmod (wrap64 (kk + 1)) (ds.length : Int)) (rd ds (Int.tmod (wrap64 (kk + 1)) (ds.length : Int))) [] (if (xs ++ [(⟨p.1, p.2⟩ : S29)]).length > 1 then ys ++ [xs ++ [(⟨p.1, p.2⟩ : S29)]] else ys)) else (impl_dasher_piece.l0 k ds ax ay bx by_ n (at_ + left) (Int.tmod (wrap64 (kk + 1)) (ds.length : Int)) (rd ds (Int.tmod (wrap64 (kk + 1)) (ds.length : Int))) (xs ++ [(⟨p.1, p.2⟩ : S29)]) ys)) else none) else none)) else none) else none) := by
  rw [impl_dasher_piece.l0, en, if_pos hc, ea]
theorem line_st (k : Nat) (i kk : Int) (xs : List S29) (zs : List (List S29)) : spec_l09Line.l1 (k + 1) P ds zs xs i n at_ kk left ax ay bx by_ = (spec_PointAt.f k ax ay bx by_ (at_ + left) n).bind fun p => (if xs.length < 8796093022208 then (if Int.tmod kk 2 = 0 then (if zs.length < 5864062014805 then (if (ds.length : Int) = 0 then none else (if 0 ≤ Int.tmod (wrap64 (kk + 1)) (ds.length : Int) then (if Int.tmod (wrap64 (kk + 1)) (ds.length : Int) < (ds.length : Int) then (spec_l09Line.l1 k P ds (zs ++ [xs ++ [(⟨p.1, p.2⟩ : S29)]]) [] i n (at_ + left) (Int.tmod (wrap64 (kk + 1)) (ds.length : Int)) (rd ds (Int.tmod (wrap64 (kk + 1)) (ds.length : Int))) ax ay bx by_) else none) else none)) else none) else (if (ds.length : Int) = 0 then none else (if 0 ≤ Int.tmod (wrap64 (kk + 1)) (ds.length : Int) then (if Int.tmod (wrap64 (kk + 1)) (ds.length : Int) < (ds.length : Int) then (spec_l09Line.l1 k P ds zs (xs ++ [(⟨p.1, p.2⟩ : S29)]) i n (at_ + left) (Int.tmod (wrap64 (kk + 1)) (ds.length : Int)) (rd ds (Int.tmod (wrap64 (kk + 1)) (ds.length : Int))) ax ay bx by_) else none) else none))) else none) := by
  rw [spec_l09Line.l1, en, if_pos hc, ea]
  rfl
theorem piece_even (k kk k2 : Nat) (xs : List S29) (ys : List (List S29)) (hp : kk % 2 = 0) (h2 : k2 < ds.length) (ek : Int.tmod (wrap64 ((kk : Int) + 1)) (ds.length : Int) = (k2 : Int)) (b1 : xs.length < 8796093022208) (b2 : ys.length < 5864062014805) : impl_dasher_piece.l0 (k + 1) ds ax ay bx by_ n at_ (kk : Int) left xs ys = (impl_PointAt.f k ax ay bx by_ (at_ + left) n).bind fun p => impl_dasher_piece.l0 k ds ax ay bx by_ n (at_ + left) (k2 : Int) (ds[k2]'h2) [] (if (xs ++ [(⟨p.1, p.2⟩ : S29)]).length > 1 then ys ++ [xs ++ [(⟨p.1, p.2⟩ : S29)]] else ys) := by
  rw [piece_st ds ax ay bx by_ n at_ left en ea hc]
  refine congrArg _ (funext fun p => ?_)
  rw [if_pos b1, if_pos b2, ek, if_neg (by omega), if_pos (by omega), if_pos (by omega), if_pos (tm_even hp), rd_int _ _ h2]
theorem piece_odd (k kk k2 : Nat) (ys : List (List S29)) (hp : ¬ kk % 2 = 0) (h2 : k2 < ds.length) (ek : Int.tmod (wrap64 ((kk : Int) + 1)) (ds.length : Int) = (k2 : Int)) (b2 : ys.length < 5864062014805) : impl_dasher_piece.l0 (k + 1) ds ax ay bx by_ n at_ (kk : Int) left [] ys = (impl_PointAt.f k ax ay bx by_ (at_ + left) n).bind fun p => impl_dasher_piece.l0 k ds ax ay bx by_ n (at_ + left) (k2 : Int) (ds[k2]'h2) [(⟨p.1, p.2⟩ : S29)] ys := by
  rw [piece_st ds ax ay bx by_ n at_ left en ea hc]
  refine congrArg _ (funext fun p => ?_)
  rw [if_pos (by simp), if_pos b2, ek, if_neg (by omega), if_pos (by omega), if_pos (by omega), if_neg (tm_odd hp), rd_int _ _ h2, List.nil_append]
theorem line_even (k kk k2 : Nat) (i : Int) (xs : List S29) (zs : List (List S29)) (hp : kk % 2 = 0) (h2 : k2 < ds.length) (ek : Int.tmod (wrap64 ((kk : Int) + 1)) (ds.length : Int) = (k2 : Int)) (b1 : xs.length < 8796093022208) (b2 : zs.length < 5864062014805) : spec_l09Line.l1 (k + 1) P ds zs xs i n at_ (kk : Int) left ax ay bx by_ = (spec_PointAt.f k ax ay bx by_ (at_ + left) n).bind fun p => spec_l09Line.l1 k P ds (zs ++ [xs ++ [(⟨p.1, p.2⟩ : S29)]]) [] i n (at_ + left) (k2 : Int) (ds[k2]'h2) ax ay bx by_ := by
  rw [line_st P ds ax ay bx by_ n at_ left en ea hc]
  refine congrArg _ (funext fun p => ?_)
  rw [if_pos b1, if_pos (tm_even hp), if_pos b2, ek, if_neg (by omega), if_pos (by omega), if_pos (by omega), rd_int _ _ h2]
theorem line_odd (k kk k2 : Nat) (i : Int) (zs : List (List S29)) (hp : ¬ kk % 2 = 0) (h2 : k2 < ds.length) (ek : Int.tmod (wrap64 ((kk : Int) + 1)) (ds.length : Int) = (k2 : Int)) : spec_l09Line.l1 (k + 1) P ds zs [] i n at_ (kk : Int) left ax ay bx by_ = (spec_PointAt.f k ax ay bx by_ (at_ + left) n).bind fun p => spec_l09Line.l1 k P ds zs [(⟨p.1, p.2⟩ : S29)] i n (at_ + left) (k2 : Int) (ds[k2]'h2) ax ay bx by_ := by
  rw [line_st P ds ax ay bx by_ n at_ left en ea hc]
  refine congrArg _ (funext fun p => ?_)
  rw [if_pos (by simp), if_neg (tm_odd hp), ek, if_neg (by omega), if_pos (by omega), if_pos (by omega), rd_int _ _ h2, List.nil_append]
end
section
variable (P : List S29) (ds : List Int) (hd : ∀ v ∈ ds, 1 ≤ v ∧ v ≤ 20000) (hl4 : ds.length ≤ 4) (he : ds.length % 2 = 0)
include hd hl4 he
theorem piece_l (ax ay bx by_ n Q : Int) (i : Nat) (hi : 1 ≤ i) (hi2 : i ≤ 1048575) (hi3 : i < P.length) (hn : 0 < n) (hn2 : n ≤ 3037000499) (hQ : 0 ≤ Q) (hQ2 : Q + n + 20002 < 11728124029610) : ∀ (d : Nat) (at_ : Int) (kk : Nat) (left : Int) (xs : List S29) (zs : List (List S29)), n - (at_ + left) ≤ d → 0 ≤ at_ → at_ ≤ n → DI ds (Q + at_ + left) kk left xs zs i →
    ∃ (kk' : Nat) (left' : Int) (xs' : List S29) (zs' : List (List S29)), Ev (fun k => impl_dasher_piece.l0 k ds ax ay bx by_ n at_ (kk : Int) left xs (fil zs)) ((kk' : Int), left', xs', fil zs') ∧ DI ds (Q + n + left') kk' left' xs' zs' (i + 1) ∧
      ∀ r, Ev (fun k => spec_l09Line.l0 k P ds zs' xs' ((i + 1 : Nat) : Int) (kk' : Int) left') r → Ev (fun k => spec_l09Line.l1 k P ds zs xs (i : Int) n at_ (kk : Int) left ax ay bx by_) r := by
  have stop : ∀ (at_ : Int) (kk : Nat) (left : Int) (xs : List S29) (zs : List (List S29)), ¬ n - at_ > left → 0 ≤ at_ → at_ ≤ n → DI ds (Q + at_ + left) kk left xs zs i →
    ∃ (kk' : Nat) (left' : Int) (xs' : List S29) (zs' : List (List S29)), Ev (fun k => impl_dasher_piece.l0 k ds ax ay bx by_ n at_ (kk : Int) left xs (fil zs)) ((kk' : Int), left', xs', fil zs') ∧ DI ds (Q + n + left') kk' left' xs' zs' (i + 1) ∧
      ∀ r, Ev (fun k => spec_l09Line.l0 k P ds zs' xs' ((i + 1 : Nat) : Int) (kk' : Int) left') r → Ev (fun k => spec_l09Line.l1 k P ds zs xs (i : Int) n at_ (kk : Int) left ax ay bx by_) r := by
    intro at_ kk left xs zs hc a0 a1 h
    have hl := h.l
    have hx := h.x
    have hz := h.z
    have hk := h.hk
    have ht := h.t
    by_cases hp : kk % 2 = 0
    · refine ⟨kk, left - (n - at_), xs ++ [⟨bx, by_⟩], zs, ev_done (fun k => ?_), ⟨by omega, hk, fun c => absurd hp c, by simp; omega, by omega, h.w, by rw [List.length_append]; simp only [List.length_cons, List.length_nil]; omega⟩, fun r hr => Ev.step (fun k => ?_) hr⟩
      · simp only [impl_dasher_piece.l0]
        rw [w64 (x := n - at_) (by omega) (by omega), if_neg hc, w64 (x := left - (n - at_)) (by omega) (by omega), if_pos (tm_even hp), if_pos (by omega)]
      · simp only [spec_l09Line.l1]
        rw [w64 (x := n - at_) (by omega) (by omega), if_neg hc, w64 (x := left - (n - at_)) (by omega) (by omega), if_pos hn, if_pos (tm_even hp), if_pos (by omega), step64 (n := 1048578) (by omega) (by omega)]
    · refine ⟨kk, left - (n - at_), xs, zs, ev_done (fun k => ?_), ⟨by omega, hk, h.o, by omega, by omega, h.w, by omega⟩, fun r hr => Ev.step (fun k => ?_) hr⟩
      · simp only [impl_dasher_piece.l0]
        rw [w64 (x := n - at_) (by omega) (by omega), if_neg hc, w64 (x := left - (n - at_)) (by omega) (by omega), if_neg (tm_odd hp)]
      · simp only [spec_l09Line.l1]
        rw [w64 (x := n - at_) (by omega) (by omega), if_neg hc, w64 (x := left - (n - at_)) (by omega) (by omega), if_pos hn, if_neg (tm_odd hp), step64 (n := 1048578) (by omega) (by omega)]
  intro d
  induction d with
  | zero =>
    intro at_ kk left xs zs hm a0 a1 h
    exact stop at_ kk left xs zs (by omega) a0 a1 h
  | succ d ih =>
    intro at_ kk left xs zs hm a0 a1 h
    by_cases hc : n - at_ > left
    · have hl := h.l
      have hx := h.x
      have hz := h.z
      have hk := h.hk
      have hk2 : (kk + 1) % ds.length < ds.length := Nat.mod_lt _ (by omega)
      have tk := fun (_ : True) => tmod_len (kk := kk) (n := ds.length)
      have par := par_next hk he
      generalize (kk + 1) % ds.length = k2 at hk2 tk par
      have hv := hd _ (List.getElem_mem hk2)
      have ew : wrap64 ((kk : Int) + 1) = (kk : Int) + 1 := w64 (by omega) (by omega)
      have ek : True → Int.tmod (wrap64 ((kk : Int) + 1)) (ds.length : Int) = (k2 : Int) := fun u => by rw [ew]; exact tk u
      clear ew tk
      have ea : wrap64 (at_ + left) = at_ + left := w64 (by omega) (by omega)
      have en : wrap64 (n - at_) = n - at_ := w64 (by omega) (by omega)
      have hfl := fil_len zs
      have b6 : zs.length < 5864062014805 := by omega
      have b1 : xs.length < 8796093022208 := by omega
      have b2 : (fil zs).length < 5864062014805 := by omega
      obtain ⟨p, p1, p2⟩ := PointAt_v ax ay bx by_ (at_ + left) n
      by_cases hp : kk % 2 = 0
      · have pz : k2 % 2 = 1 := by
          rcases Nat.mod_two_eq_zero_or_one k2 with c | c
          · exact absurd hp (par.mp c)
          · exact c
        clear par
        have zl : (zs ++ [xs ++ [(⟨p.1, p.2⟩ : S29)]]).length = zs.length + 1 := by rw [List.length_append]; rfl
        have q1 : n - (at_ + left + ds[k2]) ≤ (d : Int) := by omega
        have q3 : 0 ≤ at_ + left := by omega
        have q4 : at_ + left ≤ n := by omega
        have q5 : 0 ≤ ds[k2] ∧ ds[k2] ≤ 20000 := ⟨by omega, hv.2⟩
        have q2 : 2 * ((zs ++ [xs ++ [(⟨p.1, p.2⟩ : S29)]]).length : Int) ≤ Q + (at_ + left) + ds[k2] + ((k2 % 2 : Nat) : Int) := by rw [zl, pz]; rw [hp] at hz; omega
        have q7 : totP (zs ++ [xs ++ [(⟨p.1, p.2⟩ : S29)]]) + ([] : List S29).length + k2 % 2 ≤ 2 * (zs ++ [xs ++ [(⟨p.1, p.2⟩ : S29)]]).length + 1 + i := by
          have ht := h.t
          rw [totP_app, zl, pz]
          simp only [totP, List.length_append, List.length_cons, List.length_nil]
          omega
        have q6 : ∀ v ∈ zs ++ [xs ++ [(⟨p.1, p.2⟩ : S29)]], v.length ≤ 1048576 := by
          intro v hv'
          rcases List.mem_append.mp hv' with c | c
          · exact h.w v c
          · rw [List.mem_singleton.mp c, List.length_append]
            simp only [List.length_cons, List.length_nil]
            omega
        obtain ⟨kk', left', xs', zs', h1, h2, h3⟩ := ih (at_ + left) k2 ds[k2] [] (zs ++ [xs ++ [⟨p.1, p.2⟩]]) q1 q3 q4 ⟨q5, hk2, fun _ => rfl, Nat.zero_le _, q2, q6, q7⟩
        rw [fil_app] at h1
        exact ⟨kk', left', xs', zs', Ev.step (fun k => piece_even ds ax ay bx by_ n at_ left en ea hc k kk k2 xs (fil zs) hp hk2 (ek trivial) b1 b2) (Ev.bind p2 h1), h2, fun r hr => Ev.step (fun k => line_even P ds ax ay bx by_ n at_ left en ea hc k kk k2 (i : Int) xs zs hp hk2 (ek trivial) b1 b6) (Ev.bind p1 (h3 r hr))⟩
      · have pz : k2 % 2 = 0 := par.mpr hp
        clear par
        obtain rfl := h.o hp
        have q1 : n - (at_ + left + ds[k2]) ≤ (d : Int) := by omega
        have q3 : 0 ≤ at_ + left := by omega
        have q4 : at_ + left ≤ n := by omega
        have q5 : 0 ≤ ds[k2] ∧ ds[k2] ≤ 20000 := ⟨by omega, hv.2⟩
        have q2 : 2 * (zs.length : Int) ≤ Q + (at_ + left) + ds[k2] + ((k2 % 2 : Nat) : Int) := by rw [pz]; rw [show kk % 2 = 1 by omega] at hz; omega
        have q7 : totP zs + [(⟨p.1, p.2⟩ : S29)].length + k2 % 2 ≤ 2 * zs.length + 1 + i := by
          have ht := h.t
          rw [pz]
          rw [show kk % 2 = 1 by omega] at ht
          simp only [List.length_cons, List.length_nil] at ht ⊢
          omega
        obtain ⟨kk', left', xs', zs', h1, h2, h3⟩ := ih (at_ + left) k2 ds[k2] [⟨p.1, p.2⟩] zs q1 q3 q4 ⟨q5, hk2, fun c => absurd pz c, hi, q2, h.w, q7⟩
        exact ⟨kk', left', xs', zs', Ev.step (fun k => piece_odd ds ax ay bx by_ n at_ left en ea hc k kk k2 (fil zs) hp hk2 (ek trivial) b2) (Ev.bind p2 h1), h2, fun r hr => Ev.step (fun k => line_odd P ds ax ay bx by_ n at_ left en ea hc k kk k2 (i : Int) zs hp hk2 (ek trivial)) (Ev.bind p1 (h3 r hr))⟩
    · exact stop at_ kk left xs zs hc a0 a1 h
end
theorem sq_up {x : Int} (hx : -16777216 ≤ x) (hy : x ≤ 16777216) : 0 ≤ x * x ∧ x * x ≤ 281474976710656 := by
  rcases Int.le_total 0 x with h | h
  · have := sq_mono h hy
    have := sq_mono (a := 0) (by omega) h
    omega
  · have := sq_mono (a := -x) (b := 16777216) (by omega) (by omega)
    have := sq_mono (a := 0) (b := -x) (by omega) (by omega)
    rw [Int.neg_mul_neg] at *
    omega
theorem len_up {a b c d r : Int} (h1 : pointOkP a b) (h2 : pointOkP c d) (h : RootP ((c - a) * (c - a) + (d - b) * (d - b)) r) : r ≤ 23726566 := by
  obtain ⟨⟨p1, p2⟩, p3, p4⟩ := h1
  obtain ⟨⟨q1, q2⟩, q3, q4⟩ := h2
  have s1 := sq_up (x := c - a) (by omega) (by omega)
  have s2 := sq_up (x := d - b) (by omega) (by omega)
  obtain ⟨h0, _, h3, _⟩ := h
  by_cases hc : r ≤ 23726566
  · exact hc
  · have q := sq_mono (a := 23726567) (b := r) (by omega) (by omega)
    rcases h3 with h3 | h3
    · omega
    · omega
theorem LengthOf_b (a b c d : Int) : ∃ r, Ev (fun k => spec_LengthOf.f k a b c d) r ∧ Ev (fun k => impl_LengthOf.f k a b c d) r ∧ 0 ≤ r ∧ r ≤ 23726566 := by
  obtain ⟨r, h1, h2, h3, h4, h5, h6⟩ := LengthOf_v a b c d
  by_cases hb : pointOkP a b ∧ pointOkP c d
  · exact ⟨r, h1, h2, h3, len_up hb.1 hb.2 (h5 hb.1 hb.2)⟩
  · have := h6 hb
    exact ⟨r, h1, h2, h3, by omega⟩
section
variable (P : List S29) (ds : List Int) (hd : ∀ v ∈ ds, 1 ≤ v ∧ v ≤ 20000) (hl4 : ds.length ≤ 4) (he : ds.length % 2 = 0) (hP : P.length ≤ 400000)
theorem s2_done (k : Nat) (kk left : Int) (xs : List S29) (ys : List (List S29)) : impl_DashOf.s2 (k + 1) P ds ((P.length : Nat) : Int) kk left xs ys = some (kk, left, xs, ys) := by
  rw [impl_DashOf.s2, if_neg (by omega)]
theorem line_done (k kk : Nat) (left : Int) (xs : List S29) (zs : List (List S29)) (b : zs.length < 5864062014805) : spec_l09Line.l0 (k + 1) P ds zs xs ((P.length : Nat) : Int) (kk : Int) left = some (if kk % 2 = 0 then zs ++ [xs] else zs) := by
  rw [spec_l09Line.l0, if_neg (by omega)]
  by_cases hp : kk % 2 = 0
  · rw [if_pos (tm_even hp), if_pos b, if_pos hp]
  · rw [if_neg (tm_odd hp), if_neg hp]
include hP in
theorem s2_next (k i : Nat) (kk left : Int) (xs : List S29) (ys : List (List S29)) (h1 : 1 ≤ i) (hi : i < P.length) : impl_DashOf.s2 (k + 1) P ds (i : Int) kk left xs ys = (impl_dasher_piece.f k ds (rd_T29 P ((i - 1 : Nat) : Int)).f0 (rd_T29 P ((i - 1 : Nat) : Int)).f1 (rd_T29 P (i : Int)).f0 (rd_T29 P (i : Int)).f1 kk left xs ys).bind fun q => impl_DashOf.s2 k P ds ((i + 1 : Nat) : Int) q.1 q.2.1 q.2.2.1 q.2.2.2 := by
  rw [impl_DashOf.s2, w64 (x := (i : Int) - 1) (by omega) (by omega), show (i : Int) - 1 = ((i - 1 : Nat) : Int) by omega, if_pos (by omega), if_pos (by omega), if_pos (by omega), if_pos (by omega), step64 hi (by omega)]
include hP in
theorem line_next (k i : Nat) (kk left : Int) (xs : List S29) (zs : List (List S29)) (h1 : 1 ≤ i) (hi : i < P.length) : spec_l09Line.l0 (k + 1) P ds zs xs (i : Int) kk left = (spec_LengthOf.f k (rd_T29 P ((i - 1 : Nat) : Int)).f0 (rd_T29 P ((i - 1 : Nat) : Int)).f1 (rd_T29 P (i : Int)).f0 (rd_T29 P (i : Int)).f1).bind fun n => spec_l09Line.l1 k P ds zs xs (i : Int) n 0 kk left (rd_T29 P ((i - 1 : Nat) : Int)).f0 (rd_T29 P ((i - 1 : Nat) : Int)).f1 (rd_T29 P (i : Int)).f0 (rd_T29 P (i : Int)).f1 := by
  rw [spec_l09Line.l0, w64 (x := (i : Int) - 1) (by omega) (by omega), show (i : Int) - 1 = ((i - 1 : Nat) : Int) by omega, if_pos (by omega), if_pos (by omega), if_pos (by omega), if_pos (by omega)]
include hP in
theorem line_zero (k i : Nat) (kk left ax ay bx by_ : Int) (xs : List S29) (zs : List (List S29)) (hi : i < P.length) (hl : 0 ≤ left ∧ left ≤ 20000) : spec_l09Line.l1 (k + 1) P ds zs xs (i : Int) 0 0 kk left ax ay bx by_ = spec_l09Line.l0 k P ds zs xs ((i + 1 : Nat) : Int) kk left := by
  rw [spec_l09Line.l1, w64 (x := 0 - 0) (by omega) (by omega), if_neg (by omega), if_neg (by omega), step64 hi (by omega), show left - (0 - 0) = left by omega, w64 (x := left) (by omega) (by omega)]
include hd hl4 he hP
theorem line_l : ∀ (d i kk : Nat) (left Q : Int) (xs : List S29) (zs : List (List S29)), i + d = P.length → 1 ≤ i → 0 ≤ Q → Q ≤ ((i : Int) - 1) * 23726566 → DI ds (Q + left) kk left xs zs i →
    ∃ (kk' : Nat) (left' : Int) (xs' : List S29) (zs' : List (List S29)), Ev (fun k => impl_DashOf.s2 k P ds (i : Int) (kk : Int) left xs (fil zs)) ((kk' : Int), left', xs', fil zs') ∧ (zs'.length < 5864062014805 ∧ xs'.length ≤ 1048576 ∧ totP zs' + xs'.length ≤ 2 * zs'.length + 400001 ∧ ∀ v ∈ zs', v.length ≤ 1048576) ∧ (¬ kk' % 2 = 0 → xs' = []) ∧ Ev (fun k => spec_l09Line.l0 k P ds zs xs (i : Int) (kk : Int) left) (if kk' % 2 = 0 then zs' ++ [xs'] else zs') := by
  intro d
  induction d with
  | zero =>
    intro i kk left Q xs zs hi h1 hQ hQ2 h
    obtain rfl : i = P.length := by omega
    have hl := h.l
    have hz := h.z
    have b : zs.length < 5864062014805 := by omega
    exact ⟨kk, left, xs, zs, ev_done (fun k => s2_done P ds k _ _ _ _), ⟨b, by have := h.x; omega, by have := h.t; omega, h.w⟩, h.o, ev_done (fun k => line_done P ds k kk left xs zs b)⟩
  | succ d ih =>
    intro i kk left Q xs zs hi h1 hQ hQ2 h
    have hi2 : i < P.length := by omega
    have hl := h.l
    obtain ⟨n, n1, n2, n3, n4⟩ := LengthOf_b (rd_T29 P ((i - 1 : Nat) : Int)).f0 (rd_T29 P ((i - 1 : Nat) : Int)).f1 (rd_T29 P (i : Int)).f0 (rd_T29 P (i : Int)).f1
    by_cases hn : n = 0
    · subst hn
      obtain ⟨kk', left', xs', zs', e1, e2, e3, e4⟩ := ih (i + 1) kk left Q xs zs (by omega) (by omega) hQ (by omega) ⟨h.l, h.hk, h.o, by have := h.x; omega, h.z, h.w, by have := h.t; omega⟩
      refine ⟨kk', left', xs', zs', Ev.step (fun k => s2_next P ds hP k i _ _ _ _ h1 hi2) (Ev.bind (a := ((kk : Int), left, xs, fil zs)) ?_ e1), e2, e3, Ev.step (fun k => line_next P ds hP k i _ _ _ _ h1 hi2) (Ev.bind n1 (Ev.step (fun k => line_zero P ds hP k i _ _ _ _ _ _ _ _ hi2 hl) e4))⟩
      unfold impl_dasher_piece.f
      refine Ev.bind n2 ?_
      exact Ev.congr (fun k => if_pos rfl) (Ev.now _)
    · obtain ⟨k1, left1, xs1, zs1, p1, p2, p3⟩ := piece_l P ds hd hl4 he (rd_T29 P ((i - 1 : Nat) : Int)).f0 (rd_T29 P ((i - 1 : Nat) : Int)).f1 (rd_T29 P (i : Int)).f0 (rd_T29 P (i : Int)).f1 n Q i h1 (by omega) hi2 (by omega) (by omega) hQ (by omega) n.toNat 0 kk left xs zs (by omega) (by omega) (by omega) (by rw [Int.add_zero]; exact h)
      obtain ⟨kk', left', xs', zs', e1, e2, e3, e4⟩ := ih (i + 1) k1 left1 (Q + n) xs1 zs1 (by omega) (by omega) (by omega) (by omega) p2
      refine ⟨kk', left', xs', zs', Ev.step (fun k => s2_next P ds hP k i _ _ _ _ h1 hi2) (Ev.bind (a := ((k1 : Int), left1, xs1, fil zs1)) ?_ e1), e2, e3, Ev.step (fun k => line_next P ds hP k i _ _ _ _ h1 hi2) (Ev.bind n1 (p3 _ e4))⟩
      unfold impl_dasher_piece.f
      refine Ev.bind n2 ?_
      exact Ev.congr (fun k => if_neg hn) p1
end
theorem beg_l1 (ds : List Int) (hd : ∀ v ∈ ds, 1 ≤ v ∧ v ≤ 20000) (hl : ds.length ≤ 4) (k : Nat) (t : Int) (hk : k < ds.length) (h1 : preS ds k ≤ t) (h2 : t < preS ds (k + 1)) : ∀ (d j : Nat), j + d = k → Ev (fun q => spec_l09Begin.l1 q ds (t - preS ds j) (j : Int)) ((k : Int), preS ds (k + 1) - t) := by
  have hp : ∀ v ∈ ds, 1 ≤ v := fun v hv => (hd v hv).1
  have e := preS_succ ds k hk
  have u1 := preS_up ds hd (k + 1)
  have u2 := preS_le ds hp k
  intro d
  induction d with
  | zero =>
    intro j hj
    obtain rfl : j = k := by omega
    refine ev_done (fun q => ?_)
    rw [spec_l09Begin.l1, if_pos (by omega), if_pos (by omega), rd_int _ _ hk, if_neg (by omega), show ds[j] - (t - preS ds j) = preS ds (j + 1) - t by omega, w64 (by omega) (by omega)]
  | succ d ih =>
    intro j hj
    have hj2 : j < ds.length := by omega
    have e2 := preS_succ ds j hj2
    have m := preS_mono ds hp (j + 1) k (by omega)
    have z := preS_le ds hp j
    have z2 := preS_le ds hp (j + 1)
    refine Ev.step (fun q => ?_) (ih (j + 1) (by omega))
    rw [spec_l09Begin.l1, if_pos (by omega), if_pos (by omega), rd_int _ _ hj2, if_pos (by omega), step64 hj2 (by omega), show t - preS ds j - ds[j] = t - preS ds (j + 1) by omega, w64 (by omega) (by omega)]
theorem beg_l0 (ds : List Int) (hd : ∀ v ∈ ds, 1 ≤ v ∧ v ≤ 20000) (hl : ds.length ≤ 4) (ph : Int) (r : Int × Int) (hs : ¬ preS ds ds.length = 0) (hr : Ev (fun q => spec_l09Begin.l1 q ds (Int.tmod ph (preS ds ds.length)) 0) r) : ∀ (d i : Nat), i + d = ds.length → Ev (fun k => spec_l09Begin.l0 k ds ph (preS ds i) (i : Int)) r := by
  intro d
  induction d with
  | zero =>
    intro i hi
    obtain rfl : i = ds.length := by omega
    refine Ev.step (fun k => ?_) hr
    rw [spec_l09Begin.l0, if_neg (by omega), if_neg hs]
  | succ d ih =>
    intro i hi
    have hi2 : i < ds.length := by omega
    have h0 := preS_le ds (fun v hv => (hd v hv).1) (i + 1)
    have h1 := preS_up ds hd (i + 1)
    have e := preS_succ ds i hi2
    refine Ev.step (fun k => ?_) (ih (i + 1) (by omega))
    rw [spec_l09Begin.l0, if_pos (by omega), if_pos (by omega), rd_int _ _ hi2, step64 hi2 (by omega), ← e, w64 (by omega) (by omega)]
theorem fil_l (Z : List (List S29)) (hZ : Z.length ≤ 5864062014805) : ∀ (d i : Nat) (Y : List (List S29)), i + d = Z.length → Y.length ≤ i → Ev (fun k => spec_DashOf.l1 k Z Y (i : Int)) (Y ++ fil (Z.drop i)) := by
  intro d
  induction d with
  | zero =>
    intro i Y hi hY
    refine ev_done (fun k => ?_)
    rw [spec_DashOf.l1, if_neg (by omega), List.drop_of_length_le (by omega)]
    simp [fil]
  | succ d ih =>
    intro i Y hi hY
    have hi2 : i < Z.length := by omega
    rw [List.drop_eq_getElem_cons hi2]
    by_cases hv : Z[i].length > 1
    · have e : Y ++ fil (Z[i] :: Z.drop (i + 1)) = (Y ++ [Z[i]]) ++ fil (Z.drop (i + 1)) := by
        unfold fil
        rw [List.filter_cons_of_pos (by simpa using hv), List.append_assoc]
        rfl
      rw [e]
      refine Ev.step (fun k => ?_) (ih (i + 1) (Y ++ [Z[i]]) (by omega) (by rw [List.length_append]; simp; omega))
      rw [spec_DashOf.l1, if_pos (by omega), if_pos (by omega), rd_impl_PointSS _ _ hi2, if_pos (by omega), if_pos (by omega), step64 hi2 (by omega)]
    · have e : Y ++ fil (Z[i] :: Z.drop (i + 1)) = Y ++ fil (Z.drop (i + 1)) := by
        unfold fil
        rw [List.filter_cons_of_neg (by simpa using hv)]
      rw [e]
      refine Ev.step (fun k => ?_) (ih (i + 1) Y (by omega) (by omega))
      rw [spec_DashOf.l1, if_pos (by omega), if_pos (by omega), rd_impl_PointSS _ _ hi2, if_neg (by omega), step64 hi2 (by omega)]
/-- With dashes and a line that are right, both give one answer for every phase with the same rest; each stretch has two points or more. -/
theorem Dash_main (P : List S29) (ds : List Int) (hd : ∀ v ∈ ds, 1 ≤ v ∧ v ≤ 20000) (hl4 : ds.length ≤ 4) (he : ds.length % 2 = 0) (hne : 0 < ds.length) (hP : P.length ≤ 400000) (hP2 : 2 ≤ P.length) (t : Int) (ht : 0 ≤ t) (ht2 : t < preS ds ds.length) :
    ∃ r : List (List S29), (∀ v ∈ r, 1 < v.length ∧ v.length ≤ 1048576) ∧ (r.length ≤ 5864062014805 ∧ totP r ≤ 12000000000000) ∧ ∀ ph, Int.tmod ph (preS ds ds.length) = t → Ev (fun k => impl_DashOf.m k P ds ph) r ∧ Ev (fun k => (spec_l09Line.f k P ds ph).bind fun z => spec_DashOf.l1 k z ([] : List (List S29)) 0) r := by
  have hp : ∀ v ∈ ds, 1 ≤ v := fun v hv => (hd v hv).1
  obtain ⟨s1, s2, s3⟩ := seek_spec ds t ht ht2
  generalize seekK ds t = c at s1 s2 s3
  have e := preS_succ ds c s1
  have u0 := preS_le ds hp c
  have hv := hd _ (List.getElem_mem s1)
  have up := preS_up ds hd (c + 1)
  have hx : (if c % 2 = 0 then [(⟨(rd_T29 P 0).f0, (rd_T29 P 0).f1⟩ : S29)] else []).length ≤ 1 := by split <;> simp
  have hx2 : totP ([] : List (List S29)) + (if c % 2 = 0 then [(⟨(rd_T29 P 0).f0, (rd_T29 P 0).f1⟩ : S29)] else []).length + c % 2 ≤ 2 * ([] : List (List S29)).length + 1 + 1 := by
    split <;> simp [totP] <;> omega
  obtain ⟨kk', left', xs', zs', e1, ⟨e2, g1, g3, g2⟩, e3, e4⟩ := line_l P ds hd hl4 he hP (P.length - 1) 1 c (preS ds (c + 1) - t) 0 (if c % 2 = 0 then [(⟨(rd_T29 P 0).f0, (rd_T29 P 0).f1⟩ : S29)] else []) [] (by omega) (by omega) (by omega) (by omega) ⟨by omega, s1, fun h => if_neg h, hx, by simp; omega, by simp, hx2⟩
  have hr : (if xs'.length > 1 then fil zs' ++ [xs'] else fil zs') = fil (if kk' % 2 = 0 then zs' ++ [xs'] else zs') := by
    by_cases hk : kk' % 2 = 0
    · rw [if_pos hk, fil_app]
    · rw [if_neg hk, e3 hk, if_neg (by simp)]
  have hz : (if kk' % 2 = 0 then zs' ++ [xs'] else zs').length ≤ 5864062014805 := by
    split
    · rw [List.length_append]; simp; omega
    · omega
  have hw : ∀ v ∈ (if kk' % 2 = 0 then zs' ++ [xs'] else zs'), v.length ≤ 1048576 := by
    intro v hv
    split at hv
    · rcases List.mem_append.mp hv with c | c
      · exact g2 v c
      · rw [List.mem_singleton.mp c]
        exact g1
    · exact g2 v hv
  have hw2 : totP (if kk' % 2 = 0 then zs' ++ [xs'] else zs') ≤ 12000000000000 := by
    split
    · rw [totP_app]
      simp only [totP]
      omega
    · omega
  refine ⟨fil (if kk' % 2 = 0 then zs' ++ [xs'] else zs'), fun v hv => ?_, ⟨Nat.le_trans (fil_len _) hz, Nat.le_trans (totP_fil _) hw2⟩, fun ph hph => ⟨?_, ?_⟩⟩
  · unfold fil at hv
    rw [List.mem_filter] at hv
    exact ⟨by simpa using hv.2, hw v hv.1⟩
  · unfold impl_DashOf.m
    have q0 := dash_s0 ds hd hl4 ds.length 0 (by omega)
    rw [preS_zero] at q0
    refine Ev.bind q0 ?_
    refine Ev.congr (fun k => if_neg (by omega)) ?_
    rw [hph]
    have q := dash_s1 ds hd hl4 c t s1 s2 s3 c 0 (by omega)
    rw [preS_zero, Int.sub_zero] at q
    refine Ev.bind q ?_
    refine Ev.congr (fun k => (if_pos (by omega)).trans (if_pos (by omega))) ?_
    dsimp only
    rw [rd_int _ _ s1, show ds[c] - (t - preS ds c) = preS ds (c + 1) - t by omega, w64 (by omega) (by omega), ← hr]
    have hq : Ev (fun k => (if Int.tmod (c : Int) 2 = 0 then (if 0 < (P.length : Int) then impl_DashOf.s2 k P ds 1 (c : Int) (preS ds (c + 1) - t) [(⟨(rd_T29 P 0).f0, (rd_T29 P 0).f1⟩ : S29)] [] else none) else impl_DashOf.s2 k P ds 1 (c : Int) (preS ds (c + 1) - t) [] [])) ((kk' : Int), left', xs', fil zs') := by
      refine Ev.congr (fun k => ?_) e1
      by_cases hc : c % 2 = 0
      · rw [if_pos (tm_even hc), if_pos (by omega), if_pos hc]
        rfl
      · rw [if_neg (tm_odd hc), if_neg hc]
        rfl
    refine Ev.bind hq ?_
    exact Ev.congr (fun k => if_pos (by show (fil zs').length < _; have := fil_len zs'; omega)) (Ev.now _)
  · have hb : Ev (fun k => spec_l09Begin.f k ds ph) ((c : Int), preS ds (c + 1) - t) := by
      have q := beg_l1 ds hd hl4 c t s1 s2 s3 c 0 (by omega)
      rw [preS_zero, Int.sub_zero] at q
      have q2 := beg_l0 ds hd hl4 ph _ (by omega) (by rw [hph]; exact q) ds.length 0 (by omega)
      rw [preS_zero] at q2
      exact q2
    have hL : Ev (fun k => spec_l09Line.f k P ds ph) (if kk' % 2 = 0 then zs' ++ [xs'] else zs') := by
      unfold spec_l09Line.f
      refine Ev.bind hb ?_
      simp only [Option.bind_some, List.nil_append]
      by_cases hc : c % 2 = 0
      · refine Ev.congr (fun k => (if_pos (tm_even hc)).trans ((if_pos (by omega)).trans (if_pos (by simp)))) ?_
        refine Ev.step (fun k => rfl) ?_
        rw [if_pos hc] at e4
        exact e4
      · refine Ev.congr (fun k => if_neg (tm_odd hc)) ?_
        refine Ev.step (fun k => rfl) ?_
        rw [if_neg hc] at e4
        exact e4
    refine Ev.bind hL ?_
    have q := fil_l _ hz _ 0 [] (Nat.zero_add _) (Nat.le_refl _)
    exact q
theorem pts_ok (P : List S29) (ds : List Int) (ph : Int) (r : List (List S29)) (hP : P.length ≤ 1048576) (hr : Ev (fun k => spec_DashOf.l0 k P ds ph (P.length : Int)) r) : ∀ (d i : Nat), i + d = P.length → (∀ v ∈ P.drop i, pointOkP v.f0 v.f1) → Ev (fun k => spec_DashOf.l0 k P ds ph (i : Int)) r := by
  intro d
  induction d with
  | zero =>
    intro i hi hv
    obtain rfl : i = P.length := by omega
    exact hr
  | succ d ih =>
    intro i hi hv
    have hi2 : i < P.length := by omega
    rw [List.drop_eq_getElem_cons hi2] at hv
    have h1 := hv P[i] (List.mem_cons_self ..)
    refine Ev.step (fun k => ?_) (ih (i + 1) (by omega) (fun v h => hv v (List.mem_cons_of_mem _ h)))
    rw [spec_DashOf.l0, if_pos (by omega), if_pos (by omega), rd_impl_Point _ _ hi2, spec_PointOk_v, decide_eq_true h1, Option.bind_some, if_pos rfl, step64 hi2 (by omega)]
theorem pts_bad (P : List S29) (ds : List Int) (ph : Int) (hP : P.length ≤ 1048576) : ∀ (d i : Nat), i + d = P.length → (¬ ∀ v ∈ P.drop i, pointOkP v.f0 v.f1) → Ev (fun k => spec_DashOf.l0 k P ds ph (i : Int)) [] := by
  intro d
  induction d with
  | zero =>
    intro i hi hv
    rw [List.drop_of_length_le (by omega)] at hv
    exact absurd (fun v h => absurd h (List.not_mem_nil)) hv
  | succ d ih =>
    intro i hi hv
    have hi2 : i < P.length := by omega
    rw [List.drop_eq_getElem_cons hi2] at hv
    by_cases h1 : pointOkP P[i].f0 P[i].f1
    · refine Ev.step (fun k => ?_) (ih (i + 1) (by omega) (fun hv2 => hv (fun v h => ?_)))
      · rw [spec_DashOf.l0, if_pos (by omega), if_pos (by omega), rd_impl_Point _ _ hi2, spec_PointOk_v, decide_eq_true h1, Option.bind_some, if_pos rfl, step64 hi2 (by omega)]
      · rcases List.mem_cons.mp h with rfl | h
        · exact h1
        · exact hv2 v h
    · refine ev_done (fun k => ?_)
      rw [spec_DashOf.l0, if_pos (by omega), if_pos (by omega), rd_impl_Point _ _ hi2, spec_PointOk_v, decide_eq_false h1, Option.bind_some, if_neg (by simp)]
theorem spec_fin (P : List S29) (ds : List Int) (ph : Int) (r : List (List S29)) (hne : 0 < ds.length) (hr : Ev (fun k => (spec_l09Line.f k P ds ph).bind fun z => spec_DashOf.l1 k z ([] : List (List S29)) 0) r) : Ev (fun k => spec_DashOf.l0 k P ds ph (P.length : Int)) r := by
  refine Ev.step (fun k => ?_) hr
  rw [spec_DashOf.l0, if_neg (by omega), if_neg (by omega)]
theorem spec_nil (P : List S29) (ph : Int) (hP : P.length ≤ 1048576) : Ev (fun k => spec_DashOf.l0 k P [] ph (P.length : Int)) [P] := by
  refine ev_done (fun k => ?_)
  rw [spec_DashOf.l0, if_neg (by omega), if_pos (by simp), Option.bind_some, if_pos (by simp; omega)]
  rfl
/-- What the given DashOf answers behind its first questions. -/
theorem spec_go (P : List S29) (ds : List Int) (ph : Int) (r : List (List S29)) (hd : dashOkB ds = true) (hd2 : ds.length ≤ 1048576) (hph : 0 ≤ ph ∧ ph ≤ 20000) (hP : 2 ≤ P.length) (hr : Ev (fun k => spec_DashOf.l0 k P ds ph 0) r) : Ev (fun k => spec_DashOf.f k P ds ph) r := by
  unfold spec_DashOf.f
  refine Ev.bind (spec_DashOk_v ds hd2) ?_
  refine Ev.congr (fun k => if_pos hd) ?_
  simp only [spec_l01In_v, Option.bind_some]
  refine Ev.congr (fun k => if_pos (decide_eq_true hph)) ?_
  refine Ev.step (fun k => ?_) hr
  rw [spec_DashOf.j0, if_neg (by simp; omega)]
theorem impl_go (P : List S29) (ds : List Int) (ph : Int) (r : List (List S29)) (hd : dashOkB ds = true) (hd2 : ds.length ≤ 1048576) (hph : 0 ≤ ph ∧ ph ≤ 20000) (hP : 2 ≤ P.length) (hP2 : P.length ≤ 1048576) (hok : ptsOkB P = true) (hr : Ev (fun k => if (ds.length : Int) = 0 then (if P.length < 8796093022208 then some [P] else none) else impl_DashOf.m k P ds ph) r) : Ev (fun k => impl_DashOf.f k P ds ph) r := by
  unfold impl_DashOf.f
  refine Ev.bind (impl_DashOk_v ds hd2) ?_
  refine Ev.congr (fun k => (if_pos hd).trans (if_neg (by omega))) ?_
  simp only [impl_inRange_v, Option.bind_some]
  refine Ev.congr (fun k => if_pos (decide_eq_true hph)) ?_
  refine Ev.bind (impl_pointsOk_v P hP2) ?_
  exact Ev.congr (fun k => if_pos hok) hr
theorem spec_out (P : List S29) (ds : List Int) (ph : Int) (hd2 : ds.length ≤ 1048576) (h : ¬ (dashOkB ds = true ∧ (0 ≤ ph ∧ ph ≤ 20000) ∧ 2 ≤ P.length)) : Ev (fun k => spec_DashOf.f k P ds ph) [] := by
  have e : ∀ k, spec_DashOf.j0 (k + 1) P ds ph true = some [] := fun k => by rw [spec_DashOf.j0, if_pos rfl]
  unfold spec_DashOf.f
  refine Ev.bind (spec_DashOk_v ds hd2) ?_
  simp only [spec_l01In_v, Option.bind_some]
  by_cases h1 : dashOkB ds = true
  · refine Ev.congr (fun k => if_pos h1) ?_
    by_cases h2 : 0 ≤ ph ∧ ph ≤ 20000
    · refine Ev.congr (fun k => if_pos (decide_eq_true h2)) ?_
      have h3 : (P.length : Int) < 2 := by
        by_cases h4 : 2 ≤ P.length
        · exact absurd ⟨h1, h2, h4⟩ h
        · omega
      rw [decide_eq_true h3]
      exact ev_done e
    · refine Ev.congr (fun k => if_neg (by simpa using h2)) ?_
      exact ev_done e
  · refine Ev.congr (fun k => if_neg h1) ?_
    exact ev_done e
theorem impl_out (P : List S29) (ds : List Int) (ph : Int) (hd2 : ds.length ≤ 1048576) (hP2 : P.length ≤ 1048576) (h : ¬ (dashOkB ds = true ∧ (0 ≤ ph ∧ ph ≤ 20000) ∧ 2 ≤ P.length ∧ ptsOkB P = true)) : Ev (fun k => impl_DashOf.f k P ds ph) [] := by
  unfold impl_DashOf.f
  refine Ev.bind (impl_DashOk_v ds hd2) ?_
  simp only [impl_inRange_v, Option.bind_some]
  by_cases h1 : dashOkB ds = true
  · refine Ev.congr (fun k => if_pos h1) ?_
    by_cases h3 : (P.length : Int) < 2
    · exact Ev.congr (fun k => if_pos h3) (Ev.now _)
    · refine Ev.congr (fun k => if_neg h3) ?_
      by_cases h2 : 0 ≤ ph ∧ ph ≤ 20000
      · refine Ev.congr (fun k => if_pos (decide_eq_true h2)) ?_
        refine Ev.bind (impl_pointsOk_v P hP2) ?_
        have h4 : ¬ ptsOkB P = true := fun h4 => h ⟨h1, h2, by omega, h4⟩
        exact Ev.congr (fun k => if_neg h4) (Ev.now _)
      · exact Ev.congr (fun k => if_neg (by simpa using h2)) (Ev.now _)
  · exact Ev.congr (fun k => if_neg h1) (Ev.now _)
theorem dashOk_prop {ds : List Int} (h : dashOkB ds = true) : (∀ v ∈ ds, 1 ≤ v ∧ v ≤ 20000) ∧ ds.length ≤ 4 ∧ ds.length % 2 = 0 := by
  unfold dashOkB at h
  rw [Bool.and_eq_true, Bool.and_eq_true, List.all_eq_true] at h
  exact ⟨fun v hv => of_decide_eq_true (h.1 v hv), of_decide_eq_true h.2.2, of_decide_eq_true h.2.1⟩
theorem ptsOk_prop {P : List S29} : ptsOkB P = true ↔ ∀ v ∈ P, pointOkP v.f0 v.f1 := by
  unfold ptsOkB
  rw [List.all_eq_true]
  exact ⟨fun h v hv => of_decide_eq_true (h v hv), fun h v hv => decide_eq_true (h v hv)⟩
theorem sum_pos {ds : List Int} (hd : ∀ v ∈ ds, 1 ≤ v ∧ v ≤ 20000) (hne : 0 < ds.length) : 0 < preS ds ds.length := by
  have h1 := preS_mono ds (fun v hv => (hd v hv).1) 1 ds.length (by omega)
  have h2 := preS_succ ds 0 hne
  rw [preS_zero] at h2
  have h3 := hd _ (List.getElem_mem hne)
  rw [h2] at h1
  omega
/-- For dashes and points that are right: one answer for every phase with the same rest. -/
theorem Dash_both (P : List S29) (ds : List Int) (hd : dashOkB ds = true) (hne : 0 < ds.length) (hP : P.length ≤ 400000) (hP2 : 2 ≤ P.length) (hok : ∀ v ∈ P, pointOkP v.f0 v.f1) (t : Int) (ht : 0 ≤ t) (ht2 : t < preS ds ds.length) :
    ∃ r : List (List S29), (∀ v ∈ r, 1 < v.length ∧ v.length ≤ 1048576) ∧ (r.length ≤ 5864062014805 ∧ totP r ≤ 12000000000000) ∧ ∀ ph, 0 ≤ ph ∧ ph ≤ 20000 → Int.tmod ph (preS ds ds.length) = t → Ev (fun k => impl_DashOf.f k P ds ph) r ∧ Ev (fun k => spec_DashOf.f k P ds ph) r := by
  obtain ⟨d1, d2, d3⟩ := dashOk_prop hd
  obtain ⟨r, h1, h2, h3⟩ := Dash_main P ds d1 d2 d3 hne hP hP2 t ht ht2
  refine ⟨r, h1, h2, fun ph hph he => ?_⟩
  obtain ⟨i1, s1⟩ := h3 ph he
  refine ⟨impl_go P ds ph r hd (by omega) hph hP2 (by omega) (ptsOk_prop.mpr hok) (Ev.congr (fun k => if_neg (by omega)) i1), spec_go P ds ph r hd (by omega) hph hP2 ?_⟩
  exact pts_ok P ds ph r (by omega) (spec_fin P ds ph r hne s1) P.length 0 (by omega) (fun v hv => hok v (by simpa using hv))
theorem Dash_nil (P : List S29) (ph : Int) (hph : 0 ≤ ph ∧ ph ≤ 20000) (hP : P.length ≤ 1048576) (hP2 : 2 ≤ P.length) (hok : ∀ v ∈ P, pointOkP v.f0 v.f1) : Ev (fun k => impl_DashOf.f k P [] ph) [P] ∧ Ev (fun k => spec_DashOf.f k P [] ph) [P] := by
  refine ⟨impl_go P [] ph _ rfl (by simp) hph hP2 hP (ptsOk_prop.mpr hok) (Ev.congr (fun k => (if_pos rfl).trans (if_pos (by omega))) (Ev.now _)), spec_go P [] ph _ rfl (by simp) hph hP2 ?_⟩
  exact pts_ok P [] ph _ hP (spec_nil P ph hP) P.length 0 (by omega) (fun v hv => hok v (by simpa using hv))
theorem DashOf_v (P : List S29) (ds : List Int) (ph : Int) (hP : P.length ≤ 400000) (hd2 : ds.length ≤ 1048576) : ∃ r, Ev (fun k => spec_DashOf.f k P ds ph) r ∧ Ev (fun k => impl_DashOf.f k P ds ph) r ∧ (∀ v ∈ r, v.length ≤ 1048576) ∧ r.length ≤ 5864062014805 ∧ totP r ≤ 12000000000000 := by
  by_cases h : dashOkB ds = true ∧ (0 ≤ ph ∧ ph ≤ 20000) ∧ 2 ≤ P.length
  · obtain ⟨h1, h2, h3⟩ := h
    by_cases hok : ∀ v ∈ P, pointOkP v.f0 v.f1
    · by_cases hne : ds = []
      · subst hne
        obtain ⟨a, b⟩ := Dash_nil P ph h2 (by omega) h3 hok
        exact ⟨[P], b, a, by simp; omega, by simp, by simp only [totP]; omega⟩
      · have hl := List.length_pos_iff.mpr hne
        have sp := sum_pos (dashOk_prop h1).1 hl
        obtain ⟨r, r1, r2, r3⟩ := Dash_both P ds h1 hl hP h3 hok (Int.tmod ph (preS ds ds.length)) (Int.tmod_nonneg _ h2.1) (Int.tmod_lt_of_pos _ sp)
        obtain ⟨a, b⟩ := r3 ph h2 rfl
        exact ⟨r, b, a, fun v hv => (r1 v hv).2, r2⟩
    · refine ⟨[], spec_go P ds ph _ h1 hd2 h2 h3 (pts_bad P ds ph (by omega) P.length 0 (by omega) (by simpa using hok)), impl_out P ds ph hd2 (by omega) (fun h => hok (ptsOk_prop.mp h.2.2.2)), by simp, by simp, by simp [totP]⟩
  · exact ⟨[], spec_out P ds ph hd2 h, impl_out P ds ph hd2 (by omega) (fun h2 => h ⟨h2.1, h2.2.1, h2.2.2.1⟩), by simp, by simp, by simp [totP]⟩

/-! laws_eqPointS -/
theorem laws_eqPointS_l (x0 : List S29) (hn : x0.length ≤ 1048576) : ∀ (d i : Nat), i + d = x0.length → Ev (fun k => laws_eqPointS.l0 k x0 x0 (i : Int)) true := by
  intro d
  induction d with
  | zero =>
    intro i hi
    refine ev_done (fun k => ?_)
    simp only [laws_eqPointS.l0]
    rw [if_neg (by omega)]
  | succ d ih =>
    intro i hi
    have hi2 : i < x0.length := by omega
    refine Ev.step (fun k => ?_) (ih (i + 1) (by omega))
    simp only [laws_eqPointS.l0, laws_eqPoint.f]
    rw [if_pos (by omega), if_pos (by omega), if_pos (by omega), step64 hi2 (by omega)]
    simp
theorem laws_eqPointS_v (x0 : List S29) (hn : x0.length ≤ 1048576) : Ev (fun k => laws_eqPointS.f k x0 x0) true := by
  refine Ev.congr (fun k => ?_) (laws_eqPointS_l x0 hn x0.length 0 (by omega))
  unfold laws_eqPointS.f
  rw [if_pos rfl]
  rfl

/-! markSS -/
theorem eqSS_l (x0 : List (List S29)) (hn : x0.length ≤ 4194304) (hm : ∀ x ∈ x0, x.length ≤ 1048576) : ∀ (d i : Nat), i + d = x0.length → Ev (fun k => laws_eqPointSS.l0 k x0 x0 (i : Int)) true := by
  intro d
  induction d with
  | zero =>
    intro i hi
    refine ev_done (fun k => ?_)
    simp only [laws_eqPointSS.l0]
    rw [if_neg (by omega)]
  | succ d ih =>
    intro i hi
    have hi2 : i < x0.length := by omega
    refine Ev.step (f := fun k => (laws_eqPointS.f k x0[i] x0[i]).bind fun t => if t = true then laws_eqPointSS.l0 k x0 x0 ((i + 1 : Nat) : Int) else some false) (fun k => ?_) (Ev.bind (laws_eqPointS_v _ (hm _ (List.getElem_mem hi2))) ?_)
    · simp only [laws_eqPointSS.l0]
      rw [if_pos (by omega), if_pos (by omega), if_pos (by omega), step64 hi2 (by omega), rd_impl_PointSS _ _ hi2]
    · simp only [if_true]
      exact ih (i + 1) (by omega)
theorem eqSS_v (x0 : List (List S29)) (hn : x0.length ≤ 4194304) (hm : ∀ x ∈ x0, x.length ≤ 1048576) : Ev (fun k => laws_eqPointSS.f k x0 x0) true := by
  refine Ev.congr (fun k => ?_) (eqSS_l x0 hn hm x0.length 0 (by omega))
  unfold laws_eqPointSS.f
  rw [if_pos rfl]
  rfl
theorem take_get {α : Type} {R x : List α} {i : Nat} (h : R.take (i + 1) = x.take (i + 1)) (hR : i < R.length) (hx : i < x.length) : R[i] = x[i] := by
  have h1 : (R.take (i + 1))[i]? = R[i]? := by rw [List.getElem?_take_of_lt (by omega)]
  have h2 : (x.take (i + 1))[i]? = x[i]? := by rw [List.getElem?_take_of_lt (by omega)]
  rw [h, h2, List.getElem?_eq_getElem hx, List.getElem?_eq_getElem hR] at h1
  exact (Option.some.inj h1).symm
theorem take_less {α : Type} {R x : List α} {i : Nat} (h : R.take (i + 1) = x.take (i + 1)) : R.take i = x.take i := by
  have := congrArg (List.take i) h
  rwa [List.take_take, List.take_take, Nat.min_eq_left (by omega)] at this
theorem markS_l : ∀ (d i : Nat) (x0 : List S29) (z : Int), i + d = x0.length → x0.length ≤ 1048576 → 0 ≤ z → z + 2 * d ≤ 1152921504606846976 → ∃ R : List S29, R.length = x0.length ∧ R.take i = x0.take i ∧ Ev (fun k => laws_markPointS.l0 k x0 z (i : Int)) (z + 2 * (d : Int), R) ∧ Ev (fun k => laws_heldPointS.l0 k R z (i : Int)) (z + 2 * (d : Int)) := by
  intro d
  induction d with
  | zero =>
    intro i x0 z hi _ _ _
    refine ⟨x0, rfl, rfl, ev_done (fun k => ?_), ev_done (fun k => ?_)⟩
    · simp only [laws_markPointS.l0]
      rw [if_neg (by omega)]
      simp
    · simp only [laws_heldPointS.l0]
      rw [if_neg (by omega)]
      simp
  | succ d ih =>
    intro i x0 z hi hn h0 h1
    have hi2 : i < x0.length := by omega
    have e1 : wrap64 (z + 1) = z + 1 := w64 (by omega) (by omega)
    have e2 : wrap64 (z + 1 + 1) = z + 2 := by rw [w64 (by omega) (by omega)]; omega
    have e3 : z + 2 * ((d + 1 : Nat) : Int) = z + 2 + 2 * (d : Int) := by omega
    have ea : (rd_T29 (x0.set i ⟨z, (rd_T29 x0 (i : Int)).f1⟩) (i : Int)).f0 = z := by
      rw [rd_impl_Point _ i (by simpa using hi2)]
      simp
    obtain ⟨R, hl, ht, hM, hH⟩ := ih (i + 1) ((x0.set i ⟨z, (rd_T29 x0 (i : Int)).f1⟩).set i ⟨(rd_T29 (x0.set i ⟨z, (rd_T29 x0 (i : Int)).f1⟩) (i : Int)).f0, z + 1⟩) (z + 2) (by simp; omega) (by simpa using hn) (by omega) (by omega)
    have hl2 : R.length = x0.length := by simpa using hl
    have hR : R[i]'(by omega) = ⟨z, z + 1⟩ := by
      rw [take_get ht (by omega) (by simpa using hi2), ea]
      simp
    refine ⟨R, hl2, ?_, ?_, ?_⟩
    · rw [take_less ht, List.take_set_of_le (by omega), List.take_set_of_le (by omega)]
    · rw [e3]
      refine Ev.step (fun k => ?_) hM
      simp only [laws_markPointS.l0]
      rw [if_pos (by omega), if_pos (by omega), Option.bind_some, e1, e2, step64 hi2 (by omega)]
      rfl
    · rw [e3]
      refine Ev.step (fun k => ?_) hH
      simp only [laws_heldPointS.l0, rd_impl_Point R i (by omega), hR, if_true]
      rw [if_pos (by omega), if_pos (by omega), e1, if_pos rfl, e2, step64 hi2 (by omega)]
theorem markSS_l : ∀ (d i : Nat) (x0 : List (List S29)) (z : Int), i + d = x0.length → x0.length ≤ 4194304 → (∀ (j : Nat) (h : j < x0.length), i ≤ j → x0[j].length ≤ 1048576) → 0 ≤ z → z + 2097152 * d ≤ 1152921504606846976 →
    ∃ (K : Int) (R : List (List S29)), R.length = x0.length ∧ R.take i = x0.take i ∧ Ev (fun k => laws_markPointSS.l0 k x0 z (i : Int)) (K, R) ∧ 0 ≤ K ∧ Ev (fun k => laws_heldPointSS.l0 k R z (i : Int)) K := by
  intro d
  induction d with
  | zero =>
    intro i x0 z hi _ _ h0 _
    refine ⟨z, x0, rfl, rfl, ev_done (fun k => ?_), h0, ev_done (fun k => ?_)⟩
    · simp only [laws_markPointSS.l0]
      rw [if_neg (by omega)]
    · simp only [laws_heldPointSS.l0]
      rw [if_neg (by omega)]
  | succ d ih =>
    intro i x0 z hi hn hm h0 h1
    have hi2 : i < x0.length := by omega
    have hl := hm i hi2 (Nat.le_refl _)
    obtain ⟨S, _, _, hM, hH⟩ := markS_l x0[i].length 0 x0[i] z (by omega) hl h0 (by omega)
    obtain ⟨K, R, hRl, hRt, hMs, hK, hHs⟩ := ih (i + 1) (x0.set i S) (z + 2 * (x0[i].length : Int)) (by simp; omega) (by simpa using hn) (fun j hj hij => by
      rw [List.getElem_set_ne (by omega)]
      exact hm j (by simpa using hj) (by omega)) (by omega) (by omega)
    have hl2 : R.length = x0.length := by simpa using hRl
    have hR : R[i]'(by omega) = S := by
      rw [take_get hRt (by omega) (by simpa using hi2)]
      simp
    refine ⟨K, R, hl2, ?_, ?_, hK, ?_⟩
    · rw [take_less hRt, List.take_set_of_le (by omega)]
    · refine Ev.step (f := fun k => (laws_markPointS.f k x0[i] z).bind fun bt => laws_markPointSS.l0 k (x0.set i bt.2) bt.1 ((i + 1 : Nat) : Int)) (fun k => ?_) (Ev.bind hM hMs)
      simp only [laws_markPointSS.l0]
      rw [if_pos (by omega), if_pos (by omega), rd_impl_PointSS _ _ hi2, step64 hi2 (by omega)]
      rfl
    · refine Ev.step (f := fun k => (laws_heldPointS.f k S z).bind fun t => if t < 0 then some (-1) else laws_heldPointSS.l0 k R t ((i + 1 : Nat) : Int)) (fun k => ?_) (Ev.bind hH ?_)
      · simp only [laws_heldPointSS.l0, rd_impl_PointSS R i (by omega), hR]
        rw [if_pos (by omega), if_pos (by omega), step64 (n := R.length) (by omega) (by omega)]
      · simp only [if_neg (show ¬ (z + 2 * (x0[i].length : Int) < 0) by omega)]
        exact hHs

/-! markBig -/
theorem eqBB_l (x0 : List (List S29)) (hn : x0.length ≤ 4611686018427387904) (hm : ∀ x ∈ x0, x.length ≤ 1048576) : ∀ (d i : Nat), i + d = x0.length → Ev (fun k => laws_eqPointSS.l0 k x0 x0 (i : Int)) true := by
  intro d
  induction d with
  | zero =>
    intro i hi
    refine ev_done (fun k => ?_)
    simp only [laws_eqPointSS.l0]
    rw [if_neg (by omega)]
  | succ d ih =>
    intro i hi
    have hi2 : i < x0.length := by omega
    refine Ev.step (f := fun k => (laws_eqPointS.f k x0[i] x0[i]).bind fun t => if t = true then laws_eqPointSS.l0 k x0 x0 ((i + 1 : Nat) : Int) else some false) (fun k => ?_) (Ev.bind (laws_eqPointS_v _ (hm _ (List.getElem_mem hi2))) ?_)
    · simp only [laws_eqPointSS.l0]
      rw [if_pos (by omega), if_pos (by omega), if_pos (by omega), step64 hi2 (by omega), rd_impl_PointSS _ _ hi2]
    · simp only [if_true]
      exact ih (i + 1) (by omega)
theorem eqBB_v (x0 : List (List S29)) (hn : x0.length ≤ 4611686018427387904) (hm : ∀ x ∈ x0, x.length ≤ 1048576) : Ev (fun k => laws_eqPointSS.f k x0 x0) true := by
  refine Ev.congr (fun k => ?_) (eqBB_l x0 hn hm x0.length 0 (by omega))
  unfold laws_eqPointSS.f
  rw [if_pos rfl]
  rfl
theorem markBB_l : ∀ (d i : Nat) (x0 : List (List S29)) (z : Int), i + d = x0.length → x0.length ≤ 4611686018427387904 → (∀ (j : Nat) (h : j < x0.length), i ≤ j → x0[j].length ≤ 1048576) → 0 ≤ z → z + 2 * (totP (x0.drop i) : Int) ≤ 1152921504606846976 →
    ∃ (K : Int) (R : List (List S29)), R.length = x0.length ∧ R.take i = x0.take i ∧ Ev (fun k => laws_markPointSS.l0 k x0 z (i : Int)) (K, R) ∧ 0 ≤ K ∧ Ev (fun k => laws_heldPointSS.l0 k R z (i : Int)) K := by
  intro d
  induction d with
  | zero =>
    intro i x0 z hi _ _ h0 _
    refine ⟨z, x0, rfl, rfl, ev_done (fun k => ?_), h0, ev_done (fun k => ?_)⟩
    · simp only [laws_markPointSS.l0]
      rw [if_neg (by omega)]
    · simp only [laws_heldPointSS.l0]
      rw [if_neg (by omega)]
  | succ d ih =>
    intro i x0 z hi hn hm h0 h1
    have hi2 : i < x0.length := by omega
    have hl := hm i hi2 (Nat.le_refl _)
    rw [List.drop_eq_getElem_cons hi2, totP] at h1
    obtain ⟨S, _, _, hM, hH⟩ := markS_l x0[i].length 0 x0[i] z (by omega) hl h0 (by omega)
    obtain ⟨K, R, hRl, hRt, hMs, hK, hHs⟩ := ih (i + 1) (x0.set i S) (z + 2 * (x0[i].length : Int)) (by simp; omega) (by simpa using hn) (fun j hj hij => by
      rw [List.getElem_set_ne (by omega)]
      exact hm j (by simpa using hj) (by omega)) (by omega) (by rw [List.drop_set_of_lt (by omega)]; omega)
    have hl2 : R.length = x0.length := by simpa using hRl
    have hR : R[i]'(by omega) = S := by
      rw [take_get hRt (by omega) (by simpa using hi2)]
      simp
    refine ⟨K, R, hl2, ?_, ?_, hK, ?_⟩
    · rw [take_less hRt, List.take_set_of_le (by omega)]
    · refine Ev.step (f := fun k => (laws_markPointS.f k x0[i] z).bind fun bt => laws_markPointSS.l0 k (x0.set i bt.2) bt.1 ((i + 1 : Nat) : Int)) (fun k => ?_) (Ev.bind hM hMs)
      simp only [laws_markPointSS.l0]
      rw [if_pos (by omega), if_pos (by omega), rd_impl_PointSS _ _ hi2, step64 hi2 (by omega)]
      rfl
    · refine Ev.step (f := fun k => (laws_heldPointS.f k S z).bind fun t => if t < 0 then some (-1) else laws_heldPointSS.l0 k R t ((i + 1 : Nat) : Int)) (fun k => ?_) (Ev.bind hH ?_)
      · simp only [laws_heldPointSS.l0, rd_impl_PointSS R i (by omega), hR]
        rw [if_pos (by omega), if_pos (by omega), step64 (n := R.length) (by omega) (by omega)]
      · simp only [if_neg (show ¬ (z + 2 * (x0[i].length : Int) < 0) by omega)]
        exact hHs

/-! laws_toIntS -/
def convInt (x : Int) : Int := x
theorem laws_toIntS_l (x0 : List Int) (hn : x0.length ≤ 1048576) : ∀ (d i : Nat) (x3 : List Int), x3.length = x0.length → i + d = x0.length →
    Ev (fun k => laws_toIntS.l0 k x0 x3 (i : Int)) (x3.take i ++ (x0.drop i).map convInt) := by
  intro d
  induction d with
  | zero =>
    intro i x3 hl hi
    refine ev_done (fun k => ?_)
    simp only [laws_toIntS.l0]
    rw [if_neg (by omega), List.take_of_length_le (by omega), List.drop_of_length_le (by omega)]
    simp
  | succ d ih =>
    intro i x3 hl hi
    have hi2 : i < x0.length := by omega
    refine Ev.step (f := fun k => laws_toIntS.l0 k x0 (x3.set i (convInt x0[i])) ((i + 1 : Nat) : Int)) (fun k => ?_) ?_
    · simp only [laws_toIntS.l0]
      rw [if_pos (by omega), if_pos (by omega), step64 hi2 (by omega), rd_int _ _ hi2]
      rw [if_pos (by omega)]
      rfl
    · have h := ih (i + 1) (x3.set i (convInt x0[i])) (by simpa using hl) (by omega)
      rw [take_set_succ _ _ _ (by omega)] at h
      rw [List.drop_eq_getElem_cons hi2]
      rw [List.append_assoc] at h
      exact h
theorem laws_toIntS_v (x0 : List Int) (hn : x0.length ≤ 1048576) : Ev (fun k => laws_toIntS.f k x0) (x0.map convInt) := by
  have h := laws_toIntS_l x0 hn x0.length 0 (List.replicate x0.length 0) (by simp) (by omega)
  refine Ev.congr (fun k => ?_) (by simpa using h)
  unfold laws_toIntS.f
  rw [if_pos (by omega), if_pos (by omega)]
  simp
theorem laws_toIntS_w (x0 : List Int) (hn : x0.length ≤ 1048576) : Ev (fun k => laws_toIntS.f k x0) x0 := by
  have h := laws_toIntS_v x0 hn
  rw [show x0.map convInt = x0 from (List.map_congr_left (fun _ _ => rfl)).trans (List.map_id x0)] at h
  exact h

/-! rd_laws_Point -/
theorem rd_laws_Point (xs : List S89) (i : Nat) (h : i < xs.length) : rd_T89 xs (i : Int) = xs[i] := by
  unfold rd_T89
  simp [h]

/-! laws_toPointS -/
def convPoint (x : S89) : S29 := ⟨x.f0, x.f1⟩
theorem laws_toPointS_l (x0 : List S89) (hn : x0.length ≤ 1048576) : ∀ (d i : Nat) (x3 : List S29), x3.length = x0.length → i + d = x0.length →
    Ev (fun k => laws_toPointS.l0 k x0 x3 (i : Int)) (x3.take i ++ (x0.drop i).map convPoint) := by
  intro d
  induction d with
  | zero =>
    intro i x3 hl hi
    refine ev_done (fun k => ?_)
    simp only [laws_toPointS.l0]
    rw [if_neg (by omega), List.take_of_length_le (by omega), List.drop_of_length_le (by omega)]
    simp
  | succ d ih =>
    intro i x3 hl hi
    have hi2 : i < x0.length := by omega
    refine Ev.step (f := fun k => laws_toPointS.l0 k x0 (x3.set i (convPoint x0[i])) ((i + 1 : Nat) : Int)) (fun k => ?_) ?_
    · simp only [laws_toPointS.l0, laws_toPoint.f, Option.bind_some]
      rw [if_pos (by omega), if_pos (by omega), step64 hi2 (by omega), rd_laws_Point _ _ hi2]
      rw [if_pos (by omega)]
      rfl
    · have h := ih (i + 1) (x3.set i (convPoint x0[i])) (by simpa using hl) (by omega)
      rw [take_set_succ _ _ _ (by omega)] at h
      rw [List.drop_eq_getElem_cons hi2]
      rw [List.append_assoc] at h
      exact h
theorem laws_toPointS_v (x0 : List S89) (hn : x0.length ≤ 1048576) : Ev (fun k => laws_toPointS.f k x0) (x0.map convPoint) := by
  have h := laws_toPointS_l x0 hn x0.length 0 (List.replicate x0.length z29) (by simp) (by omega)
  refine Ev.congr (fun k => ?_) (by simpa using h)
  unfold laws_toPointS.f
  rw [if_pos (by omega), if_pos (by omega)]
  simp

/-! laws_eqIntS -/
theorem laws_eqIntS_l (x0 : List Int) (hn : x0.length ≤ 1048576) : ∀ (d i : Nat), i + d = x0.length → Ev (fun k => laws_eqIntS.l0 k x0 x0 (i : Int)) true := by
  intro d
  induction d with
  | zero =>
    intro i hi
    refine ev_done (fun k => ?_)
    simp only [laws_eqIntS.l0]
    rw [if_neg (by omega)]
  | succ d ih =>
    intro i hi
    have hi2 : i < x0.length := by omega
    refine Ev.step (fun k => ?_) (ih (i + 1) (by omega))
    simp only [laws_eqIntS.l0]
    rw [if_pos (by omega), if_pos (by omega), if_pos (by omega), step64 hi2 (by omega)]
    simp
theorem laws_eqIntS_v (x0 : List Int) (hn : x0.length ≤ 1048576) : Ev (fun k => laws_eqIntS.f k x0 x0) true := by
  refine Ev.congr (fun k => ?_) (laws_eqIntS_l x0 hn x0.length 0 (by omega))
  unfold laws_eqIntS.f
  rw [if_pos rfl]
  rfl

/-! marksInt -/
def marksInt : Nat → Int → List Int
  | 0, _ => []
  | n + 1, c => c :: marksInt n (c + 1)
theorem marksInt_length : ∀ (n : Nat) (c : Int), (marksInt n c).length = n
  | 0, _ => rfl
  | n + 1, c => by rw [marksInt, List.length_cons, marksInt_length n]

/-! laws_markIntS -/
theorem laws_markIntS_l : ∀ (d i : Nat) (x0 : List Int) (c : Int), x0.length ≤ 4194304 → i + d = x0.length → 0 ≤ c → c + 1 * (d : Int) ≤ 1152921504606846976 →
    Ev (fun k => laws_markIntS.l0 k x0 c (i : Int)) (c + 1 * (d : Int), x0.take i ++ marksInt d c) := by
  intro d
  induction d with
  | zero =>
    intro i x0 c hn hi h0 h1
    refine ev_done (fun k => ?_)
    simp only [laws_markIntS.l0]
    rw [if_neg (by omega), List.take_of_length_le (by omega)]
    simp [marksInt]
  | succ d ih =>
    intro i x0 c hn hi h0 h1
    have hi2 : i < x0.length := by omega
    have e1 : wrap64 (c + 1) = c + 1 := by rw [w64 (by omega) (by omega)] <;> omega
    refine Ev.step (f := fun k => laws_markIntS.l0 k (x0.set i c) (c + 1) ((i + 1 : Nat) : Int)) (fun k => ?_) ?_
    · simp only [laws_markIntS.l0, Option.bind_some, Int.toNat_natCast, List.set_set, e1, step64 hi2 (show x0.length ≤ 4611686018427387904 by omega)]
      rw [if_pos (by omega), if_pos (by omega)]
    · have h := ih (i + 1) (x0.set i c) (c + 1) (by simpa using hn) (by simp; omega) (by omega) (by omega)
      rw [take_set_succ _ _ _ (by omega), List.append_assoc] at h
      have e : c + 1 * ((d + 1 : Nat) : Int) = c + 1 + 1 * (d : Int) := by omega
      rw [e]
      exact h
theorem laws_markIntS_v (x0 : List Int) (c : Int) (hn : x0.length ≤ 4194304) (h0 : 0 ≤ c) (h1 : c ≤ 1125899906842624) : Ev (fun k => laws_markIntS.f k x0 c) (c + 1 * (x0.length : Int), marksInt x0.length c) := by
  have h := laws_markIntS_l x0.length 0 x0 c hn (by omega) h0 (by omega)
  exact h

/-! marksPoint -/
def marksPoint : Nat → Int → List S29
  | 0, _ => []
  | n + 1, c => ⟨c, c + 1⟩ :: marksPoint n (c + 2)
theorem marksPoint_length : ∀ (n : Nat) (c : Int), (marksPoint n c).length = n
  | 0, _ => rfl
  | n + 1, c => by rw [marksPoint, List.length_cons, marksPoint_length n]

/-! laws_markPointS -/
theorem laws_markPointS_l : ∀ (d i : Nat) (x0 : List S29) (c : Int), x0.length ≤ 4194304 → i + d = x0.length → 0 ≤ c → c + 2 * (d : Int) ≤ 1152921504606846976 →
    Ev (fun k => laws_markPointS.l0 k x0 c (i : Int)) (c + 2 * (d : Int), x0.take i ++ marksPoint d c) := by
  intro d
  induction d with
  | zero =>
    intro i x0 c hn hi h0 h1
    refine ev_done (fun k => ?_)
    simp only [laws_markPointS.l0]
    rw [if_neg (by omega), List.take_of_length_le (by omega)]
    simp [marksPoint]
  | succ d ih =>
    intro i x0 c hn hi h0 h1
    have hi2 : i < x0.length := by omega
    have e1 : wrap64 (c + 1) = c + 1 := by rw [w64 (by omega) (by omega)] <;> omega
    have e2 : wrap64 (c + 1 + 1) = c + 2 := by rw [w64 (by omega) (by omega)] <;> omega
    have hs : ∀ v, rd_T29 (x0.set i v) (i : Int) = v := fun v => by rw [rd_impl_Point _ _ (by simpa using hi2)]; simp
    refine Ev.step (f := fun k => laws_markPointS.l0 k (x0.set i ⟨c, c + 1⟩) (c + 2) ((i + 1 : Nat) : Int)) (fun k => ?_) ?_
    · simp only [laws_markPointS.l0, Option.bind_some, Int.toNat_natCast, List.set_set, hs, e1, e2, step64 hi2 (show x0.length ≤ 4611686018427387904 by omega)]
      rw [if_pos (by omega), if_pos (by omega)]
    · have h := ih (i + 1) (x0.set i ⟨c, c + 1⟩) (c + 2) (by simpa using hn) (by simp; omega) (by omega) (by omega)
      rw [take_set_succ _ _ _ (by omega), List.append_assoc] at h
      have e : c + 2 * ((d + 1 : Nat) : Int) = c + 2 + 2 * (d : Int) := by omega
      rw [e]
      exact h
theorem laws_markPointS_v (x0 : List S29) (c : Int) (hn : x0.length ≤ 4194304) (h0 : 0 ≤ c) (h1 : c ≤ 1125899906842624) : Ev (fun k => laws_markPointS.f k x0 c) (c + 2 * (x0.length : Int), marksPoint x0.length c) := by
  have h := laws_markPointS_l x0.length 0 x0 c hn (by omega) h0 (by omega)
  exact h

/-! laws_szPointS -/
theorem laws_szPointS_v (l : List S89) (a : Int) (h0 : 0 ≤ a) (h1 : a ≤ 1048576) (hl : l.length ≤ maxLen) : laws_szPointS.f l a = some (if (l.length : Int) ≤ a then a - (l.length : Int) else -1) := by
  unfold maxLen at hl
  have hw : wrap64 (a - (l.length : Int)) = a - (l.length : Int) := w64 (by omega) (by omega)
  unfold laws_szPointS.f
  rw [hw]
  by_cases h : (l.length : Int) ≤ a
  · rw [if_neg (by omega), if_pos h]
  · rw [if_pos (by omega), if_neg h]

/-! law_FnExactDashOf -/
theorem pure : PureS := by
  intro l0 l1 a2 hs h0 h1 h2
  refine Ev.rounds ?_
  simp only [laws_FnExactDashOf.f]
  by_cases hd : (l1.length : Int) > 1048576
  · simp only [if_pos hd]
    exact Ev.now true
  · simp only [if_neg hd]
    have hz := laws_szPointS_v l0 1048576 (by omega) (by omega) h0.1
    rw [if_pos (by omega)] at hz
    refine Ev.bind (ev_const hz) ?_
    simp only [if_neg (show ¬ (1048576 - (l0.length : Int) < 0) by omega)]
    have hp := laws_toPointS_v l0 (by omega)
    have hi := laws_toIntS_v l1 (by omega)
    have hc : l1.map convInt = l1 := List.map_id l1
    rw [hc] at hi
    have hl : (l0.map convPoint).length ≤ 400000 := by simpa using hs
    generalize l0.map convPoint = P at hp hl
    obtain ⟨r, s1, i1, r1, r2, r3⟩ := DashOf_v P l1 a2 hl (by omega)
    have he := eqBB_v r (by omega) r1
    have hM := laws_markPointS_v P 1 (by omega) (by omega) (by omega)
    have hN := laws_markIntS_v l1 (1 + 2 * (P.length : Int)) (by omega) (by omega) (by omega)
    obtain ⟨K2, R2, _, _, hM2, hK2, hH2⟩ := markBB_l r.length 0 r 1 (by omega) (by omega) (fun j hj _ => r1 _ (List.getElem_mem hj)) (by omega) (by rw [List.drop_zero]; omega)
    replace hM2 : Ev (fun k => laws_markPointSS.f k r 1) (K2, R2) := hM2
    replace hH2 : Ev (fun k => laws_heldPointSS.f k R2 1) K2 := hH2
    refine Ev.bind hp (Ev.bind hi (Ev.bind s1 (Ev.bind hp (Ev.bind hi (Ev.bind i1 (Ev.bind he ?_))))))
    simp only [if_true]
    refine Ev.bind hp (Ev.bind (laws_eqPointS_v P (by omega)) ?_)
    simp only [if_true]
    refine Ev.bind hi (Ev.bind (laws_eqIntS_v l1 (by omega)) ?_)
    simp only [if_true]
    refine Ev.bind hM (Ev.bind hN ?_)
    simp only [if_neg (show ¬ (1 + 2 * (P.length : Int) + 1 * (l1.length : Int) < 0) by omega)]
    refine Ev.bind he ?_
    simp only [Bool.not_true]
    refine Ev.step (fun k => rfl) ?_
    simp only [laws_FnExactDashOf.j0, Bool.false_eq_true, if_false]
    refine Ev.bind hM2 (Ev.bind hH2 ?_)
    simp only [if_neg (show ¬ K2 < 0 by omega), if_true]
    refine Ev.bind hp (Ev.bind hi (Ev.bind i1 (Ev.bind he ?_)))
    simp only [if_true]
    refine Ev.bind hH2 ?_
    simp only [if_neg (show ¬ K2 < 0 by omega), if_true]
    exact Ev.now true

end Go.Proofs.Ytjfienkbcacijaa.QFnExactDashOf
