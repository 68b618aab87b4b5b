/- The pure statement of the law FnExactStrokeOf, for every input: what the printed functions compute makes the law answer true. No conditions beyond what the row reads. -/
import Derived.Test.YtgdlbilpfmjeaaaTFnExactStrokeOf
namespace Go.Proofs.Ytgdlbilpfmjeaaa.QFnExactStrokeOf
open Go.RowKit Go.Proofs.Ytgdlbilpfmjeaaa.MFnExactStrokeOf Go.Proofs.Ytgdlbilpfmjeaaa.TFnExactStrokeOf Go.Proofs.YtgdlbilpfmjeaaaW.PrintWords Go.Proofs.YtgdlbilpfmjeaaaW.PrintLast
set_option linter.unusedVariables false
set_option linter.unusedSimpArgs false

/-! base -/
theorem w64 {x : Int} (h1 : -9223372036854775808 ≤ x) (h2 : x ≤ 9223372036854775807) : wrap64 x = x := by
  unfold wrap64
  omega

theorem wf64 {x : Int} (h : (Lit.int .i64 x).wf = true) : -9223372036854775808 ≤ x ∧ x ≤ 9223372036854775807 := by
  have h2 : (decide (IntKind.i64.min ≤ x) && decide (x ≤ IntKind.i64.max)) = true := h
  rw [Bool.and_eq_true, decide_eq_true_eq, decide_eq_true_eq] at h2
  exact ⟨h2.1, h2.2⟩

theorem take_set_succ {α : Type} (xs : List α) (i : Nat) (v : α) (h : i < xs.length) : (xs.set i v).take (i + 1) = xs.take i ++ [v] := by
  rw [List.take_succ_eq_append_getElem (by simpa using h), List.take_set_of_le (Nat.le_refl i), List.getElem_set_self]

theorem step64 {i n : Nat} (h : i < n) (hn : n ≤ 4611686018427387904) : wrap64 ((i : Int) + 1) = ((i + 1 : Nat) : Int) := by
  rw [w64 (by omega) (by omega)]
  omega

theorem ev_done {α : Type} {g : Nat → Option α} {r : α} (h : ∀ k, g (k + 1) = some r) : Ev g r := Ev.step (f := fun _ => some r) h (Ev.now r)

theorem ev_const {α : Type} {o : Option α} {r : α} (h : o = some r) : Ev (fun _ => o) r := by
  subst h
  exact Ev.now r

/-! spec_FloorDiv -/
theorem spec_FloorDiv_tot (a b : Int) : ∃ q, spec_FloorDiv.f a b = some q := by
  unfold spec_FloorDiv.f
  by_cases h : b < 1
  · exact ⟨0, by rw [if_pos h]⟩
  · rw [if_neg h, if_neg (by omega)]
    split <;> exact ⟨_, rfl⟩
theorem spec_FloorDiv_v {a b : Int} (ha : -9223372036854775808 ≤ a) (ha2 : a ≤ 9223372036854775807) (hb : 1 ≤ b) (hb2 : b ≤ 9223372036854775807) : spec_FloorDiv.f a b = some (a / b) := by
  have hq : -9223372036854775808 ≤ a / b ∧ a / b ≤ 9223372036854775807 := by
    refine ⟨(Int.le_ediv_iff_mul_le (by omega)).mpr ?_, ?_⟩
    · have : 9223372036854775808 * 1 ≤ 9223372036854775808 * b := Int.mul_le_mul_of_nonneg_left hb (by omega)
      rw [Int.neg_mul]
      omega
    · rcases Int.le_total 0 a with h | h
      · exact Int.le_trans (Int.ediv_le_self b h) ha2
      · have : a / b ≤ 0 := Int.ediv_le_of_le_mul (by omega) (by omega)
        omega
  have hm := Int.emod_nonneg a (show b ≠ 0 by omega)
  have hml := Int.emod_lt_of_pos a (show 0 < b by omega)
  have hd := Int.mul_ediv_add_emod a b
  unfold spec_FloorDiv.f
  rw [if_neg (by omega), if_neg (by omega)]
  by_cases h0 : 0 ≤ a
  · rw [Int.tmod_eq_emod_of_nonneg h0, if_neg (by omega), Int.tdiv_eq_ediv_of_nonneg h0, w64 hq.1 hq.2]
  · have e1 : Int.tdiv a b = if a % b = 0 then a / b else a / b + 1 := by
      rw [Int.tdiv_eq_ediv]
      have hs : b.sign = 1 := Int.sign_eq_one_of_pos (by omega)
      by_cases hz : a % b = 0
      · rw [if_pos hz, if_pos (.inr (Int.dvd_of_emod_eq_zero hz))]
        omega
      · rw [if_neg hz, if_neg (by
          rintro (h | h)
          · omega
          · exact hz (Int.emod_eq_zero_of_dvd h)), hs]
    have e2 : Int.tmod a b = a - b * Int.tdiv a b := by have := Int.mul_tdiv_add_tmod a b; omega
    by_cases hz : a % b = 0
    · rw [if_pos hz] at e1
      rw [if_neg (by rw [e2, e1]; omega), e1, w64 hq.1 hq.2]
    · rw [if_neg hz] at e1
      have hlt : a / b + 1 ≤ 0 := by
        have : a / b < 0 := Int.ediv_neg_of_neg_of_pos (by omega) (by omega)
        omega
      rw [if_pos (by rw [e2, e1, Int.mul_add]; omega), e1, w64 (x := a / b + 1) (by omega) (by omega), w64 (by omega) (by omega)]
      congr 1
      omega

/-! spec_RoundDiv -/
theorem spec_RoundDiv_tot (a b : Int) : ∃ q, spec_RoundDiv.f a b = some q := by
  obtain ⟨q, hq⟩ := spec_FloorDiv_tot a b
  unfold spec_RoundDiv.f
  rw [hq, Option.bind_some]
  split
  · exact ⟨_, rfl⟩
  · split <;> exact ⟨_, rfl⟩

/-! impl_FloorDiv -/
theorem impl_FloorDiv_s (a b : Int) : impl_FloorDiv.f a b = spec_FloorDiv.f a b := rfl

/-! impl_RoundDiv -/
theorem impl_RoundDiv_s (a b : Int) : impl_RoundDiv.f a b = spec_RoundDiv.f a b := rfl

/-! RootP -/
theorem sq_mono {a b : Int} (h0 : 0 ≤ a) (h : a ≤ b) : a * a ≤ b * b := Int.mul_le_mul h h h0 (by omega)
def RootP (n r : Int) : Prop := 0 ≤ r ∧ r ≤ 3037000499 ∧ (r * r ≤ n ∨ r = 0) ∧ (r = 3037000499 ∨ n < (r + 1) * (r + 1))
theorem RootP_lt {n r s : Int} (hr : RootP n r) (hs : RootP n s) : ¬ r < s := by
  intro h
  obtain ⟨h1, h2, h3, h4⟩ := hr
  obtain ⟨g1, g2, g3, g4⟩ := hs
  have q := sq_mono (a := r + 1) (b := s) (by omega) (by omega)
  rcases h4 with h4 | h4
  · omega
  · rcases g3 with g3 | g3
    · omega
    · omega
theorem RootP_unique {n r s : Int} (hr : RootP n r) (hs : RootP n s) : r = s := by
  have h1 := RootP_lt hr hs
  have h2 := RootP_lt hs hr
  omega
theorem half64 {x : Int} (h0 : 0 ≤ x) (h1 : x ≤ 9223372036854775807) : wrap64 (Int.tdiv x 2) = x / 2 := by
  rw [Int.tdiv_eq_ediv_of_nonneg h0, w64 (by omega) (by omega)]

/-! spec_RootOf -/
theorem spec_RootOf_l (n : Int) (hn : 0 ≤ n) (d : Nat) : ∀ (low high : Int), 0 ≤ low → low < high → high ≤ 3037000500 → high - low ≤ d + 1 → low * low ≤ n → (high = 3037000500 ∨ n < high * high) →
    ∃ r, Ev (fun k => spec_RootOf.l0 k n low high) r ∧ RootP n r := by
  induction d with
  | zero =>
    intro low high h0 h1 h2 h3 h4 h5
    obtain rfl : high = low + 1 := by omega
    refine ⟨low, ev_done (fun k => by simp only [spec_RootOf.l0]; rw [w64 (by omega) (by omega), if_neg (by omega)]), h0, by omega, .inl h4, ?_⟩
    rcases h5 with h5 | h5
    · exact .inl (by omega)
    · exact .inr h5
  | succ d ih =>
    intro low high h0 h1 h2 h3 h4 h5
    have e0 : wrap64 (low + 1) = low + 1 := w64 (by omega) (by omega)
    by_cases hlt : low + 1 < high
    · have e1 : wrap64 (low + high) = low + high := w64 (by omega) (by omega)
      have e3 : wrap64 (Int.tdiv (low + high) 2) = (low + high) / 2 := half64 (by omega) (by omega)
      have q := sq_mono (a := (low + high) / 2) (b := 3037000499) (by omega) (by omega)
      have q0 := sq_mono (a := 0) (b := (low + high) / 2) (by omega) (by omega)
      generalize hm : (low + high) / 2 = m at e3 q q0
      have e4 : wrap64 (m * m) = m * m := w64 (by omega) (by omega)
      by_cases hc : m * m ≤ n
      · obtain ⟨r, hr, hp⟩ := ih m high (by omega) (by omega) h2 (by omega) hc h5
        refine ⟨r, Ev.step (fun k => ?_) hr, hp⟩
        simp only [spec_RootOf.l0]
        rw [e0, if_pos hlt, e1, e3, e4, if_pos (by omega), if_pos hc]
      · obtain ⟨r, hr, hp⟩ := ih low m h0 (by omega) (by omega) (by omega) h4 (.inr (by omega))
        refine ⟨r, Ev.step (fun k => ?_) hr, hp⟩
        simp only [spec_RootOf.l0]
        rw [e0, if_pos hlt, e1, e3, e4, if_pos (by omega), if_neg hc]
    · obtain rfl : high = low + 1 := by omega
      refine ⟨low, ev_done (fun k => by simp only [spec_RootOf.l0]; rw [e0, if_neg hlt]), h0, by omega, .inl h4, ?_⟩
      rcases h5 with h5 | h5
      · exact .inl (by omega)
      · exact .inr h5
theorem spec_RootOf_v (n : Int) : ∃ r, Ev (fun k => spec_RootOf.f k n) r ∧ RootP n r := by
  by_cases hn : n < 0
  · refine ⟨0, Ev.congr (fun k => by unfold spec_RootOf.f; rw [if_pos hn]) (Ev.now 0), by omega, by omega, .inr rfl, .inr (by omega)⟩
  · obtain ⟨r, h, hp⟩ := spec_RootOf_l n (by omega) 3037000499 0 3037000500 (by omega) (by omega) (by omega) (by omega) (by omega) (.inl rfl)
    refine ⟨r, Ev.congr (fun k => ?_) h, hp⟩
    unfold spec_RootOf.f
    rw [if_neg hn]

/-! impl_RootOf -/
theorem impl_RootOf_l (n : Int) (d : Nat) : ∀ (low high : Int), 0 ≤ low → low ≤ high → high ≤ 3037000499 → high - low ≤ d → (low * low ≤ n ∨ low = 0) → (high = 3037000499 ∨ n < (high + 1) * (high + 1)) →
    ∃ r, Ev (fun k => impl_RootOf.l0 k n low high) r ∧ RootP n r := by
  induction d with
  | zero =>
    intro low high h0 h1 h2 h3 h4 h5
    obtain rfl : low = high := by omega
    exact ⟨low, ev_done (fun k => by simp only [impl_RootOf.l0]; rw [if_neg (by omega)]), h0, h2, h4, h5⟩
  | succ d ih =>
    intro low high h0 h1 h2 h3 h4 h5
    by_cases hlt : low < high
    · have e1 : wrap64 (low + high) = low + high := w64 (by omega) (by omega)
      have e2 : wrap64 (low + high + 1) = low + high + 1 := w64 (by omega) (by omega)
      have e3 : wrap64 (Int.tdiv (low + high + 1) 2) = (low + high + 1) / 2 := half64 (by omega) (by omega)
      have q := sq_mono (a := (low + high + 1) / 2) (b := 3037000499) (by omega) (by omega)
      have q0 := sq_mono (a := 0) (b := (low + high + 1) / 2) (by omega) (by omega)
      generalize hm : (low + high + 1) / 2 = m at e3 q q0
      have e4 : wrap64 (m * m) = m * m := w64 (by omega) (by omega)
      have e5 : wrap64 (m - 1) = m - 1 := w64 (by omega) (by omega)
      by_cases hc : m * m ≤ n
      · obtain ⟨r, hr, hp⟩ := ih m high (by omega) (by omega) h2 (by omega) (.inl hc) h5
        refine ⟨r, Ev.step (fun k => ?_) hr, hp⟩
        simp only [impl_RootOf.l0]
        rw [if_pos hlt, e1, e2, e3, e4, if_pos hc]
      · obtain ⟨r, hr, hp⟩ := ih low (m - 1) h0 (by omega) (by omega) (by omega) h4 (.inr (by rw [show m - 1 + 1 = m by omega]; omega))
        refine ⟨r, Ev.step (fun k => ?_) hr, hp⟩
        simp only [impl_RootOf.l0]
        rw [if_pos hlt, e1, e2, e3, e4, if_neg hc, e5]
    · obtain rfl : low = high := by omega
      exact ⟨low, ev_done (fun k => by simp only [impl_RootOf.l0]; rw [if_neg (by omega)]), h0, h2, h4, h5⟩
theorem impl_RootOf_v (n : Int) : ∃ r, Ev (fun k => impl_RootOf.f k n) r ∧ RootP n r := impl_RootOf_l n 3037000499 0 3037000499 (by omega) (by omega) (by omega) (by omega) (.inr rfl) (.inl rfl)

/-! spec_l01In -/
theorem spec_l01In_v (a b c : Int) : spec_l01In.f a b c = some (decide (b ≤ a ∧ a ≤ c)) := by
  unfold spec_l01In.f
  by_cases h : a ≥ b
  · rw [if_pos h]
    simp [h]
  · rw [if_neg h]
    simp
    omega

/-! spec_PointOk -/
def pointOkP (a b : Int) : Prop := (-8388608 ≤ a ∧ a ≤ 8388608) ∧ (-8388608 ≤ b ∧ b ≤ 8388608)
instance (a b : Int) : Decidable (pointOkP a b) := by unfold pointOkP; infer_instance
theorem spec_PointOk_v (a b : Int) : spec_PointOk.f a b = some (decide (pointOkP a b)) := by
  unfold spec_PointOk.f pointOkP
  simp only [spec_l01In_v, Option.bind_some, decide_eq_true_eq]
  repeat' split
  all_goals first | (refine congrArg some (decide_eq_decide.mpr ?_); omega) | (refine congrArg some (Eq.symm (decide_eq_false ?_)); omega)

/-! impl_inRange -/
theorem impl_inRange_v (a b c : Int) : impl_inRange.f a b c = some (decide (b ≤ a ∧ a ≤ c)) := by
  unfold impl_inRange.f
  by_cases h : a ≥ b
  · rw [if_pos h]
    simp [h]
  · rw [if_neg h]
    simp
    omega

/-! impl_isFar -/
theorem impl_isFar_v (a : Int) : impl_isFar.f a = some (decide (-8388608 ≤ a ∧ a ≤ 8388608)) := by
  unfold impl_isFar.f
  simp only [impl_inRange_v, Option.bind_some]

/-! impl_PointOk -/
theorem impl_PointOk_v (a b : Int) : impl_PointOk.f a b = some (decide (pointOkP a b)) := by
  unfold impl_PointOk.f pointOkP
  simp only [impl_isFar_v, Option.bind_some, decide_eq_true_eq]
  repeat' split
  all_goals first | (refine congrArg some (decide_eq_decide.mpr ?_); omega) | (refine congrArg some (Eq.symm (decide_eq_false ?_)); omega)

/-! LengthOf -/
theorem LengthOf_v (a b c d : Int) : ∃ r, Ev (fun k => spec_LengthOf.f k a b c d) r ∧ Ev (fun k => impl_LengthOf.f k a b c d) r ∧ 0 ≤ r ∧ r ≤ 3037000499 ∧
    (pointOkP a b → pointOkP c d → RootP ((c - a) * (c - a) + (d - b) * (d - b)) r) ∧ (¬ (pointOkP a b ∧ pointOkP c d) → r = 0) := by
  by_cases h1 : pointOkP a b
  · by_cases h2 : pointOkP c d
    · obtain ⟨r, hr, hp⟩ := impl_RootOf_v ((c - a) * (c - a) + (d - b) * (d - b))
      obtain ⟨s, hs, hq⟩ := spec_RootOf_v ((c - a) * (c - a) + (d - b) * (d - b))
      obtain rfl := RootP_unique hp hq
      obtain ⟨⟨p1, p2⟩, p3, p4⟩ := h1
      obtain ⟨⟨q1, q2⟩, q3, q4⟩ := h2
      have e1 : wrap64 (c - a) = c - a := w64 (by omega) (by omega)
      have e2 : wrap64 (d - b) = d - b := w64 (by omega) (by omega)
      have sq : ∀ x : Int, -16777216 ≤ x → x ≤ 16777216 → 0 ≤ x * x ∧ x * x ≤ 281474976710656 := by
        intro x hx hy
        rcases Int.le_total 0 x with h | h
        · have := sq_mono h hy
          have := sq_mono (a := 0) (by omega) h
          omega
        · have := sq_mono (a := -x) (b := 16777216) (by omega) (by omega)
          have := sq_mono (a := 0) (b := -x) (by omega) (by omega)
          rw [Int.neg_mul_neg] at *
          omega
      have s1 := sq (c - a) (by omega) (by omega)
      have s2 := sq (d - b) (by omega) (by omega)
      have e3 : wrap64 ((c - a) * (c - a)) = (c - a) * (c - a) := w64 (by omega) (by omega)
      have e4 : wrap64 ((d - b) * (d - b)) = (d - b) * (d - b) := w64 (by omega) (by omega)
      have e5 : wrap64 ((c - a) * (c - a) + (d - b) * (d - b)) = (c - a) * (c - a) + (d - b) * (d - b) := w64 (by omega) (by omega)
      refine ⟨r, Ev.congr (fun k => ?_) hs, Ev.congr (fun k => ?_) hr, hp.1, hp.2.1, fun _ _ => hp, fun h => absurd ⟨⟨⟨p1, p2⟩, p3, p4⟩, ⟨q1, q2⟩, q3, q4⟩ h⟩
      · unfold spec_LengthOf.f
        simp only [spec_PointOk_v, Option.bind_some, e1, e2, e3, e4, e5]
        rw [if_pos (decide_eq_true ⟨⟨p1, p2⟩, p3, p4⟩), if_pos (decide_eq_true ⟨⟨q1, q2⟩, q3, q4⟩), Option.bind_fun_some]
      · unfold impl_LengthOf.f
        simp only [impl_PointOk_v, Option.bind_some, e1, e2, e3, e4, e5]
        rw [if_pos (decide_eq_true ⟨⟨p1, p2⟩, p3, p4⟩), if_pos (decide_eq_true ⟨⟨q1, q2⟩, q3, q4⟩), Option.bind_fun_some]
    · refine ⟨0, Ev.congr (fun k => ?_) (Ev.now 0), Ev.congr (fun k => ?_) (Ev.now 0), by omega, by omega, fun _ h => absurd h h2, fun _ => rfl⟩
      · unfold spec_LengthOf.f
        simp only [spec_PointOk_v, Option.bind_some]
        rw [if_pos (decide_eq_true h1), if_neg (by simpa using h2)]
      · unfold impl_LengthOf.f
        simp only [impl_PointOk_v, Option.bind_some]
        rw [if_pos (decide_eq_true h1), if_neg (by simpa using h2)]
  · refine ⟨0, Ev.congr (fun k => ?_) (Ev.now 0), Ev.congr (fun k => ?_) (Ev.now 0), by omega, by omega, fun h _ => absurd h h1, fun _ => rfl⟩
    · unfold spec_LengthOf.f
      simp only [spec_PointOk_v, Option.bind_some]
      rw [if_neg (by simpa using h1)]
    · unfold impl_LengthOf.f
      simp only [impl_PointOk_v, Option.bind_some]
      rw [if_neg (by simpa using h1)]

/-! SideOf -/
theorem SideOf_v (a b c d w : Int) : ∃ x y : Int, Ev (fun k => spec_SideOf.f k a b c d w) (x, y) ∧ Ev (fun k => impl_SideOf.f k a b c d w) (x, y) := by
  obtain ⟨l, h1, h2, _⟩ := LengthOf_v a b c d
  obtain ⟨x, hx⟩ := spec_RoundDiv_tot (wrap64 ((wrap64 (b - d)) * w)) (wrap64 (2 * l))
  obtain ⟨y, hy⟩ := spec_RoundDiv_tot (wrap64 ((wrap64 (c - a)) * w)) (wrap64 (2 * l))
  have j1 : ∀ k, spec_SideOf.j0 (k + 1) w l true a b c d = some (0, 0) := fun k => by simp only [spec_SideOf.j0, if_true]
  have j2 : ∀ k, impl_SideOf.j0 (k + 1) w l true a b c d = some (0, 0) := fun k => by simp only [impl_SideOf.j0, if_true]
  have j3 : ∀ k, spec_SideOf.j0 (k + 1) w l false a b c d = some (x, y) := fun k => by simp only [spec_SideOf.j0, hx, hy, Option.bind_some, Bool.false_eq_true, if_false]
  have j4 : ∀ k, impl_SideOf.j0 (k + 1) w l false a b c d = some (x, y) := fun k => by simp only [impl_SideOf.j0, impl_RoundDiv_s, hx, hy, Option.bind_some, Bool.false_eq_true, if_false]
  by_cases hl : l = 0
  · refine ⟨0, 0, ?_, ?_⟩
    · unfold spec_SideOf.f
      refine Ev.bind h1 ?_
      simp only [if_pos hl]
      exact ev_done j1
    · unfold impl_SideOf.f
      refine Ev.bind h2 ?_
      simp only [if_pos hl]
      exact ev_done j2
  · by_cases hw : 1 ≤ w ∧ w ≤ 2048
    · refine ⟨x, y, ?_, ?_⟩
      · unfold spec_SideOf.f
        refine Ev.bind h1 ?_
        simp only [if_neg hl, spec_l01In_v, Option.bind_some, decide_eq_true hw]
        exact ev_done j3
      · unfold impl_SideOf.f impl_isWidth.f
        refine Ev.bind h2 ?_
        simp only [if_neg hl, impl_inRange_v, Option.bind_some, decide_eq_true hw]
        exact ev_done j4
    · refine ⟨0, 0, ?_, ?_⟩
      · unfold spec_SideOf.f
        refine Ev.bind h1 ?_
        simp only [if_neg hl, spec_l01In_v, Option.bind_some, decide_eq_false hw]
        exact ev_done j1
      · unfold impl_SideOf.f impl_isWidth.f
        refine Ev.bind h2 ?_
        simp only [if_neg hl, impl_inRange_v, Option.bind_some, decide_eq_false hw]
        exact ev_done j2

/-! QuadOf -/
theorem QuadOf_v (a b c d w : Int) : ∃ l, l.length ≤ 4 ∧ Ev (fun k => spec_QuadOf.f k a b c d w) l ∧ Ev (fun k => impl_QuadOf.f k a b c d w) l := by
  obtain ⟨l, h1, h2, _⟩ := LengthOf_v a b c d
  obtain ⟨x, y, h3, h4⟩ := SideOf_v a b c d w
  unfold spec_QuadOf.f impl_QuadOf.f impl_isWidth.f
  simp only [spec_l01In_v, impl_inRange_v, Option.bind_some]
  by_cases hl : l = 0
  · refine ⟨[], by simp, Ev.bind h1 ?_, Ev.bind h2 ?_⟩
    · simp only [if_pos hl]
      exact Ev.now _
    · simp only [if_pos hl]
      exact Ev.now _
  · by_cases hw : 1 ≤ w ∧ w ≤ 2048
    · refine ⟨[⟨wrap64 (a + x), wrap64 (b + y)⟩, ⟨wrap64 (c + x), wrap64 (d + y)⟩, ⟨wrap64 (c - x), wrap64 (d - y)⟩, ⟨wrap64 (a - x), wrap64 (b - y)⟩], ?_, Ev.bind h1 ?_, Ev.bind h2 ?_⟩
      rotate_left
      · simp only [if_neg hl, decide_eq_true hw, if_true]
        exact Ev.bind h3 (Ev.now _)
      · simp only [if_neg hl, decide_eq_true hw, if_true]
        exact Ev.bind h4 (Ev.now _)
      · simp
    · refine ⟨[], by simp, Ev.bind h1 ?_, Ev.bind h2 ?_⟩
      · simp only [if_neg hl, decide_eq_false hw, Bool.false_eq_true, if_false]
        exact Ev.now _
      · simp only [if_neg hl, decide_eq_false hw, Bool.false_eq_true, if_false]
        exact Ev.now _

/-! rd_impl_PointSS -/
theorem rd_impl_PointSS (xs : List (List S32)) (i : Nat) (h : i < xs.length) : rd_L2 xs (i : Int) = xs[i] := by
  unfold rd_L2
  simp [h]

/-! rd_impl_Point -/
theorem rd_impl_Point (xs : List S32) (i : Nat) (h : i < xs.length) : rd_T32 xs (i : Int) = xs[i] := by
  unfold rd_T32
  simp [h]

/-! laws_szPointS -/
theorem laws_szPointS_v (l : List S157) (a : Int) (h0 : 0 ≤ a) (h1 : a ≤ 1048576) (hl : l.length ≤ maxLen) : laws_szPointS.f l a = some (if (l.length : Int) ≤ a then a - (l.length : Int) else -1) := by
  unfold maxLen at hl
  have hw : wrap64 (a - (l.length : Int)) = a - (l.length : Int) := w64 (by omega) (by omega)
  unfold laws_szPointS.f
  rw [hw]
  by_cases h : (l.length : Int) ≤ a
  · rw [if_neg (by omega), if_pos h]
  · rw [if_pos (by omega), if_neg h]

/-! rd_laws_Point -/
theorem rd_laws_Point (xs : List S157) (i : Nat) (h : i < xs.length) : rd_T157 xs (i : Int) = xs[i] := by
  unfold rd_T157
  simp [h]

/-! laws_toPointS -/
def convPoint (x : S157) : S32 := ⟨x.f0, x.f1⟩
theorem laws_toPointS_l (x0 : List S157) (hn : x0.length ≤ 1048576) : ∀ (d i : Nat) (x3 : List S32), x3.length = x0.length → i + d = x0.length →
    Ev (fun k => laws_toPointS.l0 k x0 x3 (i : Int)) (x3.take i ++ (x0.drop i).map convPoint) := by
  intro d
  induction d with
  | zero =>
    intro i x3 hl hi
    refine ev_done (fun k => ?_)
    simp only [laws_toPointS.l0]
    rw [if_neg (by omega), List.take_of_length_le (by omega), List.drop_of_length_le (by omega)]
    simp
  | succ d ih =>
    intro i x3 hl hi
    have hi2 : i < x0.length := by omega
    refine Ev.step (f := fun k => laws_toPointS.l0 k x0 (x3.set i (convPoint x0[i])) ((i + 1 : Nat) : Int)) (fun k => ?_) ?_
    · simp only [laws_toPointS.l0, laws_toPoint.f, Option.bind_some]
      rw [if_pos (by omega), if_pos (by omega), step64 hi2 (by omega), rd_laws_Point _ _ hi2]
      rw [if_pos (by omega)]
      rfl
    · have h := ih (i + 1) (x3.set i (convPoint x0[i])) (by simpa using hl) (by omega)
      rw [take_set_succ _ _ _ (by omega)] at h
      rw [List.drop_eq_getElem_cons hi2]
      rw [List.append_assoc] at h
      exact h
theorem laws_toPointS_v (x0 : List S157) (hn : x0.length ≤ 1048576) : Ev (fun k => laws_toPointS.f k x0) (x0.map convPoint) := by
  have h := laws_toPointS_l x0 hn x0.length 0 (List.replicate x0.length z32) (by simp) (by omega)
  refine Ev.congr (fun k => ?_) (by simpa using h)
  unfold laws_toPointS.f
  rw [if_pos (by omega), if_pos (by omega)]
  simp

/-! laws_eqPointS -/
theorem laws_eqPointS_l (x0 : List S32) (hn : x0.length ≤ 1048576) : ∀ (d i : Nat), i + d = x0.length → Ev (fun k => laws_eqPointS.l0 k x0 x0 (i : Int)) true := by
  intro d
  induction d with
  | zero =>
    intro i hi
    refine ev_done (fun k => ?_)
    simp only [laws_eqPointS.l0]
    rw [if_neg (by omega)]
  | succ d ih =>
    intro i hi
    have hi2 : i < x0.length := by omega
    refine Ev.step (fun k => ?_) (ih (i + 1) (by omega))
    simp only [laws_eqPointS.l0, laws_eqPoint.f]
    rw [if_pos (by omega), if_pos (by omega), if_pos (by omega), step64 hi2 (by omega)]
    simp
theorem laws_eqPointS_v (x0 : List S32) (hn : x0.length ≤ 1048576) : Ev (fun k => laws_eqPointS.f k x0 x0) true := by
  refine Ev.congr (fun k => ?_) (laws_eqPointS_l x0 hn x0.length 0 (by omega))
  unfold laws_eqPointS.f
  rw [if_pos rfl]
  rfl

/-! lists_PointSS -/
def totL (l : List (List S157)) : Int := match l with | [] => 0 | x :: xs => (x.length : Int) + totL xs
theorem totL_nonneg : ∀ l : List (List S157), 0 ≤ totL l
  | [] => by simp [totL]
  | x :: xs => by have := totL_nonneg xs; rw [totL]; omega
theorem totL_mem : ∀ (l : List (List S157)) (x : List S157), x ∈ l → (x.length : Int) ≤ totL l
  | y :: ys, x, h => by
    have := totL_nonneg ys
    rw [totL]
    rcases List.mem_cons.mp h with rfl | h
    · omega
    · have := totL_mem ys x h
      omega
theorem rd_laws_PointSS (xs : List (List S157)) (i : Nat) (h : i < xs.length) : rd_L4 xs (i : Int) = xs[i] := by
  unfold rd_L4
  simp [h]
theorem laws_toPointSS_l (x0 : List (List S157)) (hn : x0.length ≤ 1048576) (hm : ∀ x ∈ x0, x.length ≤ 1048576) : ∀ (d i : Nat) (x3 : List (List S32)), x3.length = x0.length → i + d = x0.length →
    Ev (fun k => laws_toPointSS.l0 k x0 x3 (i : Int)) (x3.take i ++ (x0.drop i).map (List.map convPoint)) := by
  intro d
  induction d with
  | zero =>
    intro i x3 hl hi
    refine ev_done (fun k => ?_)
    simp only [laws_toPointSS.l0]
    rw [if_neg (by omega), List.take_of_length_le (by omega), List.drop_of_length_le (by omega)]
    simp
  | succ d ih =>
    intro i x3 hl hi
    have hi2 : i < x0.length := by omega
    have h := ih (i + 1) (x3.set i (x0[i].map convPoint)) (by simpa using hl) (by omega)
    rw [take_set_succ _ _ _ (by omega)] at h
    rw [List.drop_eq_getElem_cons hi2]
    rw [List.append_assoc] at h
    refine Ev.step (f := fun k => (laws_toPointS.f k x0[i]).bind fun t => laws_toPointSS.l0 k x0 (x3.set i t) ((i + 1 : Nat) : Int)) (fun k => ?_) (Ev.bind (laws_toPointS_v _ (hm _ (List.getElem_mem hi2))) h)
    simp only [laws_toPointSS.l0]
    rw [if_pos (by omega), if_pos (by omega), step64 hi2 (by omega), rd_laws_PointSS _ _ hi2]
    simp only [if_pos (show (i : Int) < (x3.length : Int) by omega)]
    rfl
theorem laws_toPointSS_v (x0 : List (List S157)) (hn : x0.length ≤ 1048576) (hm : ∀ x ∈ x0, x.length ≤ 1048576) : Ev (fun k => laws_toPointSS.f k x0) (x0.map (List.map convPoint)) := by
  have h := laws_toPointSS_l x0 hn hm x0.length 0 (List.replicate x0.length []) (by simp) (by omega)
  refine Ev.congr (fun k => ?_) (by simpa using h)
  unfold laws_toPointSS.f
  rw [if_pos (by omega), if_pos (by omega)]
  simp
theorem laws_eqPointSS_l (x0 : List (List S32)) (hn : x0.length ≤ 1048576) (hm : ∀ x ∈ x0, x.length ≤ 1048576) : ∀ (d i : Nat), i + d = x0.length → Ev (fun k => laws_eqPointSS.l0 k x0 x0 (i : Int)) true := by
  intro d
  induction d with
  | zero =>
    intro i hi
    refine ev_done (fun k => ?_)
    simp only [laws_eqPointSS.l0]
    rw [if_neg (by omega)]
  | succ d ih =>
    intro i hi
    have hi2 : i < x0.length := by omega
    refine Ev.step (f := fun k => (laws_eqPointS.f k x0[i] x0[i]).bind fun t => if t = true then laws_eqPointSS.l0 k x0 x0 ((i + 1 : Nat) : Int) else some false) (fun k => ?_) (Ev.bind (laws_eqPointS_v _ (hm _ (List.getElem_mem hi2))) ?_)
    · simp only [laws_eqPointSS.l0]
      rw [if_pos (by omega), if_pos (by omega), if_pos (by omega), step64 hi2 (by omega), rd_impl_PointSS _ _ hi2]
    · simp only [if_true]
      exact ih (i + 1) (by omega)
theorem laws_eqPointSS_v (x0 : List (List S32)) (hn : x0.length ≤ 1048576) (hm : ∀ x ∈ x0, x.length ≤ 1048576) : Ev (fun k => laws_eqPointSS.f k x0 x0) true := by
  refine Ev.congr (fun k => ?_) (laws_eqPointSS_l x0 hn hm x0.length 0 (by omega))
  unfold laws_eqPointSS.f
  rw [if_pos rfl]
  rfl

/-! convLL -/
theorem convLL {x0 : List (List S157)} (hn : x0.length ≤ 1048576) (hm : ∀ x ∈ x0, x.length ≤ 1048576) : (x0.map (List.map convPoint)).length ≤ 1048576 ∧ ∀ x ∈ x0.map (List.map convPoint), x.length ≤ 1048576 := by
  refine ⟨by simpa using hn, fun x hx => ?_⟩
  obtain ⟨y, hy, rfl⟩ := List.mem_map.mp hx
  simpa using hm y hy

/-! laws_szPointSS -/
theorem laws_szPointSS_l (x0 : List (List S157)) (hn : x0.length ≤ 1048576) (hw : ∀ x ∈ x0, x.length ≤ maxLen) : ∀ (d i : Nat) (n : Int), i + d = x0.length → 0 ≤ n → n ≤ 1048576 →
    Ev (fun k => laws_szPointSS.l0 k x0 n (i : Int)) (if totL (x0.drop i) ≤ n then n - totL (x0.drop i) else -1) := by
  intro d
  induction d with
  | zero =>
    intro i n hi h0 h1
    refine ev_done (fun k => ?_)
    simp only [laws_szPointSS.l0]
    rw [if_neg (by omega), List.drop_of_length_le (by omega), totL, if_pos h0]
    simp
  | succ d ih =>
    intro i n hi h0 h1
    have hi2 : i < x0.length := by omega
    rw [List.drop_eq_getElem_cons hi2, totL]
    have hz := laws_szPointS_v x0[i] n h0 h1 (hw _ (List.getElem_mem hi2))
    have ht := totL_nonneg (x0.drop (i + 1))
    by_cases h : (x0[i].length : Int) ≤ n
    · rw [if_pos h] at hz
      have q := ih (i + 1) (n - (x0[i].length : Int)) (by omega) (by omega) (by omega)
      have e : (if (x0[i].length : Int) + totL (x0.drop (i + 1)) ≤ n then n - ((x0[i].length : Int) + totL (x0.drop (i + 1))) else -1) = (if totL (x0.drop (i + 1)) ≤ n - (x0[i].length : Int) then n - (x0[i].length : Int) - totL (x0.drop (i + 1)) else -1) := by
        split
        · rw [if_pos (by omega)]
          omega
        · rw [if_neg (by omega)]
      rw [e]
      refine Ev.step (fun k => ?_) q
      simp only [laws_szPointSS.l0]
      rw [if_pos (by omega), if_pos (by omega), rd_laws_PointSS _ _ hi2, hz, Option.bind_some, if_neg (by omega), step64 hi2 (by omega)]
    · rw [if_neg h] at hz
      rw [if_neg (by omega)]
      refine ev_done (fun k => ?_)
      simp only [laws_szPointSS.l0]
      rw [if_pos (by omega), if_pos (by omega), rd_laws_PointSS _ _ hi2, hz, Option.bind_some, if_pos (by decide)]
theorem laws_szPointSS_v (x0 : List (List S157)) (hl : x0.length ≤ maxLen) (hw : ∀ x ∈ x0, x.length ≤ maxLen) (n : Int) (h0 : 0 ≤ n) (h1 : n ≤ 1048576) :
    Ev (fun k => laws_szPointSS.f k x0 n) (if (x0.length : Int) + totL x0 ≤ n then n - (x0.length : Int) - totL x0 else -1) := by
  have ht := totL_nonneg x0
  have e0 : wrap64 (n - (x0.length : Int)) = n - (x0.length : Int) := by unfold maxLen at hl; exact w64 (by omega) (by omega)
  unfold laws_szPointSS.f
  rw [e0]
  by_cases h : (x0.length : Int) ≤ n
  · simp only [if_neg (show ¬ (n - (x0.length : Int) < 0) by omega)]
    have q := laws_szPointSS_l x0 (by omega) hw x0.length 0 (n - (x0.length : Int)) (by omega) (by omega) (by omega)
    have e : (if (x0.length : Int) + totL x0 ≤ n then n - (x0.length : Int) - totL x0 else -1) = (if totL x0 ≤ n - (x0.length : Int) then n - (x0.length : Int) - totL x0 else -1) := by
      split
      · rw [if_pos (by omega)]
      · rw [if_neg (by omega)]
    rw [e]
    exact q
  · simp only [if_pos (show n - (x0.length : Int) < 0 by omega)]
    rw [if_neg (by omega)]
    exact Ev.now _
/-- What a sum of sizes that is taken tells. -/
theorem sz_small {x0 : List (List S157)} (h : (x0.length : Int) + totL x0 ≤ 1048576) : x0.length ≤ 1048576 ∧ ∀ x ∈ x0, x.length ≤ 1048576 := by
  have := totL_nonneg x0
  refine ⟨by omega, fun x hx => ?_⟩
  have := totL_mem x0 x hx
  omega

/-! law_FnExactStrokeOf -/
theorem quad_w (a b c d w : Int) (hw : 1 ≤ w ∧ w ≤ 2048) : ∃ (q : List S32), Ev (fun k => spec_QuadOf.f k a b c d w) q ∧ Ev (fun k => impl_QuadOf.f k a b c d w) q ∧ (q = [] ∨ q.length = 4) := by
  obtain ⟨l, h1, h2, h0, _⟩ := LengthOf_v a b c d
  obtain ⟨x, y, h3, h4⟩ := SideOf_v a b c d w
  unfold spec_QuadOf.f impl_QuadOf.f impl_isWidth.f
  simp only [spec_l01In_v, impl_inRange_v, Option.bind_some]
  by_cases hl : l = 0
  · refine ⟨[], Ev.bind h1 ?_, Ev.bind h2 ?_, .inl rfl⟩
    · simp only [if_pos hl]
      exact Ev.now _
    · simp only [if_pos hl]
      exact Ev.now _
  · refine ⟨[⟨wrap64 (a + x), wrap64 (b + y)⟩, ⟨wrap64 (c + x), wrap64 (d + y)⟩, ⟨wrap64 (c - x), wrap64 (d - y)⟩, ⟨wrap64 (a - x), wrap64 (b - y)⟩], Ev.bind h1 ?_, Ev.bind h2 ?_, .inr rfl⟩
    · simp only [if_neg hl, decide_eq_true hw, if_true]
      exact Ev.bind h3 (Ev.now _)
    · simp only [if_neg hl, decide_eq_true hw, if_true]
      exact Ev.bind h4 (Ev.now _)
def jointP (w : Int) (p : S32) : List S32 := [⟨wrap64 (p.f0 - wrap64 (Int.tdiv w 2)), wrap64 (p.f1 - wrap64 (Int.tdiv w 2))⟩, ⟨wrap64 (wrap64 (p.f0 - wrap64 (Int.tdiv w 2)) + w), wrap64 (p.f1 - wrap64 (Int.tdiv w 2))⟩, ⟨wrap64 (wrap64 (p.f0 - wrap64 (Int.tdiv w 2)) + w), wrap64 (wrap64 (p.f1 - wrap64 (Int.tdiv w 2)) + w)⟩, ⟨wrap64 (p.f0 - wrap64 (Int.tdiv w 2)), wrap64 (wrap64 (p.f1 - wrap64 (Int.tdiv w 2)) + w)⟩]
theorem joint_i (w : Int) (p : S32) : impl_corners.f (wrap64 (p.f0 - wrap64 (Int.tdiv w 2))) (wrap64 (p.f1 - wrap64 (Int.tdiv w 2))) (wrap64 (wrap64 (p.f0 - wrap64 (Int.tdiv w 2)) + w)) (wrap64 (wrap64 (p.f1 - wrap64 (Int.tdiv w 2)) + w)) = some (jointP w p) ∧ (jointP w p).length = 4 := ⟨rfl, rfl⟩
theorem joint_s (w : Int) (p : S32) : spec_l08Joint.f p.f0 p.f1 w = some (jointP w p) := rfl
theorem st_end {P : List S32} {ls : List (List S32)} {j : Nat} (w : Int) (hj : j < ls.length) (hn : ls.length ≤ 1048576) (rl : rd_L2 ls (j : Int) = P) (i : Nat) (hi : ¬ i < P.length) (acc : List (List S32)) (k : Nat) : spec_StrokeOf.l1 (k + 1) ls w acc (j : Int) (i : Int) = spec_StrokeOf.l0 k ls w acc ((j + 1 : Nat) : Int) := by
  rw [spec_StrokeOf.l1, if_pos (show (0 : Int) ≤ (j : Int) by omega), if_pos (show (j : Int) < (ls.length : Int) by omega), rl, if_neg (by omega), step64 hj (by omega)]
theorem st_bad {P : List S32} {ls : List (List S32)} {j : Nat} (w : Int) (hj : j < ls.length) (rl : rd_L2 ls (j : Int) = P) (i : Nat) (hi : i < P.length) (hb : ¬ pointOkP P[i].f0 P[i].f1) (acc : List (List S32)) (k : Nat) : spec_StrokeOf.l1 (k + 1) ls w acc (j : Int) (i : Int) = some [] := by
  have r1 := rd_impl_Point P i hi
  have hp : spec_PointOk.f P[i].f0 P[i].f1 = some false := by
    rw [spec_PointOk_v, decide_eq_false hb]
  rw [spec_StrokeOf.l1, if_pos (show (0 : Int) ≤ (j : Int) by omega), if_pos (show (j : Int) < (ls.length : Int) by omega), rl, if_pos (show (i : Int) < (P.length : Int) by omega), if_pos (show (0 : Int) ≤ (i : Int) by omega), r1, hp, Option.bind_some, if_neg (by decide)]
theorem st_first {P : List S32} {ls : List (List S32)} {j : Nat} (w : Int) (hj : j < ls.length) (rl : rd_L2 ls (j : Int) = P) (hi : 0 < P.length) (hb : pointOkP P[0].f0 P[0].f1) (acc : List (List S32)) (k : Nat) : spec_StrokeOf.l1 (k + 1) ls w acc (j : Int) 0 = spec_StrokeOf.l1 k ls w acc (j : Int) ((1 : Nat) : Int) := by
  have r1 : rd_T32 P 0 = P[0] := rd_impl_Point P 0 hi
  have hp : spec_PointOk.f P[0].f0 P[0].f1 = some true := by
    rw [spec_PointOk_v, decide_eq_true hb]
  rw [spec_StrokeOf.l1, if_pos (show (0 : Int) ≤ (j : Int) by omega), if_pos (show (j : Int) < (ls.length : Int) by omega), rl, if_pos (show (0 : Int) < (P.length : Int) by omega), if_pos (show (0 : Int) ≤ 0 by omega), r1, hp, Option.bind_some, if_pos rfl, if_neg (show ¬ ((0 : Int) > 0) by omega), w64 (x := 0 + 1) (by omega) (by omega)]
  rfl
section
variable {P : List S32} {w : Int} {ls : List (List S32)} {j : Nat} (hU : P.length ≤ 1048576) (hw : 1 ≤ w ∧ w ≤ 2048) (hj : j < ls.length) (hP : ls[j] = P) (hJn : ls.length ≤ 1048576)
include hU hj hP
theorem rl_ : rd_L2 ls (j : Int) = P := by
  have _ := hU
  rw [rd_impl_PointSS ls j hj, hP]
theorem spec_st (i : Nat) (acc : List (List S32)) (hi2 : i < P.length) (h1 : 1 ≤ i) (hok : pointOkP P[i].f0 P[i].f1) (k : Nat) : spec_StrokeOf.l1 (k + 1) ls w acc (j : Int) (i : Int) = (spec_QuadOf.f k (P[i - 1]'(by omega)).f0 (P[i - 1]'(by omega)).f1 P[i].f0 P[i].f1 w).bind fun q => (if (q.length : Int) > 0 then (if acc.length < 5864062014805 then (if ((i + 1 : Nat) : Int) < (P.length : Int) then (if (acc ++ [q]).length < 5864062014805 then (spec_StrokeOf.l1 k ls w (acc ++ [q] ++ [jointP w P[i]]) (j : Int) ((i + 1 : Nat) : Int)) else none) else (spec_StrokeOf.l1 k ls w (acc ++ [q]) (j : Int) ((i + 1 : Nat) : Int))) else none) else (if ((i + 1 : Nat) : Int) < (P.length : Int) then (if acc.length < 5864062014805 then (spec_StrokeOf.l1 k ls w (acc ++ [jointP w P[i]]) (j : Int) ((i + 1 : Nat) : Int)) else none) else (spec_StrokeOf.l1 k ls w acc (j : Int) ((i + 1 : Nat) : Int)))) := by
  have hi1 : i - 1 < P.length := by omega
  have rl := rl_ hU hj hP
  have ei : wrap64 ((i : Int) - 1) = ((i - 1 : Nat) : Int) := by
    rw [w64 (by omega) (by omega)]
    omega
  have e1 : wrap64 ((i : Int) + 1) = ((i + 1 : Nat) : Int) := step64 hi2 (by omega)
  have r0 := rd_impl_Point P (i - 1) hi1
  have r1 := rd_impl_Point P i hi2
  have hJ2 := joint_s w P[i]
  have hp : spec_PointOk.f P[i].f0 P[i].f1 = some true := by
    rw [spec_PointOk_v, decide_eq_true hok]
  generalize jointP w P[i] = J at hJ2 ⊢
  have hi : ((i : Nat) : Int) < (P.length : Int) := by omega
  have hi0 : (0 : Int) ≤ (i : Int) := by omega
  have hip : (i : Int) > 0 := by omega
  have him : (0 : Int) ≤ ((i - 1 : Nat) : Int) := by omega
  have hil : ((i - 1 : Nat) : Int) < (P.length : Int) := by omega
  rw [spec_StrokeOf.l1, if_pos (show (0 : Int) ≤ (j : Int) by omega), if_pos (show (j : Int) < (ls.length : Int) by omega), rl, if_pos hi, if_pos hi0, r1, hp, Option.bind_some, if_pos rfl, if_pos hip, ei, if_pos him, if_pos hil, r0, e1, hJ2]
  rfl
include hw
/-- One point of a line: what both programs lay down. -/
theorem step_st (i : Nat) (hi2 : i < P.length) (h1 : 1 ≤ i) (hok : pointOkP P[i].f0 P[i].f1) : ∃ X : List (List S32), X.length ≤ 2 ∧ (∀ v ∈ X, v.length = 4) ∧
    (∀ acc r, acc.length ≤ 8388608 → Ev (fun k => spec_StrokeOf.l1 k ls w (acc ++ X) (j : Int) ((i + 1 : Nat) : Int)) r → Ev (fun k => spec_StrokeOf.l1 k ls w acc (j : Int) (i : Int)) r) ∧
    (∀ acc r, acc.length ≤ 8388608 → (i + 1 < P.length → Ev (fun k => impl_strokeOf.l0 k P w (acc ++ X) ((i + 1 : Nat) : Int)) r) → (¬ i + 1 < P.length → r = acc ++ X) → Ev (fun k => impl_strokeOf.l0 k P w acc (i : Int)) r) := by
  have hi1 : i - 1 < P.length := by omega
  have ei : wrap64 ((i : Int) - 1) = ((i - 1 : Nat) : Int) := by
    rw [w64 (by omega) (by omega)]
    omega
  have e1 : wrap64 ((i : Int) + 1) = ((i + 1 : Nat) : Int) := step64 hi2 (by omega)
  have eL : wrap64 ((P.length : Int) - 1) = (P.length : Int) - 1 := w64 (by omega) (by omega)
  have r0 := rd_impl_Point P (i - 1) hi1
  have r1 := rd_impl_Point P i hi2
  have c0 : (i : Int) < (P.length : Int) := by omega
  have c1 : (0 : Int) ≤ ((i - 1 : Nat) : Int) := by omega
  have c2 : ((i - 1 : Nat) : Int) < (P.length : Int) := by omega
  have c3 : (0 : Int) ≤ (i : Int) := by omega
  have hJ := joint_i w P[i]
  have st := fun acc k => spec_st (w := w) hU hj hP i acc hi2 h1 hok k
  generalize jointP w P[i] = J at hJ st
  have hJ4 : J.length = 4 := hJ.2
  replace hJ := hJ.1
  obtain ⟨q, hs, hq, hc⟩ := quad_w P[i - 1].f0 P[i - 1].f1 P[i].f0 P[i].f1 w hw
  rcases hc with rfl | q4
  · by_cases hd : i + 1 < P.length
    · refine ⟨[J], by simp, by simpa using hJ4, fun acc r ha h => ?_, fun acc r ha h h' => ?_⟩
      · refine Ev.step (st acc) (Ev.bind hs ?_)
        simp only [List.length_nil, if_neg (show ¬ (((0 : Nat) : Int) > 0) by omega), if_pos (show ((i + 1 : Nat) : Int) < (P.length : Int) by omega), if_pos (show acc.length < 5864062014805 by omega)]
        exact h
      · refine Ev.step (fun k => rfl) ?_
        simp only [impl_strokeOf.l0, if_pos c0, ei, if_pos c1, if_pos c2, if_pos c3, r0, r1]
        refine Ev.bind hq ?_
        simp only [eL, e1, List.length_nil, if_neg (show ¬ (((0 : Nat) : Int) > 0) by omega), if_neg (show ¬ ((i : Int) = (P.length : Int) - 1) by omega), hJ, Option.bind_some, if_pos (show acc.length < 5864062014805 by omega)]
        exact h hd
    · refine ⟨[], by simp, by simp, fun acc r ha h => ?_, fun acc r ha h h' => ?_⟩
      · refine Ev.step (st acc) (Ev.bind hs ?_)
        simp only [List.length_nil, if_neg (show ¬ (((0 : Nat) : Int) > 0) by omega), if_neg (show ¬ (((i + 1 : Nat) : Int) < (P.length : Int)) by omega)]
        rw [List.append_nil] at h
        exact h
      · refine Ev.step (fun k => rfl) ?_
        simp only [impl_strokeOf.l0, if_pos c0, ei, if_pos c1, if_pos c2, if_pos c3, r0, r1]
        refine Ev.bind hq ?_
        rw [h' hd]
        simp only [eL, List.length_nil, if_neg (show ¬ (((0 : Nat) : Int) > 0) by omega), if_pos (show (i : Int) = (P.length : Int) - 1 by omega), List.append_nil]
        exact Ev.now _
  · have q0 : (q.length : Int) > 0 := by omega
    by_cases hd : i + 1 < P.length
    · refine ⟨[q, J], by simp, by simpa using ⟨q4, hJ4⟩, fun acc r ha h => ?_, fun acc r ha h h' => ?_⟩
      · refine Ev.step (st acc) (Ev.bind hs ?_)
        simp only [if_pos q0, if_pos (show acc.length < 5864062014805 by omega), if_pos (show ((i + 1 : Nat) : Int) < (P.length : Int) by omega), if_pos (show (acc ++ [q]).length < 5864062014805 by simp; omega)]
        rw [show acc ++ [q] ++ [J] = acc ++ [q, J] by simp]
        exact h
      · refine Ev.step (fun k => rfl) ?_
        simp only [impl_strokeOf.l0, if_pos c0, ei, if_pos c1, if_pos c2, if_pos c3, r0, r1]
        refine Ev.bind hq ?_
        simp only [eL, e1, if_pos q0, if_pos (show acc.length < 5864062014805 by omega), Option.bind_some, if_neg (show ¬ ((i : Int) = (P.length : Int) - 1) by omega), hJ, if_pos (show (acc ++ [q]).length < 5864062014805 by simp; omega)]
        rw [show acc ++ [q] ++ [J] = acc ++ [q, J] by simp]
        exact h hd
    · refine ⟨[q], by simp, by simpa using q4, fun acc r ha h => ?_, fun acc r ha h h' => ?_⟩
      · refine Ev.step (st acc) (Ev.bind hs ?_)
        simp only [if_pos q0, if_pos (show acc.length < 5864062014805 by omega), if_neg (show ¬ (((i + 1 : Nat) : Int) < (P.length : Int)) by omega)]
        exact h
      · refine Ev.step (fun k => rfl) ?_
        simp only [impl_strokeOf.l0, if_pos c0, ei, if_pos c1, if_pos c2, if_pos c3, r0, r1]
        refine Ev.bind hq ?_
        rw [h' hd]
        simp only [eL, if_pos q0, if_pos (show acc.length < 5864062014805 by omega), Option.bind_some, if_pos (show (i : Int) = (P.length : Int) - 1 by omega)]
        exact Ev.now _
include hJn
theorem scan : ∀ (d i : Nat), i + d = P.length → 1 ≤ i →
    (∃ R : List (List S32), R.length ≤ 2 * d ∧ (∀ v ∈ R, v.length = 4) ∧ Ev (fun k => impl_pointsOk.l0 k P (P.length : Int) (i : Int)) true ∧ (∀ acc, acc.length + 2 * d ≤ 8388608 → Ev (fun k => impl_strokeOf.l0 k P w acc (i : Int)) (acc ++ R)) ∧
      ∀ acc r, acc.length + 2 * d ≤ 8388608 → Ev (fun k => spec_StrokeOf.l0 k ls w (acc ++ R) ((j + 1 : Nat) : Int)) r → Ev (fun k => spec_StrokeOf.l1 k ls w acc (j : Int) (i : Int)) r) ∨
    (Ev (fun k => impl_pointsOk.l0 k P (P.length : Int) (i : Int)) false ∧ ∀ acc, acc.length + 2 * d ≤ 8388608 → Ev (fun k => spec_StrokeOf.l1 k ls w acc (j : Int) (i : Int)) []) := by
  have rl := rl_ hU hj hP
  intro d
  induction d with
  | zero =>
    intro i hi h1
    refine .inl ⟨[], by simp, by simp, ev_done (fun k => ?_), fun acc ha => ev_done (fun k => ?_), fun acc r ha h => ?_⟩
    · simp only [impl_pointsOk.l0]
      rw [if_neg (by omega)]
    · simp only [impl_strokeOf.l0]
      rw [if_neg (by omega), List.append_nil]
    · rw [List.append_nil] at h
      exact Ev.step (st_end w hj hJn rl i (by omega) acc) h
  | succ d ih =>
    intro i hi h1
    have hi2 : i < P.length := by omega
    have r1 := rd_impl_Point P i hi2
    by_cases hok : pointOkP P[i].f0 P[i].f1
    · have hs1 : ∀ b, Ev (fun k => impl_pointsOk.l0 k P (P.length : Int) ((i + 1 : Nat) : Int)) b → Ev (fun k => impl_pointsOk.l0 k P (P.length : Int) (i : Int)) b := fun b h => by
        refine Ev.step (fun k => ?_) h
        simp only [impl_pointsOk.l0, r1, impl_PointOk_v, Option.bind_some, decide_eq_true hok, if_true]
        rw [if_pos (by omega), if_pos (by omega), if_pos (by omega), step64 hi2 (by omega)]
      obtain ⟨X, x2, x4, xs, xi⟩ := step_st hU hw hj hP i hi2 h1 hok
      rcases ih (i + 1) (by omega) (by omega) with ⟨R, hl, h4, hpt, hI, hS⟩ | ⟨hpf, hS⟩
      · refine .inl ⟨X ++ R, by rw [List.length_append]; omega, fun v hv => (List.mem_append.mp hv).elim (x4 v) (h4 v), hs1 _ hpt, fun acc ha => ?_, fun acc r ha h => ?_⟩
        · rw [← List.append_assoc]
          refine xi acc _ (by omega) (fun _ => hI (acc ++ X) (by rw [List.length_append]; omega)) (fun hd => ?_)
          obtain rfl : R = [] := List.eq_nil_of_length_eq_zero (by omega)
          rw [List.append_nil]
        · rw [← List.append_assoc] at h
          exact xs acc r (by omega) (hS (acc ++ X) r (by rw [List.length_append]; omega) h)
      · exact .inr ⟨hs1 _ hpf, fun acc ha => xs acc [] (by omega) (hS (acc ++ X) (by rw [List.length_append]; omega))⟩
    · refine .inr ⟨ev_done (fun k => ?_), fun acc ha => ev_done (fun k => ?_)⟩
      · simp only [impl_pointsOk.l0, r1, impl_PointOk_v, Option.bind_some, decide_eq_false hok]
        rw [if_pos (by omega), if_pos (by omega), if_pos (by omega)]
        rfl
      · exact st_bad w hj rl i hi2 hok acc k
end
def totI : List (List S32) → Nat
  | [] => 0
  | x :: xs => x.length + totI xs
theorem totI_conv : ∀ l : List (List S157), ((totI (l.map (List.map convPoint)) : Nat) : Int) = totL l
  | [] => rfl
  | x :: xs => by
    rw [List.map_cons, totI, totL, List.length_map, ← totI_conv xs]
    omega
section
variable {ls : List (List S32)} {w : Int} (hw : 1 ≤ w ∧ w ≤ 2048) (hn : ls.length ≤ 1048576) (hm : ∀ x ∈ ls, x.length ≤ 1048576)
include hw hn hm
theorem outer : ∀ (d j : Nat) (acc : List (List S32)), j + d = ls.length → (∀ v ∈ acc, v.length = 4) → acc.length + 2 * totI (ls.drop j) ≤ 4194304 →
    ∃ Q : List (List S32), Q.length ≤ 4194304 ∧ (∀ v ∈ Q, v.length = 4) ∧ Ev (fun k => impl_StrokeOf.l0 k w acc ls (ls.length : Int) (j : Int)) Q ∧ Ev (fun k => spec_StrokeOf.l0 k ls w acc (j : Int)) Q := by
  intro d
  induction d with
  | zero =>
    intro j acc hj h4 hb
    refine ⟨acc, by omega, h4, ev_done (fun k => ?_), ev_done (fun k => ?_)⟩
    · simp only [impl_StrokeOf.l0]
      rw [if_neg (by omega)]
    · simp only [spec_StrokeOf.l0]
      rw [if_neg (by omega)]
  | succ d ih =>
    intro j acc hj h4 hb
    have hj2 : j < ls.length := by omega
    rw [List.drop_eq_getElem_cons hj2, totI] at hb
    have hU := hm _ (List.getElem_mem hj2)
    have rl := rd_impl_PointSS ls j hj2
    generalize hP : ls[j] = P at hb hU rl
    have eI : ∀ Q (b : Bool) (R : List (List S32)), Ev (fun k => impl_pointsOk.f k P) b → (b = true → Ev (fun k => impl_strokeOf.f k P w) R ∧ acc.length + R.length < 5864062014805 ∧ Ev (fun k => impl_StrokeOf.l0 k w (acc ++ R) ls (ls.length : Int) ((j + 1 : Nat) : Int)) Q) → (b = false → Q = []) → Ev (fun k => impl_StrokeOf.l0 k w acc ls (ls.length : Int) (j : Int)) Q := fun Q b R hb1 h1 h2 => by
      refine Ev.step (fun k => rfl) ?_
      simp only [impl_StrokeOf.l0, if_pos (show (j : Int) < (ls.length : Int) by omega), if_pos (show (0 : Int) ≤ (j : Int) by omega), rl, step64 hj2 (show ls.length ≤ 4611686018427387904 by omega)]
      refine Ev.bind hb1 ?_
      cases b with
      | true =>
        obtain ⟨g1, g2, g3⟩ := h1 rfl
        simp only [if_true]
        refine Ev.bind g1 ?_
        simp only [if_pos g2]
        exact g3
      | false =>
        rw [h2 rfl]
        simp only [Bool.false_eq_true, if_false]
        exact Ev.now _
    have eS : ∀ Q, Ev (fun k => spec_StrokeOf.l1 k ls w acc (j : Int) 0) Q → Ev (fun k => spec_StrokeOf.l0 k ls w acc (j : Int)) Q := fun Q h => by
      refine Ev.step (fun k => ?_) h
      simp only [spec_StrokeOf.l0]
      rw [if_pos (by omega)]
    by_cases h0 : P.length = 0
    · obtain ⟨Q, q1, q2, q3, q4⟩ := ih (j + 1) acc (by omega) h4 (by omega)
      refine ⟨Q, q1, q2, eI Q true [] (ev_done (fun k => ?_)) (fun _ => ⟨ev_done (fun k => ?_), by simp; omega, by rw [List.append_nil]; exact q3⟩) (fun h => by cases h), eS Q ?_⟩
      · simp only [impl_pointsOk.f, impl_pointsOk.l0]
        rw [if_neg (by omega)]
      · simp only [impl_strokeOf.f, impl_strokeOf.l0]
        rw [if_neg (by omega)]
      · exact Ev.step (st_end w hj2 hn rl 0 (by omega) acc) q4
    · have hi2 : 0 < P.length := by omega
      have r1 : rd_T32 P 0 = P[0] := rd_impl_Point P 0 hi2
      by_cases hok : pointOkP P[0].f0 P[0].f1
      · have hs1 : ∀ b, Ev (fun k => impl_pointsOk.l0 k P (P.length : Int) ((1 : Nat) : Int)) b → Ev (fun k => impl_pointsOk.f k P) b := fun b h => by
          refine Ev.step (f := fun k => impl_pointsOk.l0 k P (P.length : Int) ((1 : Nat) : Int)) (fun k => ?_) h
          simp only [impl_pointsOk.f, impl_pointsOk.l0, r1, impl_PointOk_v, Option.bind_some, decide_eq_true hok, if_true]
          rw [if_pos (by omega), if_pos (by omega), if_pos (by omega), w64 (x := 0 + 1) (by omega) (by omega)]
          rfl
        have s0 : ∀ Q, Ev (fun k => spec_StrokeOf.l1 k ls w acc (j : Int) ((1 : Nat) : Int)) Q → Ev (fun k => spec_StrokeOf.l1 k ls w acc (j : Int) 0) Q := fun Q h => by
          exact Ev.step (st_first w hj2 rl hi2 hok acc) h
        rcases scan hU hw hj2 hP hn (P.length - 1) 1 (by omega) (by omega) with ⟨R, hl, hR4, hpt, hI, hS⟩ | ⟨hpf, hS⟩
        · obtain ⟨Q, q1, q2, q3, q4⟩ := ih (j + 1) (acc ++ R) (by omega) (fun v hv => (List.mem_append.mp hv).elim (h4 v) (hR4 v)) (by rw [List.length_append]; omega)
          exact ⟨Q, q1, q2, eI Q true R (hs1 _ hpt) (fun _ => ⟨by have := hI [] (by simp; omega); rw [List.nil_append] at this; exact this, by omega, q3⟩) (fun h => by cases h), eS Q (s0 Q (hS acc Q (by omega) q4))⟩
        · exact ⟨[], by simp, by simp, eI [] false [] (hs1 _ hpf) (fun h => by cases h) (fun _ => rfl), eS [] (s0 [] (hS acc (by omega)))⟩
      · refine ⟨[], by simp, by simp, eI [] false [] (ev_done (fun k => ?_)) (fun h => by cases h) (fun _ => rfl), eS [] (ev_done (fun k => ?_))⟩
        · simp only [impl_pointsOk.f, impl_pointsOk.l0, r1, impl_PointOk_v, Option.bind_some, decide_eq_false hok]
          rw [if_pos (by omega), if_pos (by omega), if_pos (by omega)]
          rfl
        · exact st_bad w hj2 rl 0 hi2 hok acc k
end
theorem StrokeOf_v {ls : List (List S32)} (w : Int) (hn : ls.length ≤ 1048576) (hm : ∀ x ∈ ls, x.length ≤ 1048576) (ht : totI ls ≤ 1048576) : ∃ Q : List (List S32), Q.length ≤ 4194304 ∧ (∀ v ∈ Q, v.length = 4) ∧ Ev (fun k => spec_StrokeOf.f k ls w) Q ∧ Ev (fun k => impl_StrokeOf.f k ls w) Q := by
  unfold spec_StrokeOf.f impl_StrokeOf.f impl_isWidth.f
  simp only [spec_l01In_v, impl_inRange_v, Option.bind_some]
  by_cases hw : 1 ≤ w ∧ w ≤ 2048
  · obtain ⟨Q, q1, q2, q3, q4⟩ := outer hw hn hm ls.length 0 [] (by omega) (by simp) (by simp; omega)
    refine ⟨Q, q1, q2, ?_, ?_⟩
    · simp only [decide_eq_true hw, if_true]
      exact q4
    · simp only [decide_eq_true hw, if_true]
      exact q3
  · refine ⟨[], by simp, by simp, ?_, ?_⟩
    · simp only [decide_eq_false hw, Bool.false_eq_true, if_false]
      exact Ev.now _
    · simp only [decide_eq_false hw, Bool.false_eq_true, if_false]
      exact Ev.now _
theorem eqSS_l (x0 : List (List S32)) (hn : x0.length ≤ 4194304) (hm : ∀ x ∈ x0, x.length ≤ 1048576) : ∀ (d i : Nat), i + d = x0.length → Ev (fun k => laws_eqPointSS.l0 k x0 x0 (i : Int)) true := by
  intro d
  induction d with
  | zero =>
    intro i hi
    refine ev_done (fun k => ?_)
    simp only [laws_eqPointSS.l0]
    rw [if_neg (by omega)]
  | succ d ih =>
    intro i hi
    have hi2 : i < x0.length := by omega
    refine Ev.step (f := fun k => (laws_eqPointS.f k x0[i] x0[i]).bind fun t => if t = true then laws_eqPointSS.l0 k x0 x0 ((i + 1 : Nat) : Int) else some false) (fun k => ?_) (Ev.bind (laws_eqPointS_v _ (hm _ (List.getElem_mem hi2))) ?_)
    · simp only [laws_eqPointSS.l0]
      rw [if_pos (by omega), if_pos (by omega), if_pos (by omega), step64 hi2 (by omega), rd_impl_PointSS _ _ hi2]
    · simp only [if_true]
      exact ih (i + 1) (by omega)
theorem eqSS_v (x0 : List (List S32)) (hn : x0.length ≤ 4194304) (hm : ∀ x ∈ x0, x.length ≤ 1048576) : Ev (fun k => laws_eqPointSS.f k x0 x0) true := by
  refine Ev.congr (fun k => ?_) (eqSS_l x0 hn hm x0.length 0 (by omega))
  unfold laws_eqPointSS.f
  rw [if_pos rfl]
  rfl
theorem take_get {α : Type} {R x : List α} {i : Nat} (h : R.take (i + 1) = x.take (i + 1)) (hR : i < R.length) (hx : i < x.length) : R[i] = x[i] := by
  have h1 : (R.take (i + 1))[i]? = R[i]? := by rw [List.getElem?_take_of_lt (by omega)]
  have h2 : (x.take (i + 1))[i]? = x[i]? := by rw [List.getElem?_take_of_lt (by omega)]
  rw [h, h2, List.getElem?_eq_getElem hx, List.getElem?_eq_getElem hR] at h1
  exact (Option.some.inj h1).symm
theorem take_less {α : Type} {R x : List α} {i : Nat} (h : R.take (i + 1) = x.take (i + 1)) : R.take i = x.take i := by
  have := congrArg (List.take i) h
  rwa [List.take_take, List.take_take, Nat.min_eq_left (by omega)] at this
theorem markS_l : ∀ (d i : Nat) (x0 : List S32) (z : Int), i + d = x0.length → x0.length ≤ 1048576 → 0 ≤ z → z + 2 * d ≤ 1152921504606846976 → ∃ R : List S32, R.length = x0.length ∧ R.take i = x0.take i ∧ Ev (fun k => laws_markPointS.l0 k x0 z (i : Int)) (z + 2 * (d : Int), R) ∧ Ev (fun k => laws_heldPointS.l0 k R z (i : Int)) (z + 2 * (d : Int)) := by
  intro d
  induction d with
  | zero =>
    intro i x0 z hi _ _ _
    refine ⟨x0, rfl, rfl, ev_done (fun k => ?_), ev_done (fun k => ?_)⟩
    · simp only [laws_markPointS.l0]
      rw [if_neg (by omega)]
      simp
    · simp only [laws_heldPointS.l0]
      rw [if_neg (by omega)]
      simp
  | succ d ih =>
    intro i x0 z hi hn h0 h1
    have hi2 : i < x0.length := by omega
    have e1 : wrap64 (z + 1) = z + 1 := w64 (by omega) (by omega)
    have e2 : wrap64 (z + 1 + 1) = z + 2 := by rw [w64 (by omega) (by omega)]; omega
    have e3 : z + 2 * ((d + 1 : Nat) : Int) = z + 2 + 2 * (d : Int) := by omega
    have ea : (rd_T32 (x0.set i ⟨z, (rd_T32 x0 (i : Int)).f1⟩) (i : Int)).f0 = z := by
      rw [rd_impl_Point _ i (by simpa using hi2)]
      simp
    obtain ⟨R, hl, ht, hM, hH⟩ := ih (i + 1) ((x0.set i ⟨z, (rd_T32 x0 (i : Int)).f1⟩).set i ⟨(rd_T32 (x0.set i ⟨z, (rd_T32 x0 (i : Int)).f1⟩) (i : Int)).f0, z + 1⟩) (z + 2) (by simp; omega) (by simpa using hn) (by omega) (by omega)
    have hl2 : R.length = x0.length := by simpa using hl
    have hR : R[i]'(by omega) = ⟨z, z + 1⟩ := by
      rw [take_get ht (by omega) (by simpa using hi2), ea]
      simp
    refine ⟨R, hl2, ?_, ?_, ?_⟩
    · rw [take_less ht, List.take_set_of_le (by omega), List.take_set_of_le (by omega)]
    · rw [e3]
      refine Ev.step (fun k => ?_) hM
      simp only [laws_markPointS.l0]
      rw [if_pos (by omega), if_pos (by omega), Option.bind_some, e1, e2, step64 hi2 (by omega)]
      rfl
    · rw [e3]
      refine Ev.step (fun k => ?_) hH
      simp only [laws_heldPointS.l0, rd_impl_Point R i (by omega), hR, if_true]
      rw [if_pos (by omega), if_pos (by omega), e1, if_pos rfl, e2, step64 hi2 (by omega)]
theorem markSS_l : ∀ (d i : Nat) (x0 : List (List S32)) (z : Int), i + d = x0.length → x0.length ≤ 4194304 → (∀ (j : Nat) (h : j < x0.length), i ≤ j → x0[j].length ≤ 1048576) → 0 ≤ z → z + 2097152 * d ≤ 1152921504606846976 →
    ∃ (K : Int) (R : List (List S32)), R.length = x0.length ∧ R.take i = x0.take i ∧ Ev (fun k => laws_markPointSS.l0 k x0 z (i : Int)) (K, R) ∧ 0 ≤ K ∧ Ev (fun k => laws_heldPointSS.l0 k R z (i : Int)) K := by
  intro d
  induction d with
  | zero =>
    intro i x0 z hi _ _ h0 _
    refine ⟨z, x0, rfl, rfl, ev_done (fun k => ?_), h0, ev_done (fun k => ?_)⟩
    · simp only [laws_markPointSS.l0]
      rw [if_neg (by omega)]
    · simp only [laws_heldPointSS.l0]
      rw [if_neg (by omega)]
  | succ d ih =>
    intro i x0 z hi hn hm h0 h1
    have hi2 : i < x0.length := by omega
    have hl := hm i hi2 (Nat.le_refl _)
    obtain ⟨S, _, _, hM, hH⟩ := markS_l x0[i].length 0 x0[i] z (by omega) hl h0 (by omega)
    obtain ⟨K, R, hRl, hRt, hMs, hK, hHs⟩ := ih (i + 1) (x0.set i S) (z + 2 * (x0[i].length : Int)) (by simp; omega) (by simpa using hn) (fun j hj hij => by
      rw [List.getElem_set_ne (by omega)]
      exact hm j (by simpa using hj) (by omega)) (by omega) (by omega)
    have hl2 : R.length = x0.length := by simpa using hRl
    have hR : R[i]'(by omega) = S := by
      rw [take_get hRt (by omega) (by simpa using hi2)]
      simp
    refine ⟨K, R, hl2, ?_, ?_, hK, ?_⟩
    · rw [take_less hRt, List.take_set_of_le (by omega)]
    · refine Ev.step (f := fun k => (laws_markPointS.f k x0[i] z).bind fun bt => laws_markPointSS.l0 k (x0.set i bt.2) bt.1 ((i + 1 : Nat) : Int)) (fun k => ?_) (Ev.bind hM hMs)
      simp only [laws_markPointSS.l0]
      rw [if_pos (by omega), if_pos (by omega), rd_impl_PointSS _ _ hi2, step64 hi2 (by omega)]
      rfl
    · refine Ev.step (f := fun k => (laws_heldPointS.f k S z).bind fun t => if t < 0 then some (-1) else laws_heldPointSS.l0 k R t ((i + 1 : Nat) : Int)) (fun k => ?_) (Ev.bind hH ?_)
      · simp only [laws_heldPointSS.l0, rd_impl_PointSS R i (by omega), hR]
        rw [if_pos (by omega), if_pos (by omega), step64 (n := R.length) (by omega) (by omega)]
      · simp only [if_neg (show ¬ (z + 2 * (x0[i].length : Int) < 0) by omega)]
        exact hHs
theorem pure : PureS := by
  intro l a1 hl wa
  have hz := laws_szPointSS_v l hl.1 (fun x hx => (hl.2 x hx).1) 1048576 (by omega) (by omega)
  by_cases h : (l.length : Int) + totL l ≤ 1048576
  · rw [if_pos h] at hz
    obtain ⟨hn, hm⟩ := sz_small h
    obtain ⟨hn2, hm2⟩ := convLL hn hm
    have ht := laws_toPointSS_v l hn hm
    have e0 : ¬ (1048576 - (l.length : Int) - totL l < 0) := by omega
    have hT := totI_conv l
    obtain ⟨Q, q1, q2, k1, k2⟩ := StrokeOf_v a1 hn2 hm2 (by omega)
    have qm : ∀ v ∈ Q, v.length ≤ 1048576 := fun v hv => by rw [q2 v hv]; omega
    have he := eqSS_v Q q1 qm
    obtain ⟨K, R, _, _, hM, hK, _⟩ := markSS_l (l.map (List.map convPoint)).length 0 (l.map (List.map convPoint)) 1 (by omega) (by omega) (fun j hj _ => hm2 _ (List.getElem_mem hj)) (by omega) (by omega)
    obtain ⟨K2, R2, _, _, hM2, hK2, hH2⟩ := markSS_l Q.length 0 Q 1 (by omega) q1 (fun j hj _ => qm _ (List.getElem_mem hj)) (by omega) (by omega)
    replace hM : Ev (fun k => laws_markPointSS.f k (l.map (List.map convPoint)) 1) (K, R) := hM
    replace hM2 : Ev (fun k => laws_markPointSS.f k Q 1) (K2, R2) := hM2
    replace hH2 : Ev (fun k => laws_heldPointSS.f k R2 1) K2 := hH2
    refine Ev.rounds ?_
    simp only [laws_FnExactStrokeOf.f]
    refine Ev.bind hz ?_
    simp only [if_neg e0]
    refine Ev.bind ht (Ev.bind k1 (Ev.bind ht (Ev.bind k2 (Ev.bind he ?_))))
    simp only [if_true]
    refine Ev.bind ht (Ev.bind (laws_eqPointSS_v _ hn2 hm2) ?_)
    simp only [if_true]
    refine Ev.bind hM ?_
    simp only [if_neg (show ¬ K < 0 by omega)]
    refine Ev.bind he ?_
    simp only [Bool.not_true]
    refine Ev.step (fun k => rfl) ?_
    simp only [laws_FnExactStrokeOf.j0, Bool.false_eq_true, if_false]
    refine Ev.bind hM2 (Ev.bind hH2 ?_)
    simp only [if_neg (show ¬ K2 < 0 by omega), if_true]
    refine Ev.bind ht (Ev.bind k2 (Ev.bind he ?_))
    simp only [if_true]
    refine Ev.bind hH2 ?_
    simp only [if_neg (show ¬ K2 < 0 by omega), if_true]
    exact Ev.now true
  · rw [if_neg h] at hz
    refine Ev.rounds ?_
    simp only [laws_FnExactStrokeOf.f]
    refine Ev.bind hz ?_
    exact Ev.now true

end Go.Proofs.Ytgdlbilpfmjeaaa.QFnExactStrokeOf
