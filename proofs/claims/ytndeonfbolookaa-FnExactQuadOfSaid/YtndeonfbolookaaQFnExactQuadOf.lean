/- The pure statement of the law FnExactQuadOf, for every input: what the printed functions compute makes the law answer true. No conditions beyond what the row reads. -/
import Derived.Test.YtndeonfbolookaaTFnExactQuadOf
namespace Go.Proofs.Ytndeonfbolookaa.QFnExactQuadOf
open Go.RowKit Go.Proofs.Ytndeonfbolookaa.PFnExactQuadOf Go.Proofs.Ytndeonfbolookaa.TFnExactQuadOf Go.Proofs.YtndeonfbolookaaW.PrintWords Go.Proofs.YtndeonfbolookaaW.PrintLast
set_option linter.unusedVariables false
set_option linter.unusedSimpArgs false

/-! base -/
theorem w64 {x : Int} (h1 : -9223372036854775808 ≤ x) (h2 : x ≤ 9223372036854775807) : wrap64 x = x := by
  unfold wrap64
  omega

theorem wf64 {x : Int} (h : (Lit.int .i64 x).wf = true) : -9223372036854775808 ≤ x ∧ x ≤ 9223372036854775807 := by
  have h2 : (decide (IntKind.i64.min ≤ x) && decide (x ≤ IntKind.i64.max)) = true := h
  rw [Bool.and_eq_true, decide_eq_true_eq, decide_eq_true_eq] at h2
  exact ⟨h2.1, h2.2⟩

theorem take_set_succ {α : Type} (xs : List α) (i : Nat) (v : α) (h : i < xs.length) : (xs.set i v).take (i + 1) = xs.take i ++ [v] := by
  rw [List.take_succ_eq_append_getElem (by simpa using h), List.take_set_of_le (Nat.le_refl i), List.getElem_set_self]

theorem step64 {i n : Nat} (h : i < n) (hn : n ≤ 4611686018427387904) : wrap64 ((i : Int) + 1) = ((i + 1 : Nat) : Int) := by
  rw [w64 (by omega) (by omega)]
  omega

theorem ev_done {α : Type} {g : Nat → Option α} {r : α} (h : ∀ k, g (k + 1) = some r) : Ev g r := Ev.step (f := fun _ => some r) h (Ev.now r)

theorem ev_const {α : Type} {o : Option α} {r : α} (h : o = some r) : Ev (fun _ => o) r := by
  subst h
  exact Ev.now r

/-! spec_FloorDiv -/
theorem spec_FloorDiv_tot (a b : Int) : ∃ q, spec_FloorDiv.f a b = some q := by
  unfold spec_FloorDiv.f
  by_cases h : b < 1
  · exact ⟨0, by rw [if_pos h]⟩
  · rw [if_neg h, if_neg (by omega)]
    split <;> exact ⟨_, rfl⟩
theorem spec_FloorDiv_v {a b : Int} (ha : -9223372036854775808 ≤ a) (ha2 : a ≤ 9223372036854775807) (hb : 1 ≤ b) (hb2 : b ≤ 9223372036854775807) : spec_FloorDiv.f a b = some (a / b) := by
  have hq : -9223372036854775808 ≤ a / b ∧ a / b ≤ 9223372036854775807 := by
    refine ⟨(Int.le_ediv_iff_mul_le (by omega)).mpr ?_, ?_⟩
    · have : 9223372036854775808 * 1 ≤ 9223372036854775808 * b := Int.mul_le_mul_of_nonneg_left hb (by omega)
      rw [Int.neg_mul]
      omega
    · rcases Int.le_total 0 a with h | h
      · exact Int.le_trans (Int.ediv_le_self b h) ha2
      · have : a / b ≤ 0 := Int.ediv_le_of_le_mul (by omega) (by omega)
        omega
  have hm := Int.emod_nonneg a (show b ≠ 0 by omega)
  have hml := Int.emod_lt_of_pos a (show 0 < b by omega)
  have hd := Int.mul_ediv_add_emod a b
  unfold spec_FloorDiv.f
  rw [if_neg (by omega), if_neg (by omega)]
  by_cases h0 : 0 ≤ a
  · rw [Int.tmod_eq_emod_of_nonneg h0, if_neg (by omega), Int.tdiv_eq_ediv_of_nonneg h0, w64 hq.1 hq.2]
  · have e1 : Int.tdiv a b = if a % b = 0 then a / b else a / b + 1 := by
      rw [Int.tdiv_eq_ediv]
      have hs : b.sign = 1 := Int.sign_eq_one_of_pos (by omega)
      by_cases hz : a % b = 0
      · rw [if_pos hz, if_pos (.inr (Int.dvd_of_emod_eq_zero hz))]
        omega
      · rw [if_neg hz, if_neg (by
          rintro (h | h)
          · omega
          · exact hz (Int.emod_eq_zero_of_dvd h)), hs]
    have e2 : Int.tmod a b = a - b * Int.tdiv a b := by have := Int.mul_tdiv_add_tmod a b; omega
    by_cases hz : a % b = 0
    · rw [if_pos hz] at e1
      rw [if_neg (by rw [e2, e1]; omega), e1, w64 hq.1 hq.2]
    · rw [if_neg hz] at e1
      have hlt : a / b + 1 ≤ 0 := by
        have : a / b < 0 := Int.ediv_neg_of_neg_of_pos (by omega) (by omega)
        omega
      rw [if_pos (by rw [e2, e1, Int.mul_add]; omega), e1, w64 (x := a / b + 1) (by omega) (by omega), w64 (by omega) (by omega)]
      congr 1
      omega

/-! spec_RoundDiv -/
theorem spec_RoundDiv_tot (a b : Int) : ∃ q, spec_RoundDiv.f a b = some q := by
  obtain ⟨q, hq⟩ := spec_FloorDiv_tot a b
  unfold spec_RoundDiv.f
  rw [hq, Option.bind_some]
  split
  · exact ⟨_, rfl⟩
  · split <;> exact ⟨_, rfl⟩

/-! impl_FloorDiv -/
theorem impl_FloorDiv_s (a b : Int) : impl_FloorDiv.f a b = spec_FloorDiv.f a b := rfl

/-! impl_RoundDiv -/
theorem impl_RoundDiv_s (a b : Int) : impl_RoundDiv.f a b = spec_RoundDiv.f a b := rfl

/-! RootP -/
theorem sq_mono {a b : Int} (h0 : 0 ≤ a) (h : a ≤ b) : a * a ≤ b * b := Int.mul_le_mul h h h0 (by omega)
def RootP (n r : Int) : Prop := 0 ≤ r ∧ r ≤ 3037000499 ∧ (r * r ≤ n ∨ r = 0) ∧ (r = 3037000499 ∨ n < (r + 1) * (r + 1))
theorem RootP_lt {n r s : Int} (hr : RootP n r) (hs : RootP n s) : ¬ r < s := by
  intro h
  obtain ⟨h1, h2, h3, h4⟩ := hr
  obtain ⟨g1, g2, g3, g4⟩ := hs
  have q := sq_mono (a := r + 1) (b := s) (by omega) (by omega)
  rcases h4 with h4 | h4
  · omega
  · rcases g3 with g3 | g3
    · omega
    · omega
theorem RootP_unique {n r s : Int} (hr : RootP n r) (hs : RootP n s) : r = s := by
  have h1 := RootP_lt hr hs
  have h2 := RootP_lt hs hr
  omega
theorem half64 {x : Int} (h0 : 0 ≤ x) (h1 : x ≤ 9223372036854775807) : wrap64 (Int.tdiv x 2) = x / 2 := by
  rw [Int.tdiv_eq_ediv_of_nonneg h0, w64 (by omega) (by omega)]

/-! spec_RootOf -/
theorem spec_RootOf_l (n : Int) (hn : 0 ≤ n) (d : Nat) : ∀ (low high : Int), 0 ≤ low → low < high → high ≤ 3037000500 → high - low ≤ d + 1 → low * low ≤ n → (high = 3037000500 ∨ n < high * high) →
    ∃ r, Ev (fun k => spec_RootOf.l0 k n low high) r ∧ RootP n r := by
  induction d with
  | zero =>
    intro low high h0 h1 h2 h3 h4 h5
    obtain rfl : high = low + 1 := by omega
    refine ⟨low, ev_done (fun k => by simp only [spec_RootOf.l0]; rw [w64 (by omega) (by omega), if_neg (by omega)]), h0, by omega, .inl h4, ?_⟩
    rcases h5 with h5 | h5
    · exact .inl (by omega)
    · exact .inr h5
  | succ d ih =>
    intro low high h0 h1 h2 h3 h4 h5
    have e0 : wrap64 (low + 1) = low + 1 := w64 (by omega) (by omega)
    by_cases hlt : low + 1 < high
    · have e1 : wrap64 (low + high) = low + high := w64 (by omega) (by omega)
      have e3 : wrap64 (Int.tdiv (low + high) 2) = (low + high) / 2 := half64 (by omega) (by omega)
      have q := sq_mono (a := (low + high) / 2) (b := 3037000499) (by omega) (by omega)
      have q0 := sq_mono (a := 0) (b := (low + high) / 2) (by omega) (by omega)
      generalize hm : (low + high) / 2 = m at e3 q q0
      have e4 : wrap64 (m * m) = m * m := w64 (by omega) (by omega)
      by_cases hc : m * m ≤ n
      · obtain ⟨r, hr, hp⟩ := ih m high (by omega) (by omega) h2 (by omega) hc h5
        refine ⟨r, Ev.step (fun k => ?_) hr, hp⟩
        simp only [spec_RootOf.l0]
        rw [e0, if_pos hlt, e1, e3, e4, if_pos (by omega), if_pos hc]
      · obtain ⟨r, hr, hp⟩ := ih low m h0 (by omega) (by omega) (by omega) h4 (.inr (by omega))
        refine ⟨r, Ev.step (fun k => ?_) hr, hp⟩
        simp only [spec_RootOf.l0]
        rw [e0, if_pos hlt, e1, e3, e4, if_pos (by omega), if_neg hc]
    · obtain rfl : high = low + 1 := by omega
      refine ⟨low, ev_done (fun k => by simp only [spec_RootOf.l0]; rw [e0, if_neg hlt]), h0, by omega, .inl h4, ?_⟩
      rcases h5 with h5 | h5
      · exact .inl (by omega)
      · exact .inr h5
theorem spec_RootOf_v (n : Int) : ∃ r, Ev (fun k => spec_RootOf.f k n) r ∧ RootP n r := by
  by_cases hn : n < 0
  · refine ⟨0, Ev.congr (fun k => by unfold spec_RootOf.f; rw [if_pos hn]) (Ev.now 0), by omega, by omega, .inr rfl, .inr (by omega)⟩
  · obtain ⟨r, h, hp⟩ := spec_RootOf_l n (by omega) 3037000499 0 3037000500 (by omega) (by omega) (by omega) (by omega) (by omega) (.inl rfl)
    refine ⟨r, Ev.congr (fun k => ?_) h, hp⟩
    unfold spec_RootOf.f
    rw [if_neg hn]

/-! impl_RootOf -/
theorem impl_RootOf_l (n : Int) (d : Nat) : ∀ (low high : Int), 0 ≤ low → low ≤ high → high ≤ 3037000499 → high - low ≤ d → (low * low ≤ n ∨ low = 0) → (high = 3037000499 ∨ n < (high + 1) * (high + 1)) →
    ∃ r, Ev (fun k => impl_RootOf.l0 k n low high) r ∧ RootP n r := by
  induction d with
  | zero =>
    intro low high h0 h1 h2 h3 h4 h5
    obtain rfl : low = high := by omega
    exact ⟨low, ev_done (fun k => by simp only [impl_RootOf.l0]; rw [if_neg (by omega)]), h0, h2, h4, h5⟩
  | succ d ih =>
    intro low high h0 h1 h2 h3 h4 h5
    by_cases hlt : low < high
    · have e1 : wrap64 (low + high) = low + high := w64 (by omega) (by omega)
      have e2 : wrap64 (low + high + 1) = low + high + 1 := w64 (by omega) (by omega)
      have e3 : wrap64 (Int.tdiv (low + high + 1) 2) = (low + high + 1) / 2 := half64 (by omega) (by omega)
      have q := sq_mono (a := (low + high + 1) / 2) (b := 3037000499) (by omega) (by omega)
      have q0 := sq_mono (a := 0) (b := (low + high + 1) / 2) (by omega) (by omega)
      generalize hm : (low + high + 1) / 2 = m at e3 q q0
      have e4 : wrap64 (m * m) = m * m := w64 (by omega) (by omega)
      have e5 : wrap64 (m - 1) = m - 1 := w64 (by omega) (by omega)
      by_cases hc : m * m ≤ n
      · obtain ⟨r, hr, hp⟩ := ih m high (by omega) (by omega) h2 (by omega) (.inl hc) h5
        refine ⟨r, Ev.step (fun k => ?_) hr, hp⟩
        simp only [impl_RootOf.l0]
        rw [if_pos hlt, e1, e2, e3, e4, if_pos hc]
      · obtain ⟨r, hr, hp⟩ := ih low (m - 1) h0 (by omega) (by omega) (by omega) h4 (.inr (by rw [show m - 1 + 1 = m by omega]; omega))
        refine ⟨r, Ev.step (fun k => ?_) hr, hp⟩
        simp only [impl_RootOf.l0]
        rw [if_pos hlt, e1, e2, e3, e4, if_neg hc, e5]
    · obtain rfl : low = high := by omega
      exact ⟨low, ev_done (fun k => by simp only [impl_RootOf.l0]; rw [if_neg (by omega)]), h0, h2, h4, h5⟩
theorem impl_RootOf_v (n : Int) : ∃ r, Ev (fun k => impl_RootOf.f k n) r ∧ RootP n r := impl_RootOf_l n 3037000499 0 3037000499 (by omega) (by omega) (by omega) (by omega) (.inr rfl) (.inl rfl)

/-! spec_l01In -/
theorem spec_l01In_v (a b c : Int) : spec_l01In.f a b c = some (decide (b ≤ a ∧ a ≤ c)) := by
  unfold spec_l01In.f
  by_cases h : a ≥ b
  · rw [if_pos h]
    simp [h]
  · rw [if_neg h]
    simp
    omega

/-! spec_PointOk -/
def pointOkP (a b : Int) : Prop := (-8388608 ≤ a ∧ a ≤ 8388608) ∧ (-8388608 ≤ b ∧ b ≤ 8388608)
instance (a b : Int) : Decidable (pointOkP a b) := by unfold pointOkP; infer_instance
theorem spec_PointOk_v (a b : Int) : spec_PointOk.f a b = some (decide (pointOkP a b)) := by
  unfold spec_PointOk.f pointOkP
  simp only [spec_l01In_v, Option.bind_some, decide_eq_true_eq]
  repeat' split
  all_goals first | (refine congrArg some (decide_eq_decide.mpr ?_); omega) | (refine congrArg some (Eq.symm (decide_eq_false ?_)); omega)

/-! impl_inRange -/
theorem impl_inRange_v (a b c : Int) : impl_inRange.f a b c = some (decide (b ≤ a ∧ a ≤ c)) := by
  unfold impl_inRange.f
  by_cases h : a ≥ b
  · rw [if_pos h]
    simp [h]
  · rw [if_neg h]
    simp
    omega

/-! impl_isFar -/
theorem impl_isFar_v (a : Int) : impl_isFar.f a = some (decide (-8388608 ≤ a ∧ a ≤ 8388608)) := by
  unfold impl_isFar.f
  simp only [impl_inRange_v, Option.bind_some]

/-! impl_PointOk -/
theorem impl_PointOk_v (a b : Int) : impl_PointOk.f a b = some (decide (pointOkP a b)) := by
  unfold impl_PointOk.f pointOkP
  simp only [impl_isFar_v, Option.bind_some, decide_eq_true_eq]
  repeat' split
  all_goals first | (refine congrArg some (decide_eq_decide.mpr ?_); omega) | (refine congrArg some (Eq.symm (decide_eq_false ?_)); omega)

/-! LengthOf -/
theorem LengthOf_v (a b c d : Int) : ∃ r, Ev (fun k => spec_LengthOf.f k a b c d) r ∧ Ev (fun k => impl_LengthOf.f k a b c d) r ∧ 0 ≤ r ∧ r ≤ 3037000499 ∧
    (pointOkP a b → pointOkP c d → RootP ((c - a) * (c - a) + (d - b) * (d - b)) r) ∧ (¬ (pointOkP a b ∧ pointOkP c d) → r = 0) := by
  by_cases h1 : pointOkP a b
  · by_cases h2 : pointOkP c d
    · obtain ⟨r, hr, hp⟩ := impl_RootOf_v ((c - a) * (c - a) + (d - b) * (d - b))
      obtain ⟨s, hs, hq⟩ := spec_RootOf_v ((c - a) * (c - a) + (d - b) * (d - b))
      obtain rfl := RootP_unique hp hq
      obtain ⟨⟨p1, p2⟩, p3, p4⟩ := h1
      obtain ⟨⟨q1, q2⟩, q3, q4⟩ := h2
      have e1 : wrap64 (c - a) = c - a := w64 (by omega) (by omega)
      have e2 : wrap64 (d - b) = d - b := w64 (by omega) (by omega)
      have sq : ∀ x : Int, -16777216 ≤ x → x ≤ 16777216 → 0 ≤ x * x ∧ x * x ≤ 281474976710656 := by
        intro x hx hy
        rcases Int.le_total 0 x with h | h
        · have := sq_mono h hy
          have := sq_mono (a := 0) (by omega) h
          omega
        · have := sq_mono (a := -x) (b := 16777216) (by omega) (by omega)
          have := sq_mono (a := 0) (b := -x) (by omega) (by omega)
          rw [Int.neg_mul_neg] at *
          omega
      have s1 := sq (c - a) (by omega) (by omega)
      have s2 := sq (d - b) (by omega) (by omega)
      have e3 : wrap64 ((c - a) * (c - a)) = (c - a) * (c - a) := w64 (by omega) (by omega)
      have e4 : wrap64 ((d - b) * (d - b)) = (d - b) * (d - b) := w64 (by omega) (by omega)
      have e5 : wrap64 ((c - a) * (c - a) + (d - b) * (d - b)) = (c - a) * (c - a) + (d - b) * (d - b) := w64 (by omega) (by omega)
      refine ⟨r, Ev.congr (fun k => ?_) hs, Ev.congr (fun k => ?_) hr, hp.1, hp.2.1, fun _ _ => hp, fun h => absurd ⟨⟨⟨p1, p2⟩, p3, p4⟩, ⟨q1, q2⟩, q3, q4⟩ h⟩
      · unfold spec_LengthOf.f
        simp only [spec_PointOk_v, Option.bind_some, e1, e2, e3, e4, e5]
        rw [if_pos (decide_eq_true ⟨⟨p1, p2⟩, p3, p4⟩), if_pos (decide_eq_true ⟨⟨q1, q2⟩, q3, q4⟩), Option.bind_fun_some]
      · unfold impl_LengthOf.f
        simp only [impl_PointOk_v, Option.bind_some, e1, e2, e3, e4, e5]
        rw [if_pos (decide_eq_true ⟨⟨p1, p2⟩, p3, p4⟩), if_pos (decide_eq_true ⟨⟨q1, q2⟩, q3, q4⟩), Option.bind_fun_some]
    · refine ⟨0, Ev.congr (fun k => ?_) (Ev.now 0), Ev.congr (fun k => ?_) (Ev.now 0), by omega, by omega, fun _ h => absurd h h2, fun _ => rfl⟩
      · unfold spec_LengthOf.f
        simp only [spec_PointOk_v, Option.bind_some]
        rw [if_pos (decide_eq_true h1), if_neg (by simpa using h2)]
      · unfold impl_LengthOf.f
        simp only [impl_PointOk_v, Option.bind_some]
        rw [if_pos (decide_eq_true h1), if_neg (by simpa using h2)]
  · refine ⟨0, Ev.congr (fun k => ?_) (Ev.now 0), Ev.congr (fun k => ?_) (Ev.now 0), by omega, by omega, fun h _ => absurd h h1, fun _ => rfl⟩
    · unfold spec_LengthOf.f
      simp only [spec_PointOk_v, Option.bind_some]
      rw [if_neg (by simpa using h1)]
    · unfold impl_LengthOf.f
      simp only [impl_PointOk_v, Option.bind_some]
      rw [if_neg (by simpa using h1)]

/-! SideOf -/
theorem SideOf_v (a b c d w : Int) : ∃ x y : Int, Ev (fun k => spec_SideOf.f k a b c d w) (x, y) ∧ Ev (fun k => impl_SideOf.f k a b c d w) (x, y) := by
  obtain ⟨l, h1, h2, _⟩ := LengthOf_v a b c d
  obtain ⟨x, hx⟩ := spec_RoundDiv_tot (wrap64 ((wrap64 (b - d)) * w)) (wrap64 (2 * l))
  obtain ⟨y, hy⟩ := spec_RoundDiv_tot (wrap64 ((wrap64 (c - a)) * w)) (wrap64 (2 * l))
  have j1 : ∀ k, spec_SideOf.j0 (k + 1) w l true a b c d = some (0, 0) := fun k => by simp only [spec_SideOf.j0, if_true]
  have j2 : ∀ k, impl_SideOf.j0 (k + 1) w l true a b c d = some (0, 0) := fun k => by simp only [impl_SideOf.j0, if_true]
  have j3 : ∀ k, spec_SideOf.j0 (k + 1) w l false a b c d = some (x, y) := fun k => by simp only [spec_SideOf.j0, hx, hy, Option.bind_some, Bool.false_eq_true, if_false]
  have j4 : ∀ k, impl_SideOf.j0 (k + 1) w l false a b c d = some (x, y) := fun k => by simp only [impl_SideOf.j0, impl_RoundDiv_s, hx, hy, Option.bind_some, Bool.false_eq_true, if_false]
  by_cases hl : l = 0
  · refine ⟨0, 0, ?_, ?_⟩
    · unfold spec_SideOf.f
      refine Ev.bind h1 ?_
      simp only [if_pos hl]
      exact ev_done j1
    · unfold impl_SideOf.f
      refine Ev.bind h2 ?_
      simp only [if_pos hl]
      exact ev_done j2
  · by_cases hw : 1 ≤ w ∧ w ≤ 2048
    · refine ⟨x, y, ?_, ?_⟩
      · unfold spec_SideOf.f
        refine Ev.bind h1 ?_
        simp only [if_neg hl, spec_l01In_v, Option.bind_some, decide_eq_true hw]
        exact ev_done j3
      · unfold impl_SideOf.f impl_isWidth.f
        refine Ev.bind h2 ?_
        simp only [if_neg hl, impl_inRange_v, Option.bind_some, decide_eq_true hw]
        exact ev_done j4
    · refine ⟨0, 0, ?_, ?_⟩
      · unfold spec_SideOf.f
        refine Ev.bind h1 ?_
        simp only [if_neg hl, spec_l01In_v, Option.bind_some, decide_eq_false hw]
        exact ev_done j1
      · unfold impl_SideOf.f impl_isWidth.f
        refine Ev.bind h2 ?_
        simp only [if_neg hl, impl_inRange_v, Option.bind_some, decide_eq_false hw]
        exact ev_done j2

/-! QuadOf -/
theorem QuadOf_v (a b c d w : Int) : ∃ l, l.length ≤ 4 ∧ Ev (fun k => spec_QuadOf.f k a b c d w) l ∧ Ev (fun k => impl_QuadOf.f k a b c d w) l := by
  obtain ⟨l, h1, h2, _⟩ := LengthOf_v a b c d
  obtain ⟨x, y, h3, h4⟩ := SideOf_v a b c d w
  unfold spec_QuadOf.f impl_QuadOf.f impl_isWidth.f
  simp only [spec_l01In_v, impl_inRange_v, Option.bind_some]
  by_cases hl : l = 0
  · refine ⟨[], by simp, Ev.bind h1 ?_, Ev.bind h2 ?_⟩
    · simp only [if_pos hl]
      exact Ev.now _
    · simp only [if_pos hl]
      exact Ev.now _
  · by_cases hw : 1 ≤ w ∧ w ≤ 2048
    · refine ⟨[⟨wrap64 (a + x), wrap64 (b + y)⟩, ⟨wrap64 (c + x), wrap64 (d + y)⟩, ⟨wrap64 (c - x), wrap64 (d - y)⟩, ⟨wrap64 (a - x), wrap64 (b - y)⟩], ?_, Ev.bind h1 ?_, Ev.bind h2 ?_⟩
      rotate_left
      · simp only [if_neg hl, decide_eq_true hw, if_true]
        exact Ev.bind h3 (Ev.now _)
      · simp only [if_neg hl, decide_eq_true hw, if_true]
        exact Ev.bind h4 (Ev.now _)
      · simp
    · refine ⟨[], by simp, Ev.bind h1 ?_, Ev.bind h2 ?_⟩
      · simp only [if_neg hl, decide_eq_false hw, Bool.false_eq_true, if_false]
        exact Ev.now _
      · simp only [if_neg hl, decide_eq_false hw, Bool.false_eq_true, if_false]
        exact Ev.now _

/-! marksPoint -/
def marksPoint : Nat → Int → List S42
  | 0, _ => []
  | n + 1, c => ⟨c, c + 1⟩ :: marksPoint n (c + 2)
theorem marksPoint_length : ∀ (n : Nat) (c : Int), (marksPoint n c).length = n
  | 0, _ => rfl
  | n + 1, c => by rw [marksPoint, List.length_cons, marksPoint_length n]

/-! rd_impl_Point -/
theorem rd_impl_Point (xs : List S42) (i : Nat) (h : i < xs.length) : rd_T42 xs (i : Int) = xs[i] := by
  unfold rd_T42
  simp [h]

/-! laws_markPointS -/
theorem laws_markPointS_l : ∀ (d i : Nat) (x0 : List S42) (c : Int), x0.length ≤ 4194304 → i + d = x0.length → 0 ≤ c → c + 2 * (d : Int) ≤ 1152921504606846976 →
    Ev (fun k => laws_markPointS.l0 k x0 c (i : Int)) (c + 2 * (d : Int), x0.take i ++ marksPoint d c) := by
  intro d
  induction d with
  | zero =>
    intro i x0 c hn hi h0 h1
    refine ev_done (fun k => ?_)
    simp only [laws_markPointS.l0]
    rw [if_neg (by omega), List.take_of_length_le (by omega)]
    simp [marksPoint]
  | succ d ih =>
    intro i x0 c hn hi h0 h1
    have hi2 : i < x0.length := by omega
    have e1 : wrap64 (c + 1) = c + 1 := by rw [w64 (by omega) (by omega)] <;> omega
    have e2 : wrap64 (c + 1 + 1) = c + 2 := by rw [w64 (by omega) (by omega)] <;> omega
    have hs : ∀ v, rd_T42 (x0.set i v) (i : Int) = v := fun v => by rw [rd_impl_Point _ _ (by simpa using hi2)]; simp
    refine Ev.step (f := fun k => laws_markPointS.l0 k (x0.set i ⟨c, c + 1⟩) (c + 2) ((i + 1 : Nat) : Int)) (fun k => ?_) ?_
    · simp only [laws_markPointS.l0, Option.bind_some, Int.toNat_natCast, List.set_set, hs, e1, e2, step64 hi2 (show x0.length ≤ 4611686018427387904 by omega)]
      rw [if_pos (by omega), if_pos (by omega)]
    · have h := ih (i + 1) (x0.set i ⟨c, c + 1⟩) (c + 2) (by simpa using hn) (by simp; omega) (by omega) (by omega)
      rw [take_set_succ _ _ _ (by omega), List.append_assoc] at h
      have e : c + 2 * ((d + 1 : Nat) : Int) = c + 2 + 2 * (d : Int) := by omega
      rw [e]
      exact h
theorem laws_markPointS_v (x0 : List S42) (c : Int) (hn : x0.length ≤ 4194304) (h0 : 0 ≤ c) (h1 : c ≤ 1125899906842624) : Ev (fun k => laws_markPointS.f k x0 c) (c + 2 * (x0.length : Int), marksPoint x0.length c) := by
  have h := laws_markPointS_l x0.length 0 x0 c hn (by omega) h0 (by omega)
  exact h

/-! laws_heldPointS -/
theorem laws_heldPointS_l : ∀ (d i : Nat) (x0 : List S42) (c : Int), x0.length ≤ 4194304 → i + d = x0.length → 0 ≤ c → c + 2 * (d : Int) ≤ 1152921504606846976 → x0.drop i = marksPoint d c →
    Ev (fun k => laws_heldPointS.l0 k x0 c (i : Int)) (c + 2 * (d : Int)) := by
  intro d
  induction d with
  | zero =>
    intro i x0 c hn hi h0 h1 hd
    refine ev_done (fun k => ?_)
    simp only [laws_heldPointS.l0]
    rw [if_neg (by omega)]
    simp
  | succ d ih =>
    intro i x0 c hn hi h0 h1 hd
    have hi2 : i < x0.length := by omega
    rw [List.drop_eq_getElem_cons hi2, marksPoint] at hd
    obtain ⟨hx, hd⟩ := List.cons.inj hd
    have e1 : wrap64 (c + 1) = c + 1 := by rw [w64 (by omega) (by omega)] <;> omega
    have e2 : wrap64 (c + 1 + 1) = c + 2 := by rw [w64 (by omega) (by omega)] <;> omega
    have e : c + 2 * ((d + 1 : Nat) : Int) = c + 2 + 2 * (d : Int) := by omega
    rw [e]
    refine Ev.step (fun k => ?_) (ih (i + 1) x0 (c + 2) hn (by omega) (by omega) (by omega) hd)
    simp only [laws_heldPointS.l0, rd_impl_Point _ _ hi2, hx, e1, e2, if_true, step64 hi2 (show x0.length ≤ 4611686018427387904 by omega)]
    rw [if_pos (by omega), if_pos (by omega)]
theorem laws_heldPointS_v (n : Nat) (c : Int) (hn : n ≤ 4194304) (h0 : 0 ≤ c) (h1 : c ≤ 1125899906842624) : Ev (fun k => laws_heldPointS.f k (marksPoint n c) c) (c + 2 * (n : Int)) :=
  laws_heldPointS_l n 0 (marksPoint n c) c (by rw [marksPoint_length]; exact hn) (by rw [marksPoint_length]; omega) h0 (by omega) rfl

/-! laws_eqPointS -/
theorem laws_eqPointS_l (x0 : List S42) (hn : x0.length ≤ 1048576) : ∀ (d i : Nat), i + d = x0.length → Ev (fun k => laws_eqPointS.l0 k x0 x0 (i : Int)) true := by
  intro d
  induction d with
  | zero =>
    intro i hi
    refine ev_done (fun k => ?_)
    simp only [laws_eqPointS.l0]
    rw [if_neg (by omega)]
  | succ d ih =>
    intro i hi
    have hi2 : i < x0.length := by omega
    refine Ev.step (fun k => ?_) (ih (i + 1) (by omega))
    simp only [laws_eqPointS.l0, laws_eqPoint.f]
    rw [if_pos (by omega), if_pos (by omega), if_pos (by omega), step64 hi2 (by omega)]
    simp
theorem laws_eqPointS_v (x0 : List S42) (hn : x0.length ≤ 1048576) : Ev (fun k => laws_eqPointS.f k x0 x0) true := by
  refine Ev.congr (fun k => ?_) (laws_eqPointS_l x0 hn x0.length 0 (by omega))
  unfold laws_eqPointS.f
  rw [if_pos rfl]
  rfl

/-! law_FnExactQuadOf -/
theorem pure : PureS := by
  intro a b c d w _ _ _ _ _
  obtain ⟨l, hl, h1, h2⟩ := QuadOf_v a b c d w
  have hm := laws_markPointS_v l 1 (by omega) (by omega) (by omega)
  have hh := laws_heldPointS_v l.length 1 (by omega) (by omega) (by omega)
  have he := laws_eqPointS_v l (by omega)
  have e1 : ¬ (1 + 2 * (l.length : Int) < 0) := by omega
  refine Ev.rounds ?_
  simp only [laws_FnExactQuadOf.f, laws_toPoint.f, Option.bind_some]
  refine Ev.bind h1 (Ev.bind h2 (Ev.bind he ?_))
  simp only [if_true]
  refine Ev.bind hm (Ev.bind hh ?_)
  simp only [if_true, if_neg e1]
  refine Ev.bind h2 (Ev.bind he ?_)
  simp only [if_true]
  refine Ev.bind hh ?_
  simp only [if_true, if_neg e1]
  exact Ev.now true

end Go.Proofs.Ytndeonfbolookaa.QFnExactQuadOf
