/- The pure statement of the law FnExactMaskBy, for every input: what the printed functions compute makes the law answer true. No conditions beyond what the row reads. -/
import Derived.Test.YtgdlbilpfmjeaaaTFnExactMaskBy
namespace Go.Proofs.Ytgdlbilpfmjeaaa.QFnExactMaskBy
open Go.RowKit Go.Proofs.Ytgdlbilpfmjeaaa.MFnExactMaskBy Go.Proofs.Ytgdlbilpfmjeaaa.TFnExactMaskBy Go.Proofs.YtgdlbilpfmjeaaaW.PrintWords Go.Proofs.YtgdlbilpfmjeaaaW.PrintLast
set_option linter.unusedVariables false
set_option linter.unusedSimpArgs false

/-! base -/
theorem w64 {x : Int} (h1 : -9223372036854775808 ≤ x) (h2 : x ≤ 9223372036854775807) : wrap64 x = x := by
  unfold wrap64
  omega

theorem wf64 {x : Int} (h : (Lit.int .i64 x).wf = true) : -9223372036854775808 ≤ x ∧ x ≤ 9223372036854775807 := by
  have h2 : (decide (IntKind.i64.min ≤ x) && decide (x ≤ IntKind.i64.max)) = true := h
  rw [Bool.and_eq_true, decide_eq_true_eq, decide_eq_true_eq] at h2
  exact ⟨h2.1, h2.2⟩

theorem take_set_succ {α : Type} (xs : List α) (i : Nat) (v : α) (h : i < xs.length) : (xs.set i v).take (i + 1) = xs.take i ++ [v] := by
  rw [List.take_succ_eq_append_getElem (by simpa using h), List.take_set_of_le (Nat.le_refl i), List.getElem_set_self]

theorem step64 {i n : Nat} (h : i < n) (hn : n ≤ 4611686018427387904) : wrap64 ((i : Int) + 1) = ((i + 1 : Nat) : Int) := by
  rw [w64 (by omega) (by omega)]
  omega

theorem ev_done {α : Type} {g : Nat → Option α} {r : α} (h : ∀ k, g (k + 1) = some r) : Ev g r := Ev.step (f := fun _ => some r) h (Ev.now r)

theorem ev_const {α : Type} {o : Option α} {r : α} (h : o = some r) : Ev (fun _ => o) r := by
  subst h
  exact Ev.now r

/-! spec_l01In -/
theorem spec_l01In_v (a b c : Int) : spec_l01In.f a b c = some (decide (b ≤ a ∧ a ≤ c)) := by
  unfold spec_l01In.f
  by_cases h : a ≥ b
  · rw [if_pos h]
    simp [h]
  · rw [if_neg h]
    simp
    omega

/-! impl_inRange -/
theorem impl_inRange_v (a b c : Int) : impl_inRange.f a b c = some (decide (b ≤ a ∧ a ≤ c)) := by
  unfold impl_inRange.f
  by_cases h : a ≥ b
  · rw [if_pos h]
    simp [h]
  · rw [if_neg h]
    simp
    omega

/-! rd_int -/
theorem rd_int (xs : List Int) (i : Nat) (h : i < xs.length) : rd xs (i : Int) = xs[i] := by
  unfold rd
  simp [h]

/-! MaskOk -/
def maskBoxP (a b c d : Int) : Prop := a < c ∧ b < d ∧ -2000 ≤ a ∧ -2000 ≤ b ∧ c ≤ 2000 ∧ d ≤ 2000 ∧ c - a ≤ 60 ∧ d - b ≤ 60
instance (a b c d : Int) : Decidable (maskBoxP a b c d) := by unfold maskBoxP; infer_instance
def allBits (l : List Int) : Bool := l.all (fun x => decide (0 ≤ x ∧ x ≤ 15))
def maskOkB (a b c d : Int) (l : List Int) : Bool := if a = 0 ∧ b = 0 ∧ c = 0 ∧ d = 0 then decide (l.length = 0) else (decide (maskBoxP a b c d) && decide ((l.length : Int) = (c - a) * (d - b)) && allBits l)
theorem area_bd {a b c d : Int} (h : maskBoxP a b c d) : 1 ≤ (c - a) * (d - b) ∧ (c - a) * (d - b) ≤ 3600 := by
  obtain ⟨h1, h2, _, _, _, _, h3, h4⟩ := h
  have e1 : 1 * 1 ≤ (c - a) * (d - b) := Int.mul_le_mul (by omega) (by omega) (by omega) (by omega)
  have e2 : (c - a) * (d - b) ≤ 60 * 60 := Int.mul_le_mul (by omega) (by omega) (by omega) (by omega)
  omega
theorem area_w {a b c d : Int} (h : maskBoxP a b c d) : wrap64 ((wrap64 (c - a)) * (wrap64 (d - b))) = (c - a) * (d - b) := by
  have q := area_bd h
  obtain ⟨h1, h2, _, _, _, _, h3, h4⟩ := h
  rw [w64 (x := c - a) (by omega) (by omega), w64 (x := d - b) (by omega) (by omega), w64 (by omega) (by omega)]
theorem spec_l11Box_v (a b c d : Int) : spec_l11Box.f a b c d = some (decide (maskBoxP a b c d)) := by
  unfold spec_l11Box.f spec_Empty.f maskBoxP
  simp only [spec_l01In_v]
  by_cases h1 : a ≥ c
  · rw [if_pos h1]
    simp only [Option.bind_some, if_true]
    refine congrArg some (Eq.symm (decide_eq_false ?_))
    omega
  · rw [if_neg h1]
    simp only [Option.bind_some, decide_eq_true_eq]
    by_cases h2 : b ≥ d
    · rw [if_pos h2]
      refine congrArg some (Eq.symm (decide_eq_false ?_))
      omega
    · rw [if_neg h2]
      by_cases h3 : (-2000 ≤ a ∧ a ≤ 2000) ∧ (-2000 ≤ b ∧ b ≤ 2000) ∧ (-2000 ≤ c ∧ c ≤ 2000) ∧ (-2000 ≤ d ∧ d ≤ 2000)
      · rw [if_pos h3.1, if_pos h3.2.1, if_pos h3.2.2.1, if_pos h3.2.2.2, w64 (by omega) (by omega), w64 (by omega) (by omega)]
        split
        · refine congrArg some (decide_eq_decide.mpr ?_)
          omega
        · refine congrArg some (Eq.symm (decide_eq_false ?_))
          omega
      · repeat' split
        all_goals first | (exfalso; omega) | (refine congrArg some (Eq.symm (decide_eq_false ?_)); omega)
theorem impl_isMaskBox_v {a b c d : Int} (ha : -9223372036854775808 ≤ a ∧ a ≤ 9223372036854775807) (hb : -9223372036854775808 ≤ b ∧ b ≤ 9223372036854775807) (hc : -9223372036854775808 ≤ c ∧ c ≤ 9223372036854775807) (hd : -9223372036854775808 ≤ d ∧ d ≤ 9223372036854775807) :
    impl_isMaskBox.f a b c d = some (decide (maskBoxP a b c d)) := by
  unfold impl_isMaskBox.f impl_Empty.f maskBoxP
  by_cases h1 : a ≥ c
  · rw [if_pos h1]
    simp only [Option.bind_some, if_true]
    refine congrArg some (Eq.symm (decide_eq_false ?_))
    omega
  · rw [if_neg h1]
    simp only [Option.bind_some, decide_eq_true_eq]
    by_cases h2 : b ≥ d
    · rw [if_pos h2]
      refine congrArg some (Eq.symm (decide_eq_false ?_))
      omega
    · rw [if_neg h2]
      by_cases h3 : (-2000 ≤ a ∧ a ≤ 2000) ∧ (-2000 ≤ b ∧ b ≤ 2000) ∧ (-2000 ≤ c ∧ c ≤ 2000) ∧ (-2000 ≤ d ∧ d ≤ 2000)
      · rw [if_neg (by omega), if_neg (by omega), if_neg (by omega), if_neg (by omega), w64 (by omega) (by omega), w64 (by omega) (by omega)]
        split
        · refine congrArg some (decide_eq_decide.mpr ?_)
          omega
        · refine congrArg some (Eq.symm (decide_eq_false ?_))
          omega
      · repeat' split
        all_goals first | (exfalso; omega) | (refine congrArg some (Eq.symm (decide_eq_false ?_)); omega)
theorem spec_MaskOk_l (a b c d : Int) (l : List Int) (hn : l.length ≤ 1048576) : ∀ (m i : Nat), i + m = l.length → Ev (fun k => spec_MaskOk.l0 k (i : Int) a b c d l) (allBits (l.drop i)) := by
  intro m
  induction m with
  | zero =>
    intro i hi
    refine ev_done (fun k => ?_)
    simp only [spec_MaskOk.l0]
    rw [if_neg (by omega), List.drop_of_length_le (by omega)]
    rfl
  | succ m ih =>
    intro i hi
    have hi2 : i < l.length := by omega
    rw [List.drop_eq_getElem_cons hi2, allBits, List.all_cons]
    by_cases hx : 0 ≤ l[i] ∧ l[i] ≤ 15
    · rw [decide_eq_true hx, Bool.true_and]
      refine Ev.step (fun k => ?_) (ih (i + 1) (by omega))
      simp only [spec_MaskOk.l0, spec_l01In_v, Option.bind_some]
      rw [if_pos (by omega), if_pos (by omega), rd_int _ _ hi2, step64 hi2 (by omega), if_pos (by simpa using hx)]
    · rw [decide_eq_false hx, Bool.false_and]
      refine ev_done (fun k => ?_)
      simp only [spec_MaskOk.l0, spec_l01In_v, Option.bind_some]
      rw [if_pos (by omega), if_pos (by omega), rd_int _ _ hi2, if_neg (by simpa using hx)]
theorem impl_MaskOk_l (l : List Int) (hn : l.length ≤ 1048576) : ∀ (m i : Nat), i + m = l.length → Ev (fun k => impl_MaskOk.l0 k l (l.length : Int) (i : Int)) (allBits (l.drop i)) := by
  intro m
  induction m with
  | zero =>
    intro i hi
    refine ev_done (fun k => ?_)
    simp only [impl_MaskOk.l0]
    rw [if_neg (by omega), List.drop_of_length_le (by omega)]
    rfl
  | succ m ih =>
    intro i hi
    have hi2 : i < l.length := by omega
    rw [List.drop_eq_getElem_cons hi2, allBits, List.all_cons]
    by_cases hx : 0 ≤ l[i] ∧ l[i] ≤ 15
    · rw [decide_eq_true hx, Bool.true_and]
      refine Ev.step (fun k => ?_) (ih (i + 1) (by omega))
      simp only [impl_MaskOk.l0, impl_inRange_v, Option.bind_some]
      rw [if_pos (by omega), if_pos (by omega), if_pos (by omega), rd_int _ _ hi2, step64 hi2 (by omega), if_pos (by simpa using hx)]
    · rw [decide_eq_false hx, Bool.false_and]
      refine ev_done (fun k => ?_)
      simp only [impl_MaskOk.l0, impl_inRange_v, Option.bind_some]
      rw [if_pos (by omega), if_pos (by omega), if_pos (by omega), rd_int _ _ hi2, if_neg (by simpa using hx)]
theorem spec_MaskOk_v (a b c d : Int) (l : List Int) (hn : l.length ≤ 1048576) : Ev (fun k => spec_MaskOk.f k a b c d l) (maskOkB a b c d l) := by
  unfold spec_MaskOk.f maskOkB
  by_cases h0 : (l.length : Int) = 0
  · simp only [if_pos h0]
    by_cases hz : a = 0 ∧ b = 0 ∧ c = 0 ∧ d = 0
    · rw [if_pos hz]
      obtain ⟨rfl, rfl, rfl, rfl⟩ := hz
      refine ev_const (congrArg some ?_)
      simp
      exact List.length_eq_zero_iff.mp (by omega)
    · rw [if_neg hz]
      refine ev_const (congrArg some ?_)
      have e : (decide (maskBoxP a b c d) && decide ((l.length : Int) = (c - a) * (d - b))) = false := by
        by_cases hb : maskBoxP a b c d
        · have := area_bd hb
          rw [decide_eq_false (p := (l.length : Int) = (c - a) * (d - b)) (by omega)]
          simp
        · rw [decide_eq_false hb]
          rfl
      rw [e]
      simp
      omega
  · simp only [if_neg h0, spec_l11Box_v, Option.bind_some]
    by_cases hb : maskBoxP a b c d
    · have hz : ¬ (a = 0 ∧ b = 0 ∧ c = 0 ∧ d = 0) := by have := hb.1; omega
      rw [if_neg hz, decide_eq_true hb]
      simp only [if_true, area_w hb]
      by_cases hl : (l.length : Int) = (c - a) * (d - b)
      · rw [decide_eq_true hl]
        refine Ev.step (fun k => ?_) (spec_MaskOk_l a b c d l hn l.length 0 (by omega))
        simp only [spec_MaskOk.j0]
        rw [if_neg (by simp [hl])]
        rfl
      · rw [decide_eq_false hl]
        refine ev_done (fun k => ?_)
        simp only [spec_MaskOk.j0]
        rw [if_pos (by simpa using hl)]
        rfl
    · rw [decide_eq_false hb]
      have e : (if a = 0 ∧ b = 0 ∧ c = 0 ∧ d = 0 then decide (l.length = 0) else (false && decide ((l.length : Int) = (c - a) * (d - b)) && allBits l)) = false := by
        split
        · exact decide_eq_false (by omega)
        · rfl
      rw [e]
      simp only [Bool.false_eq_true, if_false]
      refine ev_done (fun k => ?_)
      simp only [spec_MaskOk.j0, if_true]
theorem impl_MaskOk_v {a b c d : Int} (l : List Int) (hn : l.length ≤ 1048576) (ha : -9223372036854775808 ≤ a ∧ a ≤ 9223372036854775807) (hb : -9223372036854775808 ≤ b ∧ b ≤ 9223372036854775807) (hc : -9223372036854775808 ≤ c ∧ c ≤ 9223372036854775807) (hd : -9223372036854775808 ≤ d ∧ d ≤ 9223372036854775807) :
    Ev (fun k => impl_MaskOk.f k a b c d l) (maskOkB a b c d l) := by
  unfold impl_MaskOk.f maskOkB
  by_cases hz : a = 0 ∧ b = 0 ∧ c = 0 ∧ d = 0
  · rw [if_pos hz]
    obtain ⟨rfl, rfl, rfl, rfl⟩ := hz
    refine ev_const ?_
    refine congrArg some ?_
    rw [Bool.eq_iff_iff]
    simp
  · rw [if_neg hz]
    have hz2 : ¬ (a == 0 && (b == 0 && (c == 0 && (d == 0)))) = true := by
      simp
      omega
    simp only [if_neg hz2, impl_isMaskBox_v ha hb hc hd, Option.bind_some]
    by_cases hb : maskBoxP a b c d
    · rw [decide_eq_true hb]
      simp only [if_true, area_w hb]
      by_cases hl : (l.length : Int) = (c - a) * (d - b)
      · rw [decide_eq_true hl]
        refine Ev.step (fun k => ?_) (impl_MaskOk_l l hn l.length 0 (by omega))
        simp only [impl_MaskOk.j0]
        rw [if_neg (by simp [hl])]
        rfl
      · rw [decide_eq_false hl]
        refine ev_done (fun k => ?_)
        simp only [impl_MaskOk.j0]
        rw [if_pos (by simpa using hl)]
        rfl
    · rw [decide_eq_false hb]
      simp only [Bool.false_eq_true, if_false]
      refine ev_done (fun k => ?_)
      simp only [impl_MaskOk.j0, if_true]
      rfl

/-! BitsAt -/
def bitsP (a b c d : Int) (l : List Int) (x y : Int) : Int := if a ≤ x ∧ x < c ∧ b ≤ y ∧ y < d then rd l ((y - b) * (c - a) + x - a) else 0
theorem place_bd {a b c d x y : Int} (hb : maskBoxP a b c d) (h : a ≤ x ∧ x < c ∧ b ≤ y ∧ y < d) :
    wrap64 ((wrap64 ((wrap64 ((wrap64 (y - b)) * (wrap64 (c - a)))) + x)) - a) = (y - b) * (c - a) + x - a ∧ 0 ≤ (y - b) * (c - a) + x - a ∧ (y - b) * (c - a) + x - a < (c - a) * (d - b) := by
  have q := area_bd hb
  obtain ⟨h1, h2, h3, h4, h5, h6, h7, h8⟩ := hb
  obtain ⟨g1, g2, g3, g4⟩ := h
  have m0 : 0 ≤ (y - b) * (c - a) := Int.mul_nonneg (by omega) (by omega)
  have m1 : (y - b) * (c - a) ≤ (d - b - 1) * (c - a) := Int.mul_le_mul_of_nonneg_right (by omega) (by omega)
  have m2 : (d - b - 1) * (c - a) = (c - a) * (d - b) - (c - a) := by rw [Int.sub_mul, Int.mul_comm (d - b) (c - a), Int.one_mul]
  refine ⟨?_, by omega, by omega⟩
  rw [w64 (x := y - b) (by omega) (by omega), w64 (x := c - a) (by omega) (by omega), w64 (x := (y - b) * (c - a)) (by omega) (by omega), w64 (x := (y - b) * (c - a) + x) (by omega) (by omega), w64 (by omega) (by omega)]
theorem spec_l11Bits_v {a b c d : Int} {l : List Int} (x y : Int) (hb : maskBoxP a b c d) (hl : (l.length : Int) = (c - a) * (d - b)) : spec_l11Bits.f a b c d l x y = some (bitsP a b c d l x y) := by
  unfold spec_l11Bits.f spec_InBox.f bitsP
  by_cases h : a ≤ x ∧ x < c ∧ b ≤ y ∧ y < d
  · obtain ⟨e1, e2, e3⟩ := place_bd hb h
    rw [if_pos h.1, if_pos h.2.1, if_pos h.2.2.1, decide_eq_true h.2.2.2]
    simp only [Option.bind_some, if_true, e1]
    rw [if_pos e2, if_pos (by omega), if_pos h]
  · rw [if_neg h]
    repeat' split
    all_goals simp
    all_goals omega
theorem impl_bitsAt_v {a b c d : Int} {l : List Int} (x y : Int) (hb : maskBoxP a b c d) (hl : (l.length : Int) = (c - a) * (d - b)) : impl_Mask_bitsAt.f a b c d l x y = some (bitsP a b c d l x y) := by
  unfold impl_Mask_bitsAt.f impl_InBox.f bitsP
  by_cases h : a ≤ x ∧ x < c ∧ b ≤ y ∧ y < d
  · obtain ⟨e1, e2, e3⟩ := place_bd hb h
    rw [if_pos (show x ≥ a from h.1), if_pos h.2.1, if_pos (show y ≥ b from h.2.2.1), decide_eq_true h.2.2.2]
    simp only [Option.bind_some, if_true, e1]
    rw [if_pos e2, if_pos (by omega), if_pos h]
  · rw [if_neg h]
    repeat' split
    all_goals simp
    all_goals omega
/-- A mask that is right: none at all, or one over a box. -/
theorem maskOk_cases {a b c d : Int} {l : List Int} (h : maskOkB a b c d l = true) : (a = 0 ∧ b = 0 ∧ c = 0 ∧ d = 0 ∧ l = []) ∨ (maskBoxP a b c d ∧ (l.length : Int) = (c - a) * (d - b) ∧ allBits l = true) := by
  unfold maskOkB at h
  split at h
  · rename_i hz
    exact .inl ⟨hz.1, hz.2.1, hz.2.2.1, hz.2.2.2, List.length_eq_zero_iff.mp (of_decide_eq_true h)⟩
  · simp only [Bool.and_eq_true, decide_eq_true_eq] at h
    exact .inr ⟨h.1.1, h.1.2, h.2⟩
theorem bits_none (x y : Int) : spec_l11Bits.f 0 0 0 0 [] x y = some 0 ∧ impl_Mask_bitsAt.f 0 0 0 0 [] x y = some 0 := by
  constructor
  · unfold spec_l11Bits.f spec_InBox.f
    repeat' split
    all_goals simp
    all_goals omega
  · unfold impl_Mask_bitsAt.f impl_InBox.f
    repeat' split
    all_goals simp
    all_goals omega
theorem bits_ok {a b c d : Int} {l : List Int} (h : maskOkB a b c d l = true) (x y : Int) : ∃ r, spec_l11Bits.f a b c d l x y = some r ∧ impl_Mask_bitsAt.f a b c d l x y = some r := by
  rcases maskOk_cases h with ⟨rfl, rfl, rfl, rfl, rfl⟩ | ⟨h1, h2, h3⟩
  · exact ⟨0, bits_none x y⟩
  · exact ⟨_, spec_l11Bits_v x y h1 h2, impl_bitsAt_v x y h1 h2⟩

/-! RunsOf -/
theorem runs_cols (a b c d : Int) (l : List Int) (B : Int → Int → Int) (hs : ∀ x y, spec_l11Bits.f a b c d l x y = some (B x y)) (hi : ∀ x y, impl_Mask_bitsAt.f a b c d l x y = some (B x y))
    (hc0 : -2000 ≤ c) (hc1 : c ≤ 2000) (y : Int) (r : Nat)
    (H0 : ∀ out : List S129, out.length + 60 * r ≤ 100000 → ∃ R, Ev (fun k => spec_RunsOf.l0 k out (wrap64 (y + 1)) a b c d l) R ∧ Ev (fun k => impl_RunsOf.l0 k out (wrap64 (y + 1)) a b c d l) R ∧ R.length ≤ out.length + 60 * r) : ∀ m : Nat,
    (∀ (x : Int) (out : List S129), x + m = c → out.length + m + 60 * r ≤ 100000 → ∃ R, Ev (fun k => spec_RunsOf.l1 k out y x a b c d l) R ∧ Ev (fun k => impl_RunsOf.l1 k out y x a b c d l) R ∧ R.length ≤ out.length + m + 60 * r) ∧
    (∀ (e x0 v : Int) (out : List S129), v ≠ 0 → e + m = c → out.length + 1 + m + 60 * r ≤ 100000 → ∃ R, Ev (fun k => spec_RunsOf.l2 k out y x0 v e a b c d l) R ∧ Ev (fun k => impl_RunsOf.l2 k out y x0 v e a b c d l) R ∧ R.length ≤ out.length + 1 + m + 60 * r) ∧
    (∀ (e x0 : Int) (out : List S129), e + m = c → out.length + m + 60 * r ≤ 100000 → ∃ R, Ev (fun k => spec_RunsOf.l1 k out y e a b c d l) R ∧ Ev (fun k => impl_RunsOf.l2 k out y x0 0 e a b c d l) R ∧ R.length ≤ out.length + m + 60 * r) := by
  intro m
  induction m with
  | zero =>
    have P : ∀ (x : Int) (out : List S129), x + (0 : Nat) = c → out.length + 0 + 60 * r ≤ 100000 → ∃ R, Ev (fun k => spec_RunsOf.l1 k out y x a b c d l) R ∧ Ev (fun k => impl_RunsOf.l1 k out y x a b c d l) R ∧ R.length ≤ out.length + 0 + 60 * r := by
      intro x out hx hn
      obtain ⟨R, h1, h2, h3⟩ := H0 out (by omega)
      refine ⟨R, Ev.step (fun k => ?_) h1, Ev.step (fun k => ?_) h2, by omega⟩
      · simp only [spec_RunsOf.l1]
        rw [if_neg (by omega)]
      · simp only [impl_RunsOf.l1]
        rw [if_neg (by omega)]
    refine ⟨P, ?_, ?_⟩
    · intro e x0 v out hv he hn
      obtain ⟨R, h1, h2, h3⟩ := P e (out ++ [⟨y, x0, e, v⟩]) he (by simp; omega)
      simp only [List.length_append, List.length_cons, List.length_nil] at h3
      refine ⟨R, Ev.step (fun k => ?_) h1, Ev.step (fun k => ?_) h2, by omega⟩
      · simp only [spec_RunsOf.l2]
        rw [if_neg (by omega), if_pos (by omega), w64 (x := e - 1) (by omega) (by omega), w64 (x := e - 1 + 1) (by omega) (by omega), Int.sub_add_cancel]
      · simp only [impl_RunsOf.l2]
        rw [if_neg (by omega), if_neg hv, if_pos (by omega)]
    · intro e x0 out he hn
      obtain ⟨R, h1, h2, h3⟩ := P e out he hn
      refine ⟨R, h1, Ev.step (fun k => ?_) h2, h3⟩
      simp only [impl_RunsOf.l2, if_true]
      rw [if_neg (by omega)]
  | succ m ih =>
    obtain ⟨iP, iQ, iZ⟩ := ih
    have P : ∀ (x : Int) (out : List S129), x + (m + 1 : Nat) = c → out.length + (m + 1) + 60 * r ≤ 100000 → ∃ R, Ev (fun k => spec_RunsOf.l1 k out y x a b c d l) R ∧ Ev (fun k => impl_RunsOf.l1 k out y x a b c d l) R ∧ R.length ≤ out.length + (m + 1) + 60 * r := by
      intro x out hx hn
      have e1 : wrap64 (x + 1) = x + 1 := w64 (by omega) (by omega)
      by_cases hB : B x y = 0
      · obtain ⟨R, h1, h2, h3⟩ := iZ (x + 1) x out (by omega) (by omega)
        refine ⟨R, Ev.step (fun k => ?_) h1, Ev.step (fun k => ?_) h2, by omega⟩
        · simp only [spec_RunsOf.l1, hs, hB, Option.bind_some, if_true, e1]
          rw [if_pos (by omega)]
        · simp only [impl_RunsOf.l1, hi, hB, Option.bind_some, e1]
          rw [if_pos (by omega)]
      · obtain ⟨R, h1, h2, h3⟩ := iQ (x + 1) x (B x y) out hB (by omega) (by omega)
        refine ⟨R, Ev.step (fun k => ?_) h1, Ev.step (fun k => ?_) h2, by omega⟩
        · simp only [spec_RunsOf.l1, hs, Option.bind_some, if_neg hB, e1]
          rw [if_pos (by omega)]
        · simp only [impl_RunsOf.l1, hi, Option.bind_some, e1]
          rw [if_pos (by omega)]
    refine ⟨P, ?_, ?_⟩
    · intro e x0 v out hv he hn
      have e1 : wrap64 (e + 1) = e + 1 := w64 (by omega) (by omega)
      by_cases hB : B e y = v
      · obtain ⟨R, h1, h2, h3⟩ := iQ (e + 1) x0 v out hv (by omega) (by omega)
        refine ⟨R, Ev.step (fun k => ?_) h1, Ev.step (fun k => ?_) h2, by omega⟩
        · simp only [spec_RunsOf.l2, hs, hB, Option.bind_some, if_true, e1]
          rw [if_pos (by omega)]
        · simp only [impl_RunsOf.l2, hi, hB, Option.bind_some, if_true, e1]
          rw [if_pos (by omega)]
      · obtain ⟨R, h1, h2, h3⟩ := P e (out ++ [⟨y, x0, e, v⟩]) he (by simp; omega)
        simp only [List.length_append, List.length_cons, List.length_nil] at h3
        refine ⟨R, Ev.step (fun k => ?_) h1, Ev.step (fun k => ?_) h2, by omega⟩
        · simp only [spec_RunsOf.l2, hs, Option.bind_some, if_neg hB]
          rw [if_pos (by omega), if_pos (by omega), w64 (x := e - 1) (by omega) (by omega), w64 (x := e - 1 + 1) (by omega) (by omega), Int.sub_add_cancel]
        · simp only [impl_RunsOf.l2, hi, Option.bind_some, if_neg hB, if_neg hv]
          rw [if_pos (by omega), if_pos (by omega)]
    · intro e x0 out he hn
      have e1 : wrap64 (e + 1) = e + 1 := w64 (by omega) (by omega)
      by_cases hB : B e y = 0
      · obtain ⟨R, h1, h2, h3⟩ := iZ (e + 1) x0 out (by omega) (by omega)
        refine ⟨R, Ev.step (fun k => ?_) h1, Ev.step (fun k => ?_) h2, by omega⟩
        · simp only [spec_RunsOf.l1, hs, hB, Option.bind_some, if_true, e1]
          rw [if_pos (by omega)]
        · simp only [impl_RunsOf.l2, hi, hB, Option.bind_some, if_true, e1]
          rw [if_pos (by omega)]
      · obtain ⟨R, h1, h2, h3⟩ := P e out he hn
        refine ⟨R, h1, Ev.step (fun k => ?_) h2, h3⟩
        simp only [impl_RunsOf.l2, hi, Option.bind_some, if_neg hB, if_true]
        rw [if_pos (by omega)]
theorem runs_rows (a b c d : Int) (l : List Int) (B : Int → Int → Int) (hs : ∀ x y, spec_l11Bits.f a b c d l x y = some (B x y)) (hi : ∀ x y, impl_Mask_bitsAt.f a b c d l x y = some (B x y))
    (hc0 : -2000 ≤ c) (hc1 : c ≤ 2000) (hd0 : -2000 ≤ d) (hd1 : d ≤ 2000) (hac : a ≤ c) (hw : c - a ≤ 60) : ∀ (r : Nat) (y : Int) (out : List S129), y + r = d → out.length + 60 * r ≤ 100000 →
    ∃ R, Ev (fun k => spec_RunsOf.l0 k out y a b c d l) R ∧ Ev (fun k => impl_RunsOf.l0 k out y a b c d l) R ∧ R.length ≤ out.length + 60 * r := by
  intro r
  induction r with
  | zero =>
    intro y out hy hn
    refine ⟨out, ev_done (fun k => ?_), ev_done (fun k => ?_), by omega⟩
    · simp only [spec_RunsOf.l0]
      rw [if_neg (by omega)]
    · simp only [impl_RunsOf.l0]
      rw [if_neg (by omega)]
  | succ r ih =>
    intro y out hy hn
    have e1 : wrap64 (y + 1) = y + 1 := w64 (by omega) (by omega)
    obtain ⟨m, hm⟩ : ∃ m : Nat, (m : Int) = c - a := ⟨(c - a).toNat, by omega⟩
    obtain ⟨R, h1, h2, h3⟩ := (runs_cols a b c d l B hs hi hc0 hc1 y r (fun o ho => by rw [e1]; exact ih (y + 1) o (by omega) ho) m).1 a out (by omega) (by omega)
    refine ⟨R, Ev.step (fun k => ?_) h1, Ev.step (fun k => ?_) h2, by omega⟩
    · simp only [spec_RunsOf.l0]
      rw [if_pos (by omega)]
    · simp only [impl_RunsOf.l0]
      rw [if_pos (by omega)]
theorem RunsOf_v {a b c d : Int} (l : List Int) (hn : l.length ≤ 1048576) (ha : -9223372036854775808 ≤ a ∧ a ≤ 9223372036854775807) (hb : -9223372036854775808 ≤ b ∧ b ≤ 9223372036854775807) (hc : -9223372036854775808 ≤ c ∧ c ≤ 9223372036854775807) (hd : -9223372036854775808 ≤ d ∧ d ≤ 9223372036854775807) :
    ∃ R : List S129, Ev (fun k => spec_RunsOf.f k a b c d l) R ∧ Ev (fun k => impl_RunsOf.f k a b c d l) R ∧ R.length ≤ 3600 := by
  have hs := spec_MaskOk_v a b c d l hn
  have hi := impl_MaskOk_v l hn ha hb hc hd
  unfold spec_RunsOf.f impl_RunsOf.f
  simp only [Option.bind_some]
  cases hm : maskOkB a b c d l with
  | true =>
    rw [hm] at hs hi
    have key : ∃ R : List S129, Ev (fun k => spec_RunsOf.l0 k [] b a b c d l) R ∧ Ev (fun k => impl_RunsOf.l0 k [] b a b c d l) R ∧ R.length ≤ 3600 := by
      rcases maskOk_cases hm with ⟨rfl, rfl, rfl, rfl, rfl⟩ | ⟨h1, h2, h3⟩
      · obtain ⟨R, g1, g2, g3⟩ := runs_rows 0 0 0 0 [] (fun _ _ => 0) (fun x y => (bits_none x y).1) (fun x y => (bits_none x y).2) (by omega) (by omega) (by omega) (by omega) (by omega) (by omega) 0 0 [] (by omega) (by simp)
        exact ⟨R, g1, g2, by simpa using Nat.le_trans g3 (by simp)⟩
      · have hbx := h1
        obtain ⟨q1, q2, q3, q4, q5, q6, q7, q8⟩ := hbx
        obtain ⟨r, hr⟩ : ∃ r : Nat, (r : Int) = d - b := ⟨(d - b).toNat, by omega⟩
        obtain ⟨R, g1, g2, g3⟩ := runs_rows a b c d l (bitsP a b c d l) (fun x y => spec_l11Bits_v x y h1 h2) (fun x y => impl_bitsAt_v x y h1 h2) (by omega) (by omega) (by omega) (by omega) (by omega) (by omega) r b [] (by omega) (by simp; omega)
        exact ⟨R, g1, g2, by simp at g3; omega⟩
    obtain ⟨R, g1, g2, g3⟩ := key
    refine ⟨R, Ev.bind hs ?_, Ev.bind hi ?_, g3⟩
    · simp only [if_true]
      exact g1
    · simp only [if_true]
      exact g2
  | false =>
    rw [hm] at hs hi
    refine ⟨[], Ev.bind hs ?_, Ev.bind hi ?_, by simp⟩
    · simp only [Bool.false_eq_true, if_false]
      exact Ev.now _
    · simp only [Bool.false_eq_true, if_false]
      exact Ev.now _

/-! rd_impl_Run -/
theorem rd_impl_Run (xs : List S129) (i : Nat) (h : i < xs.length) : rd_T129 xs (i : Int) = xs[i] := by
  unfold rd_T129
  simp [h]

/-! MaskBy -/
def goodRun (r : S129) : Prop := r.f1 < r.f2 ∧ 1 ≤ r.f3 ∧ r.f3 ≤ 15
theorem runs_good {a b c d : Int} {l : List Int} (B : Int → Int → Int) (hB : ∀ x y, 0 ≤ B x y ∧ B x y ≤ 15) (hi : ∀ x y, impl_Mask_bitsAt.f a b c d l x y = some (B x y)) (hc : c ≤ 2000) (ha : -2000 ≤ a) : ∀ k : Nat,
    (∀ (out : List S129) (y : Int) (R : List S129), impl_RunsOf.l0 k out y a b c d l = some R → (∀ r ∈ out, goodRun r) → ∀ r ∈ R, goodRun r) ∧
    (∀ (out : List S129) (y x : Int) (R : List S129), -2000 ≤ x → impl_RunsOf.l1 k out y x a b c d l = some R → (∀ r ∈ out, goodRun r) → ∀ r ∈ R, goodRun r) ∧
    (∀ (out : List S129) (y x0 v e : Int) (R : List S129), -2000 ≤ x0 → x0 < e → 0 ≤ v → v ≤ 15 → impl_RunsOf.l2 k out y x0 v e a b c d l = some R → (∀ r ∈ out, goodRun r) → ∀ r ∈ R, goodRun r) := by
  intro k
  induction k with
  | zero => exact ⟨fun _ _ _ h => by simp [impl_RunsOf.l0] at h, fun _ _ _ _ _ h => by simp [impl_RunsOf.l1] at h, fun _ _ _ _ _ _ _ _ _ _ h => by simp [impl_RunsOf.l2] at h⟩
  | succ k ih =>
    obtain ⟨i0, i1, i2⟩ := ih
    have push : ∀ (out : List S129) (y x0 v e : Int), x0 < e → 0 ≤ v → v ≤ 15 → ¬ v = 0 → (∀ r ∈ out, goodRun r) → ∀ r ∈ out ++ [(⟨y, x0, e, v⟩ : S129)], goodRun r := by
      intro out y x0 v e h1 h2 h3 h4 ho r hr
      rcases List.mem_append.mp hr with hr | hr
      · exact ho r hr
      · obtain rfl := List.mem_singleton.mp hr
        exact ⟨h1, by show 1 ≤ v; omega, h3⟩
    refine ⟨?_, ?_, ?_⟩
    · intro out y R h ho
      simp only [impl_RunsOf.l0] at h
      split at h
      · exact i1 out y a R ha h ho
      · obtain rfl := Option.some.inj h
        exact ho
    · intro out y x R hx h ho
      simp only [impl_RunsOf.l1, hi, Option.bind_some] at h
      split at h
      · rename_i hxc
        rw [w64 (x := x + 1) (by omega) (by omega)] at h
        exact i2 out y x (B x y) (x + 1) R hx (by omega) (hB x y).1 (hB x y).2 h ho
      · exact i0 out _ R h ho
    · intro out y x0 v e R h0 h1 h2 h3 h ho
      simp only [impl_RunsOf.l2, hi, Option.bind_some] at h
      split at h
      · rename_i hec
        split at h
        · rw [w64 (x := e + 1) (by omega) (by omega)] at h
          exact i2 out y x0 v (e + 1) R h0 (by omega) h2 h3 h ho
        · split at h
          · exact i1 out y e R (by omega) h ho
          · rename_i hv
            split at h
            · exact i1 _ y e R (by omega) h (push out y x0 v e h1 h2 h3 hv ho)
            · cases h
      · split at h
        · exact i1 out y e R (by omega) h ho
        · rename_i hv
          split at h
          · exact i1 _ y e R (by omega) h (push out y x0 v e h1 h2 h3 hv ho)
          · cases h
theorem allBits_mem {l : List Int} (h : allBits l = true) : ∀ x ∈ l, 0 ≤ x ∧ x ≤ 15 := by
  intro x hx
  unfold allBits at h
  simpa using List.all_eq_true.mp h x hx
theorem allBits_of {l : List Int} (h : ∀ x ∈ l, 0 ≤ x ∧ x ≤ 15) : allBits l = true := by
  unfold allBits
  exact List.all_eq_true.mpr (fun x hx => by simpa using h x hx)
theorem bitsP_bd {a b c d : Int} {l : List Int} (h : allBits l = true) (x y : Int) : 0 ≤ bitsP a b c d l x y ∧ bitsP a b c d l x y ≤ 15 := by
  unfold bitsP
  split
  · unfold rd
    rw [List.getD_eq_getElem?_getD]
    cases hq : l[((y - b) * (c - a) + x - a).toNat]? with
    | none => simp
    | some v => exact allBits_mem h v (List.mem_of_getElem? hq)
  · omega
theorem RunsOf_g {a b c d : Int} {l : List Int} (hb : maskBoxP a b c d) (hl : (l.length : Int) = (c - a) * (d - b)) (hA : allBits l = true) :
    ∃ R : List S129, Ev (fun k => spec_RunsOf.f k a b c d l) R ∧ Ev (fun k => impl_RunsOf.f k a b c d l) R ∧ R.length ≤ 3600 ∧ ∀ r ∈ R, goodRun r := by
  have q := area_bd hb
  obtain ⟨g1, g2, g3, g4, g5, g6, g7, g8⟩ := id hb
  obtain ⟨R, h1, h2, h3⟩ := RunsOf_v (a := a) (b := b) (c := c) (d := d) l (by omega) (by omega) (by omega) (by omega) (by omega)
  refine ⟨R, h1, h2, h3, ?_⟩
  obtain ⟨k, hk⟩ := Ev.rounds h2
  simp only [impl_RunsOf.f] at hk
  obtain ⟨t, _, hk⟩ := Option.bind_eq_some_iff.mp hk
  split at hk
  · exact (runs_good (bitsP a b c d l) (fun x y => bitsP_bd hA x y) (fun x y => impl_bitsAt_v x y hb hl) (by omega) (by omega) k).1 [] b R hk (by simp)
  · obtain rfl := Option.some.inj hk
    simp
/-! What is painted. -/
def paint1 (a b c y v : Int) : Nat → Int → List Int → List Int
  | 0, _, l => l
  | n + 1, x, l => paint1 a b c y v n (x + 1) (l.set ((y - b) * (c - a) + x - a).toNat v)
def paintR (a b c : Int) (r : S129) (l : List Int) : List Int := paint1 a b c r.f0 r.f3 (r.f2 - r.f1).toNat r.f1 l
theorem paint1_length (a b c y v : Int) : ∀ (n : Nat) (x : Int) (l : List Int), (paint1 a b c y v n x l).length = l.length
  | 0, _, _ => rfl
  | n + 1, x, l => by rw [paint1, paint1_length a b c y v n, List.length_set]
theorem paint1_bits (a b c y : Int) {v : Int} (h0 : 0 ≤ v) (h1 : v ≤ 15) : ∀ (n : Nat) (x : Int) (l : List Int), allBits l = true → allBits (paint1 a b c y v n x l) = true
  | 0, _, _, h => h
  | n + 1, x, l, h => by
    rw [paint1]
    refine paint1_bits a b c y h0 h1 n _ _ (allBits_of fun z hz => ?_)
    rcases List.mem_or_eq_of_mem_set hz with hz | rfl
    · exact allBits_mem h z hz
    · exact ⟨h0, h1⟩
section
variable {a b c d : Int} (hb : maskBoxP a b c d) (rs : List S129) {r : Int × Int × Int × Int × List Int × Bool}
include hb
theorem spec_paint (i : Int) (y X0 X1 v : Int) (hy : b ≤ y ∧ y < d) (h1 : X1 ≤ c) : ∀ (n : Nat) (x : Int) (l : List Int), a ≤ x → n = (X1 - x).toNat → (l.length : Int) = (c - a) * (d - b) →
    Ev (fun k => spec_MaskBy.l0 k rs (wrap64 (i + 1)) a b c d a b c d (paint1 a b c y v n x l)) r → Ev (fun k => spec_MaskBy.l1 k rs i x a b c d a b c d l y X0 X1 v) r := by
  intro n
  induction n with
  | zero =>
    intro x l hx hn hl h
    refine Ev.step (fun k => ?_) h
    simp only [spec_MaskBy.l1]
    rw [if_neg (by omega)]
    rfl
  | succ n ih =>
    intro x l hx hn hl h
    obtain ⟨e1, e2, e3⟩ := place_bd hb (x := x) (y := y) ⟨hx, by omega, hy.1, hy.2⟩
    have g := hb
    obtain ⟨g1, g2, g3, g4, g5, g6, g7, g8⟩ := g
    refine Ev.step (fun k => ?_) (ih (x + 1) (l.set ((y - b) * (c - a) + x - a).toNat v) (by omega) (by omega) (by rw [List.length_set]; exact hl) h)
    simp only [spec_MaskBy.l1, e1]
    rw [if_pos (by omega), if_pos e2, if_pos (by omega), w64 (x := x + 1) (by omega) (by omega)]
theorem impl_paint (i N : Int) (y X0 X1 v : Int) (hy : b ≤ y ∧ y < d) (h1 : X1 ≤ c) : ∀ (n : Nat) (x : Int) (l : List Int), a ≤ x → n = (X1 - x).toNat → (l.length : Int) = (c - a) * (d - b) →
    Ev (fun k => impl_MaskBy.l0 k rs (wrap64 (c - a)) rs N (wrap64 (i + 1)) a b c d a b c d (paint1 a b c y v n x l)) r → Ev (fun k => impl_MaskBy.l1 k rs (wrap64 (c - a)) x rs N i a b c d a b c d l y X0 X1 v) r := by
  intro n
  induction n with
  | zero =>
    intro x l hx hn hl h
    refine Ev.step (fun k => ?_) h
    simp only [impl_MaskBy.l1]
    rw [if_neg (by omega)]
    rfl
  | succ n ih =>
    intro x l hx hn hl h
    obtain ⟨e1, e2, e3⟩ := place_bd hb (x := x) (y := y) ⟨hx, by omega, hy.1, hy.2⟩
    have g := hb
    obtain ⟨g1, g2, g3, g4, g5, g6, g7, g8⟩ := g
    refine Ev.step (fun k => ?_) (ih (x + 1) (l.set ((y - b) * (c - a) + x - a).toNat v) (by omega) (by omega) (by rw [List.length_set]; exact hl) h)
    simp only [impl_MaskBy.l1, e1]
    rw [if_pos (by omega), if_pos e2, if_pos (by omega), w64 (x := x + 1) (by omega) (by omega)]
end
/-! Two lists of runs, compared. -/
def runB (x y : S129) : Bool := x.f0 == y.f0 && (x.f1 == y.f1 && (x.f2 == y.f2 && x.f3 == y.f3))
def eqRuns : List S129 → List S129 → Bool
  | [], [] => true
  | x :: xs, y :: ys => runB x y && eqRuns xs ys
  | _, _ => false
theorem runB_not (x y : S129) : (!(x.f0 == y.f0) || (!(x.f1 == y.f1) || (!(x.f2 == y.f2) || (!(x.f3 == y.f3))))) = !(runB x y) := by
  unfold runB
  cases x.f0 == y.f0 <;> cases x.f1 == y.f1 <;> cases x.f2 == y.f2 <;> cases x.f3 == y.f3 <;> rfl
theorem eqRuns_len : ∀ xs ys : List S129, eqRuns xs ys = true → xs.length = ys.length
  | [], [], _ => rfl
  | x :: xs, y :: ys, h => by
    simp only [eqRuns, Bool.and_eq_true] at h
    simp [eqRuns_len xs ys h.2]
  | [], _ :: _, h => by simp [eqRuns] at h
  | _ :: _, [], h => by simp [eqRuns] at h
theorem eqRuns_good : ∀ xs ys : List S129, eqRuns xs ys = true → (∀ r ∈ xs, goodRun r) → ∀ r ∈ ys, goodRun r
  | [], [], _, h => h
  | x :: xs, y :: ys, h, hg => by
    simp only [eqRuns, Bool.and_eq_true] at h
    intro r hr
    rcases List.mem_cons.mp hr with rfl | hr
    · have e := h.1
      simp only [runB, Bool.and_eq_true, beq_iff_eq] at e
      obtain ⟨e0, e1, e2, e3⟩ := e
      have gx := hg x (by simp)
      unfold goodRun at gx ⊢
      omega
    · exact eqRuns_good xs ys h.2 (fun r hr => hg r (by simp [hr])) r hr
  | [], _ :: _, h, _ => by simp [eqRuns] at h
  | _ :: _, [], h, _ => by simp [eqRuns] at h
theorem impl_Run_l (xs ys : List S129) (hl : xs.length = ys.length) (hn : xs.length ≤ 1048576) : ∀ (d i : Nat), i + d = xs.length → Ev (fun k => impl_Run.l0 k xs ys (xs.length : Int) (i : Int)) (eqRuns (xs.drop i) (ys.drop i)) := by
  intro d
  induction d with
  | zero =>
    intro i hi
    refine ev_done (fun k => ?_)
    simp only [impl_Run.l0]
    rw [if_neg (by omega), List.drop_of_length_le (by omega), List.drop_of_length_le (by omega)]
    rfl
  | succ d ih =>
    intro i hi
    have hx : i < xs.length := by omega
    have hy : i < ys.length := by omega
    rw [List.drop_eq_getElem_cons hx, List.drop_eq_getElem_cons hy, eqRuns]
    cases hB : runB xs[i] ys[i] with
    | true =>
      rw [Bool.true_and]
      refine Ev.step (fun k => ?_) (ih (i + 1) (by omega))
      simp only [impl_Run.l0, rd_impl_Run _ _ hx, rd_impl_Run _ _ hy, runB_not, hB, Bool.not_true, Bool.false_eq_true, if_false, step64 hx (show xs.length ≤ 4611686018427387904 by omega)]
      rw [if_pos (by omega), if_pos (by omega), if_pos (by omega), if_pos (by omega)]
    | false =>
      rw [Bool.false_and]
      refine ev_done (fun k => ?_)
      simp only [impl_Run.l0, rd_impl_Run _ _ hx, rd_impl_Run _ _ hy, runB_not, hB, Bool.not_false, if_true]
      rw [if_pos (by omega), if_pos (by omega), if_pos (by omega), if_pos (by omega)]
theorem impl_Run_v (xs ys : List S129) (hn : xs.length ≤ 1048576) : Ev (fun k => impl_Run.f k xs ys) (eqRuns xs ys) := by
  by_cases hl : xs.length = ys.length
  · refine Ev.congr (fun k => ?_) (impl_Run_l xs ys hl hn xs.length 0 (by omega))
    unfold impl_Run.f
    rw [if_pos (by omega)]
    rfl
  · have e : eqRuns xs ys = false := by
      cases h : eqRuns xs ys with
      | false => rfl
      | true => exact absurd (eqRuns_len xs ys h) hl
    rw [e]
    refine Ev.congr (fun k => ?_) (Ev.now false)
    unfold impl_Run.f
    rw [if_neg (by omega)]
abbrev ByR := Int × Int × Int × Int × List Int × Bool
def byFail : ByR := (0, 0, 0, 0, [], false)
theorem spec_cmp (a b c d : Int) (l : List Int) (rs R : List S129) (hl : R.length = rs.length) (hn : R.length ≤ 1048576) : ∀ (n i : Nat), i + n = rs.length →
    Ev (fun k => spec_MaskBy.l2 k rs R (i : Int) a b c d l) (if eqRuns (R.drop i) (rs.drop i) = true then (a, b, c, d, l, true) else byFail) := by
  intro n
  induction n with
  | zero =>
    intro i hi
    refine ev_done (fun k => ?_)
    simp only [spec_MaskBy.l2]
    rw [if_neg (by omega), List.drop_of_length_le (by omega), List.drop_of_length_le (by omega)]
    rfl
  | succ n ih =>
    intro i hi
    have hx : i < R.length := by omega
    have hy : i < rs.length := by omega
    rw [List.drop_eq_getElem_cons hx, List.drop_eq_getElem_cons hy, eqRuns]
    cases hB : runB R[i] rs[i] with
    | true =>
      rw [Bool.true_and]
      refine Ev.step (fun k => ?_) (ih (i + 1) (by omega))
      simp only [spec_MaskBy.l2, rd_impl_Run _ _ hx, rd_impl_Run _ _ hy, runB_not, hB, Bool.not_true, Bool.false_eq_true, if_false, step64 hx (show R.length ≤ 4611686018427387904 by omega)]
      rw [if_pos (by omega), if_pos (by omega), if_pos (by omega)]
    | false =>
      rw [Bool.false_and, if_neg (by simp)]
      refine ev_done (fun k => ?_)
      simp only [spec_MaskBy.l2, rd_impl_Run _ _ hx, rd_impl_Run _ _ hy, runB_not, hB, Bool.not_false, if_true]
      rw [if_pos (by omega), if_pos (by omega), if_pos (by omega)]
      rfl
theorem spec_j4_v (a b c d : Int) (l : List Int) (rs R : List S129) (hn : R.length ≤ 1048576) :
    Ev (fun k => spec_MaskBy.j4 k rs R ((R.length : Int) != (rs.length : Int)) a b c d l) (if eqRuns R rs = true then (a, b, c, d, l, true) else byFail) := by
  by_cases hl : R.length = rs.length
  · refine Ev.step (fun k => ?_) (spec_cmp a b c d l rs R hl hn rs.length 0 (by omega))
    simp only [spec_MaskBy.j4]
    rw [if_neg (by simp [hl])]
    rfl
  · have e : eqRuns R rs = false := by
      cases h : eqRuns R rs with
      | false => rfl
      | true => exact absurd (eqRuns_len R rs h) hl
    rw [e, if_neg (by simp)]
    refine ev_done (fun k => ?_)
    simp only [spec_MaskBy.j4]
    rw [if_pos (by simp; omega)]
    rfl
/-! The ends, and the two walks over the runs. -/
def sGeo (a b c d : Int) (r : S129) : Prop := (b ≤ r.f0 ∧ r.f0 ≤ d - 1) ∧ (a ≤ r.f1 ∧ r.f1 ≤ c - 1) ∧ (r.f1 + 1 ≤ r.f2 ∧ r.f2 ≤ c)
instance (a b c d : Int) (r : S129) : Decidable (sGeo a b c d r) := by unfold sGeo; infer_instance
def iGeo (a b c d : Int) (r : S129) : Prop := (a ≤ r.f1 ∧ r.f1 < c ∧ b ≤ r.f0 ∧ r.f0 < d) ∧ r.f2 ≤ c ∧ (1 ≤ r.f3 ∧ r.f3 ≤ 15)
instance (a b c d : Int) (r : S129) : Decidable (iGeo a b c d r) := by unfold iGeo; infer_instance
section
variable {a b c d : Int} (hb : maskBoxP a b c d) (rs : List S129) (hn : rs.length ≤ 1048576)
include hb hn
theorem spec_go (i : Nat) (hi : i < rs.length) (l : List Int) (hl : (l.length : Int) = (c - a) * (d - b)) (hg : sGeo a b c d rs[i]) {r : ByR}
    (h : Ev (fun k => spec_MaskBy.l0 k rs ((i + 1 : Nat) : Int) a b c d a b c d (paintR a b c rs[i] l)) r) : Ev (fun k => spec_MaskBy.l0 k rs (i : Int) a b c d a b c d l) r := by
  have g := hb
  obtain ⟨g1, g2, g3, g4, g5, g6, g7, g8⟩ := g
  obtain ⟨⟨p1, p2⟩, ⟨p3, p4⟩, p5, p6⟩ := hg
  rw [← step64 hi (by omega)] at h
  refine Ev.step (fun k => ?_) (Ev.step (f := fun k => spec_MaskBy.l1 k rs (i : Int) rs[i].f1 a b c d a b c d l rs[i].f0 rs[i].f1 rs[i].f2 rs[i].f3) (g := fun k => spec_MaskBy.j2 k rs (i : Int) false a b c d a b c d l rs[i].f0 rs[i].f1 rs[i].f2 rs[i].f3) (fun k => ?_)
    (spec_paint hb rs (i : Int) rs[i].f0 rs[i].f1 rs[i].f2 rs[i].f3 ⟨p1, by omega⟩ p6 _ rs[i].f1 l p3 rfl hl h))
  · simp only [spec_MaskBy.l0, rd_impl_Run _ _ hi, spec_l01In_v, Option.bind_some]
    rw [if_pos (by omega), if_pos (by omega), w64 (x := d - 1) (by omega) (by omega), w64 (x := c - 1) (by omega) (by omega), w64 (x := rs[i].f1 + 1) (by omega) (by omega), decide_eq_true (p := b ≤ rs[i].f0 ∧ rs[i].f0 ≤ d - 1) ⟨p1, p2⟩,
      decide_eq_true (p := a ≤ rs[i].f1 ∧ rs[i].f1 ≤ c - 1) ⟨p3, p4⟩, decide_eq_true (p := rs[i].f1 + 1 ≤ rs[i].f2 ∧ rs[i].f2 ≤ c) ⟨p5, p6⟩]
    rfl
  · simp only [spec_MaskBy.j2]
    rfl
theorem spec_no (i : Nat) (hi : i < rs.length) (l : List Int) (hg : ¬ sGeo a b c d rs[i]) : Ev (fun k => spec_MaskBy.l0 k rs (i : Int) a b c d a b c d l) byFail := by
  have _ := hn
  have g := hb
  obtain ⟨g1, g2, g3, g4, g5, g6, g7, g8⟩ := g
  refine Ev.step (f := fun k => spec_MaskBy.j2 k rs (i : Int) true a b c d a b c d l rs[i].f0 rs[i].f1 rs[i].f2 rs[i].f3) (fun k => ?_) (ev_done (fun k => ?_))
  · simp only [spec_MaskBy.l0, rd_impl_Run _ _ hi, spec_l01In_v, Option.bind_some]
    rw [if_pos (by omega), if_pos (by omega), w64 (x := d - 1) (by omega) (by omega), w64 (x := c - 1) (by omega) (by omega)]
    by_cases q1 : b ≤ rs[i].f0 ∧ rs[i].f0 ≤ d - 1
    · rw [decide_eq_true q1, if_pos rfl]
      by_cases q2 : a ≤ rs[i].f1 ∧ rs[i].f1 ≤ c - 1
      · rw [decide_eq_true q2, if_pos rfl, w64 (x := rs[i].f1 + 1) (by omega) (by omega), decide_eq_false (p := rs[i].f1 + 1 ≤ rs[i].f2 ∧ rs[i].f2 ≤ c) (fun q3 => hg ⟨q1, q2, q3⟩)]
        rfl
      · rw [decide_eq_false q2, if_neg (by simp)]
    · rw [decide_eq_false q1, if_neg (by simp)]
  · simp only [spec_MaskBy.j2, if_true]
    rfl
theorem impl_go (i : Nat) (hi : i < rs.length) (l : List Int) (hl : (l.length : Int) = (c - a) * (d - b)) (hg : iGeo a b c d rs[i]) {r : ByR}
    (h : Ev (fun k => impl_MaskBy.l0 k rs (wrap64 (c - a)) rs (rs.length : Int) ((i + 1 : Nat) : Int) a b c d a b c d (paintR a b c rs[i] l)) r) : Ev (fun k => impl_MaskBy.l0 k rs (wrap64 (c - a)) rs (rs.length : Int) (i : Int) a b c d a b c d l) r := by
  obtain ⟨⟨p3, p4, p1, p2⟩, p6, p7⟩ := hg
  rw [← step64 hi (by omega)] at h
  refine Ev.step (fun k => ?_) (Ev.step (f := fun k => impl_MaskBy.l1 k rs (wrap64 (c - a)) rs[i].f1 rs (rs.length : Int) (i : Int) a b c d a b c d l rs[i].f0 rs[i].f1 rs[i].f2 rs[i].f3) (g := fun k => impl_MaskBy.j1 k rs (wrap64 (c - a)) rs (rs.length : Int) (i : Int) false a b c d a b c d l rs[i].f0 rs[i].f1 rs[i].f2 rs[i].f3) (fun k => ?_)
    (impl_paint hb rs (i : Int) (rs.length : Int) rs[i].f0 rs[i].f1 rs[i].f2 rs[i].f3 ⟨p1, p2⟩ p6 _ rs[i].f1 l p3 rfl hl h))
  · simp only [impl_MaskBy.l0, rd_impl_Run _ _ hi, impl_inRange_v, impl_InBox.f]
    rw [if_pos (by omega), if_pos (by omega), if_pos (by omega), if_pos (show rs[i].f1 ≥ a from p3), if_pos p4, if_pos (show rs[i].f0 ≥ b from p1), decide_eq_true p2]
    simp only [Option.bind_some, if_true]
    rw [if_neg (by omega), decide_eq_true p7]
    rfl
  · simp only [impl_MaskBy.j1]
    rfl
theorem impl_no (i : Nat) (hi : i < rs.length) (l : List Int) (hg : ¬ iGeo a b c d rs[i]) : Ev (fun k => impl_MaskBy.l0 k rs (wrap64 (c - a)) rs (rs.length : Int) (i : Int) a b c d a b c d l) byFail := by
  have _ := hn
  have _ := hb
  refine Ev.step (f := fun k => impl_MaskBy.j1 k rs (wrap64 (c - a)) rs (rs.length : Int) (i : Int) true a b c d a b c d l rs[i].f0 rs[i].f1 rs[i].f2 rs[i].f3) (fun k => ?_) (ev_done (fun k => ?_))
  · simp only [impl_MaskBy.l0, rd_impl_Run _ _ hi, impl_inRange_v, impl_InBox.f]
    rw [if_pos (by omega), if_pos (by omega), if_pos (by omega)]
    by_cases q : a ≤ rs[i].f1 ∧ rs[i].f1 < c ∧ b ≤ rs[i].f0 ∧ rs[i].f0 < d
    · rw [if_pos (show rs[i].f1 ≥ a from q.1), if_pos q.2.1, if_pos (show rs[i].f0 ≥ b from q.2.2.1), decide_eq_true q.2.2.2]
      simp only [Option.bind_some, if_true]
      by_cases q2 : rs[i].f2 > c
      · rw [if_pos q2]
      · rw [if_neg q2, decide_eq_false (p := 1 ≤ rs[i].f3 ∧ rs[i].f3 ≤ 15) (fun q3 => hg ⟨q, by omega, q3⟩)]
        rfl
    · by_cases q1 : rs[i].f1 ≥ a
      · rw [if_pos q1]
        by_cases q2 : rs[i].f1 < c
        · rw [if_pos q2]
          by_cases q3 : rs[i].f0 ≥ b
          · rw [if_pos q3, decide_eq_false (p := rs[i].f0 < d) (fun q4 => q ⟨q1, q2, q3, q4⟩)]
            simp
          · rw [if_neg q3]
            simp
        · rw [if_neg q2]
          simp
      · rw [if_neg q1]
        simp
  · simp only [impl_MaskBy.j1, if_true]
    rfl
theorem maskOk_box {l : List Int} (hl : (l.length : Int) = (c - a) * (d - b)) : maskOkB a b c d l = allBits l := by
  have _ := hn
  have hz : ¬ (a = 0 ∧ b = 0 ∧ c = 0 ∧ d = 0) := by have := hb.1; omega
  unfold maskOkB
  rw [if_neg hz, decide_eq_true hb, decide_eq_true hl]
  rfl
theorem spec_bad (hbad : ∃ r ∈ rs, ¬ goodRun r) : ∀ (n i : Nat) (l : List Int), i + n = rs.length → (l.length : Int) = (c - a) * (d - b) → Ev (fun k => spec_MaskBy.l0 k rs (i : Int) a b c d a b c d l) byFail := by
  intro n
  induction n with
  | zero =>
    intro i l hi hl
    have q := area_bd hb
    have hm := spec_MaskOk_v a b c d l (by omega)
    rw [maskOk_box hb rs hn hl] at hm
    obtain ⟨g1, g2, g3, g4, g5, g6, g7, g8⟩ := id hb
    cases hA : allBits l with
    | true =>
      rw [hA] at hm
      obtain ⟨R, h1, h2, h3, h4⟩ := RunsOf_g hb hl hA
      have e : eqRuns R rs = false := by
        cases h : eqRuns R rs with
        | false => rfl
        | true =>
          obtain ⟨r, hr, hnr⟩ := hbad
          exact absurd (eqRuns_good R rs h h4 r hr) hnr
      have h5 := spec_j4_v a b c d l rs R (by omega)
      rw [e, if_neg (by simp)] at h5
      refine Ev.step (f := fun k => (spec_RunsOf.f k a b c d l).bind fun t144 => ((spec_MaskOk.f k a b c d l).bind fun t147 => (if t147 = true then (spec_MaskBy.j4 k rs t144 ((t144.length : Int) != (rs.length : Int)) a b c d l) else (spec_MaskBy.j4 k rs t144 true a b c d l)))) (fun k => ?_) (Ev.bind h1 (Ev.bind hm ?_))
      · simp only [spec_MaskBy.l0]
        rw [if_neg (by omega)]
      · simp only [if_true]
        exact h5
    | false =>
      rw [hA] at hm
      obtain ⟨R, h1, h2, h3⟩ := RunsOf_v (a := a) (b := b) (c := c) (d := d) l (by omega) (by omega) (by omega) (by omega) (by omega)
      refine Ev.step (f := fun k => (spec_RunsOf.f k a b c d l).bind fun t144 => ((spec_MaskOk.f k a b c d l).bind fun t147 => (if t147 = true then (spec_MaskBy.j4 k rs t144 ((t144.length : Int) != (rs.length : Int)) a b c d l) else (spec_MaskBy.j4 k rs t144 true a b c d l)))) (fun k => ?_) (Ev.bind h1 (Ev.bind hm ?_))
      · simp only [spec_MaskBy.l0]
        rw [if_neg (by omega)]
      · simp only [Bool.false_eq_true, if_false]
        refine ev_done (fun k => ?_)
        simp only [spec_MaskBy.j4, if_true]
        rfl
  | succ n ih =>
    intro i l hi hl
    have hi2 : i < rs.length := by omega
    by_cases hg : sGeo a b c d rs[i]
    · exact spec_go hb rs hn i hi2 l hl hg (ih (i + 1) _ (by omega) (by unfold paintR; rw [paint1_length]; exact hl))
    · exact spec_no hb rs hn i hi2 l hg
theorem impl_end (l : List Int) (hl : (l.length : Int) = (c - a) * (d - b)) (hA : allBits l = true) : ∃ R, Ev (fun k => spec_RunsOf.f k a b c d l) R ∧ R.length ≤ 3600 ∧ (∀ r ∈ R, goodRun r) ∧
    Ev (fun k => impl_MaskBy.l0 k rs (wrap64 (c - a)) rs (rs.length : Int) (rs.length : Int) a b c d a b c d l) (if eqRuns R rs = true then (a, b, c, d, l, true) else byFail) := by
  have _ := hn
  obtain ⟨R, h1, h2, h3, h4⟩ := RunsOf_g hb hl hA
  refine ⟨R, h1, h3, h4, ?_⟩
  refine Ev.step (f := fun k => (impl_RunsOf.f k a b c d l).bind fun t200 => ((impl_Run.f k t200 rs).bind fun t203 => (if t203 = true then (some (a, b, c, d, l, true)) else (some (0, 0, 0, 0, ([] : List Int), false))))) (fun k => ?_) (Ev.bind h2 (Ev.bind (impl_Run_v R rs (by omega)) ?_))
  · simp only [impl_MaskBy.l0]
    rw [if_neg (by omega)]
  · cases eqRuns R rs <;> exact Ev.now _
theorem impl_bad (hbad : ∃ r ∈ rs, ¬ goodRun r) : ∀ (n i : Nat) (l : List Int), i + n = rs.length → (l.length : Int) = (c - a) * (d - b) → allBits l = true → Ev (fun k => impl_MaskBy.l0 k rs (wrap64 (c - a)) rs (rs.length : Int) (i : Int) a b c d a b c d l) byFail := by
  intro n
  induction n with
  | zero =>
    intro i l hi hl hA
    obtain ⟨R, h1, h3, h4, h5⟩ := impl_end hb rs hn l hl hA
    have e : eqRuns R rs = false := by
      cases h : eqRuns R rs with
      | false => rfl
      | true =>
        obtain ⟨r, hr, hnr⟩ := hbad
        exact absurd (eqRuns_good R rs h h4 r hr) hnr
    rw [e, if_neg (by simp)] at h5
    obtain rfl : i = rs.length := by omega
    exact h5
  | succ n ih =>
    intro i l hi hl hA
    have hi2 : i < rs.length := by omega
    by_cases hg : iGeo a b c d rs[i]
    · exact impl_go hb rs hn i hi2 l hl hg (ih (i + 1) _ (by omega) (by unfold paintR; rw [paint1_length]; exact hl) (paint1_bits a b c _ (by have := hg.2.2.1; omega) hg.2.2.2 _ _ _ hA))
    · exact impl_no hb rs hn i hi2 l hg
theorem both_go : ∀ (n i : Nat) (l : List Int), i + n = rs.length → (l.length : Int) = (c - a) * (d - b) → allBits l = true → ∃ r : ByR, Ev (fun k => spec_MaskBy.l0 k rs (i : Int) a b c d a b c d l) r ∧ Ev (fun k => impl_MaskBy.l0 k rs (wrap64 (c - a)) rs (rs.length : Int) (i : Int) a b c d a b c d l) r ∧
    (r.2.2.2.2.1.length ≤ 3600) ∧ (3600 < rs.length → r = byFail) := by
  intro n
  induction n with
  | zero =>
    intro i l hi hl hA
    have q := area_bd hb
    obtain ⟨R, h1, h3, h4, h5⟩ := impl_end hb rs hn l hl hA
    have hm := spec_MaskOk_v a b c d l (by omega)
    rw [maskOk_box hb rs hn hl, hA] at hm
    obtain rfl : i = rs.length := by omega
    refine ⟨_, Ev.step (f := fun k => (spec_RunsOf.f k a b c d l).bind fun t144 => ((spec_MaskOk.f k a b c d l).bind fun t147 => (if t147 = true then (spec_MaskBy.j4 k rs t144 ((t144.length : Int) != (rs.length : Int)) a b c d l) else (spec_MaskBy.j4 k rs t144 true a b c d l)))) (fun k => ?_) (Ev.bind h1 (Ev.bind hm ?_)), h5, ?_, ?_⟩
    · simp only [spec_MaskBy.l0]
      rw [if_neg (by omega)]
    · simp only [if_true]
      exact spec_j4_v a b c d l rs R (by omega)
    · split
      · show l.length ≤ 3600
        omega
      · simp [byFail]
    · intro hw
      rw [if_neg]
      intro he
      have := eqRuns_len R rs he
      omega
  | succ n ih =>
    intro i l hi hl hA
    have hi2 : i < rs.length := by omega
    by_cases hs : sGeo a b c d rs[i]
    · by_cases hg : iGeo a b c d rs[i]
      · obtain ⟨r, h1, h2, h3⟩ := ih (i + 1) (paintR a b c rs[i] l) (by omega) (by unfold paintR; rw [paint1_length]; exact hl) (paint1_bits a b c _ (by have := hg.2.2.1; omega) hg.2.2.2 _ _ _ hA)
        exact ⟨r, spec_go hb rs hn i hi2 l hl hs h1, impl_go hb rs hn i hi2 l hl hg h2, h3⟩
      · have hbad : ∃ r ∈ rs, ¬ goodRun r := ⟨rs[i], List.getElem_mem hi2, fun h => hg ⟨⟨hs.2.1.1, by have := hs.2.1.2; omega, hs.1.1, by have := hs.1.2; omega⟩, hs.2.2.2, h.2⟩⟩
        exact ⟨byFail, spec_bad hb rs hn hbad (n + 1) i l hi hl, impl_no hb rs hn i hi2 l hg, by simp [byFail], fun _ => rfl⟩
    · by_cases hg : iGeo a b c d rs[i]
      · have hbad : ∃ r ∈ rs, ¬ goodRun r := ⟨rs[i], List.getElem_mem hi2, fun h => hs ⟨⟨hg.1.2.2.1, by have := hg.1.2.2.2; omega⟩, ⟨hg.1.1, by have := hg.1.2.1; omega⟩, by have := h.1; omega, hg.2.1⟩⟩
        exact ⟨byFail, spec_no hb rs hn i hi2 l hs, impl_bad hb rs hn hbad (n + 1) i l hi hl hA, by simp [byFail], fun _ => rfl⟩
      · exact ⟨byFail, spec_no hb rs hn i hi2 l hs, impl_no hb rs hn i hi2 l hg, by simp [byFail], fun _ => rfl⟩
end
theorem MaskBy_v {a b c d : Int} (rs : List S129) (hn : rs.length ≤ 1048576) (ha : -9223372036854775808 ≤ a ∧ a ≤ 9223372036854775807) (hb : -9223372036854775808 ≤ b ∧ b ≤ 9223372036854775807) (hc : -9223372036854775808 ≤ c ∧ c ≤ 9223372036854775807) (hd : -9223372036854775808 ≤ d ∧ d ≤ 9223372036854775807) :
    ∃ r : ByR, Ev (fun k => spec_MaskBy.f k a b c d rs) r ∧ Ev (fun k => impl_MaskBy.f k a b c d rs) r ∧ r.2.2.2.2.1.length ≤ 3600 := by
  unfold spec_MaskBy.f impl_MaskBy.f
  by_cases hz : (a == 0 && (b == 0 && (c == 0 && (d == 0)))) = true
  · simp only [if_pos hz]
    exact ⟨_, Ev.now _, Ev.now _, by simp⟩
  · simp only [if_neg hz, spec_l11Box_v, impl_isMaskBox_v ha hb hc hd, Option.bind_some]
    by_cases hx : maskBoxP a b c d
    · have q := area_bd hx
      rw [decide_eq_true hx]
      simp only [if_true, area_w hx]
      simp only [if_pos (show 0 ≤ (c - a) * (d - b) by omega), if_pos (show ((c - a) * (d - b)).toNat ≤ 35184372088832 by omega)]
      obtain ⟨r, h1, h2, h3, h4⟩ := both_go hx rs hn rs.length 0 (List.replicate ((c - a) * (d - b)).toNat 0) (by omega) (by rw [List.length_replicate]; omega) (allBits_of fun z hz => by rw [(List.mem_replicate.mp hz).2]; omega)
      refine ⟨r, ?_, h2, h3⟩
      by_cases hw : 3600 < rs.length
      · obtain rfl := h4 hw
        rw [decide_eq_true (by omega)]
        refine ev_done (fun k => ?_)
        simp only [spec_MaskBy.j0, if_true]
        rfl
      · rw [decide_eq_false (by omega)]
        refine Ev.step (fun k => ?_) h1
        simp only [spec_MaskBy.j0, area_w hx, Bool.false_eq_true, if_false]
        rw [if_pos (by omega), if_pos (by omega)]
        rfl
    · rw [decide_eq_false hx]
      refine ⟨byFail, ?_, Ev.now _, by simp [byFail]⟩
      simp only [Bool.false_eq_true, if_false]
      refine ev_done (fun k => ?_)
      simp only [spec_MaskBy.j0, if_true]
      rfl

/-! laws_eqIntS -/
theorem laws_eqIntS_l (x0 : List Int) (hn : x0.length ≤ 1048576) : ∀ (d i : Nat), i + d = x0.length → Ev (fun k => laws_eqIntS.l0 k x0 x0 (i : Int)) true := by
  intro d
  induction d with
  | zero =>
    intro i hi
    refine ev_done (fun k => ?_)
    simp only [laws_eqIntS.l0]
    rw [if_neg (by omega)]
  | succ d ih =>
    intro i hi
    have hi2 : i < x0.length := by omega
    refine Ev.step (fun k => ?_) (ih (i + 1) (by omega))
    simp only [laws_eqIntS.l0]
    rw [if_pos (by omega), if_pos (by omega), if_pos (by omega), step64 hi2 (by omega)]
    simp
theorem laws_eqIntS_v (x0 : List Int) (hn : x0.length ≤ 1048576) : Ev (fun k => laws_eqIntS.f k x0 x0) true := by
  refine Ev.congr (fun k => ?_) (laws_eqIntS_l x0 hn x0.length 0 (by omega))
  unfold laws_eqIntS.f
  rw [if_pos rfl]
  rfl

/-! laws_eqRunS -/
theorem laws_eqRunS_l (x0 : List S129) (hn : x0.length ≤ 1048576) : ∀ (d i : Nat), i + d = x0.length → Ev (fun k => laws_eqRunS.l0 k x0 x0 (i : Int)) true := by
  intro d
  induction d with
  | zero =>
    intro i hi
    refine ev_done (fun k => ?_)
    simp only [laws_eqRunS.l0]
    rw [if_neg (by omega)]
  | succ d ih =>
    intro i hi
    have hi2 : i < x0.length := by omega
    refine Ev.step (fun k => ?_) (ih (i + 1) (by omega))
    simp only [laws_eqRunS.l0, laws_eqRun.f]
    rw [if_pos (by omega), if_pos (by omega), if_pos (by omega), step64 hi2 (by omega)]
    simp
theorem laws_eqRunS_v (x0 : List S129) (hn : x0.length ≤ 1048576) : Ev (fun k => laws_eqRunS.f k x0 x0) true := by
  refine Ev.congr (fun k => ?_) (laws_eqRunS_l x0 hn x0.length 0 (by omega))
  unfold laws_eqRunS.f
  rw [if_pos rfl]
  rfl

/-! marksRun -/
def marksRun : Nat → Int → List S129
  | 0, _ => []
  | n + 1, c => ⟨c, c + 1, c + 2, c + 3⟩ :: marksRun n (c + 4)
theorem marksRun_length : ∀ (n : Nat) (c : Int), (marksRun n c).length = n
  | 0, _ => rfl
  | n + 1, c => by rw [marksRun, List.length_cons, marksRun_length n]

/-! laws_markRunS -/
theorem laws_markRunS_l : ∀ (d i : Nat) (x0 : List S129) (c : Int), x0.length ≤ 4194304 → i + d = x0.length → 0 ≤ c → c + 4 * (d : Int) ≤ 1152921504606846976 →
    Ev (fun k => laws_markRunS.l0 k x0 c (i : Int)) (c + 4 * (d : Int), x0.take i ++ marksRun d c) := by
  intro d
  induction d with
  | zero =>
    intro i x0 c hn hi h0 h1
    refine ev_done (fun k => ?_)
    simp only [laws_markRunS.l0]
    rw [if_neg (by omega), List.take_of_length_le (by omega)]
    simp [marksRun]
  | succ d ih =>
    intro i x0 c hn hi h0 h1
    have hi2 : i < x0.length := by omega
    have e1 : wrap64 (c + 1) = c + 1 := by rw [w64 (by omega) (by omega)] <;> omega
    have e2 : wrap64 (c + 1 + 1) = c + 2 := by rw [w64 (by omega) (by omega)] <;> omega
    have e3 : wrap64 (c + 2 + 1) = c + 3 := by rw [w64 (by omega) (by omega)] <;> omega
    have e4 : wrap64 (c + 3 + 1) = c + 4 := by rw [w64 (by omega) (by omega)] <;> omega
    have hs : ∀ v, rd_T129 (x0.set i v) (i : Int) = v := fun v => by rw [rd_impl_Run _ _ (by simpa using hi2)]; simp
    refine Ev.step (f := fun k => laws_markRunS.l0 k (x0.set i ⟨c, c + 1, c + 2, c + 3⟩) (c + 4) ((i + 1 : Nat) : Int)) (fun k => ?_) ?_
    · simp only [laws_markRunS.l0, Option.bind_some, Int.toNat_natCast, List.set_set, hs, e1, e2, e3, e4, step64 hi2 (show x0.length ≤ 4611686018427387904 by omega)]
      rw [if_pos (by omega), if_pos (by omega)]
    · have h := ih (i + 1) (x0.set i ⟨c, c + 1, c + 2, c + 3⟩) (c + 4) (by simpa using hn) (by simp; omega) (by omega) (by omega)
      rw [take_set_succ _ _ _ (by omega), List.append_assoc] at h
      have e : c + 4 * ((d + 1 : Nat) : Int) = c + 4 + 4 * (d : Int) := by omega
      rw [e]
      exact h
theorem laws_markRunS_v (x0 : List S129) (c : Int) (hn : x0.length ≤ 4194304) (h0 : 0 ≤ c) (h1 : c ≤ 1125899906842624) : Ev (fun k => laws_markRunS.f k x0 c) (c + 4 * (x0.length : Int), marksRun x0.length c) := by
  have h := laws_markRunS_l x0.length 0 x0 c hn (by omega) h0 (by omega)
  exact h

/-! marksInt -/
def marksInt : Nat → Int → List Int
  | 0, _ => []
  | n + 1, c => c :: marksInt n (c + 1)
theorem marksInt_length : ∀ (n : Nat) (c : Int), (marksInt n c).length = n
  | 0, _ => rfl
  | n + 1, c => by rw [marksInt, List.length_cons, marksInt_length n]

/-! laws_heldIntS -/
theorem laws_heldIntS_l : ∀ (d i : Nat) (x0 : List Int) (c : Int), x0.length ≤ 4194304 → i + d = x0.length → 0 ≤ c → c + 1 * (d : Int) ≤ 1152921504606846976 → x0.drop i = marksInt d c →
    Ev (fun k => laws_heldIntS.l0 k x0 c (i : Int)) (c + 1 * (d : Int)) := by
  intro d
  induction d with
  | zero =>
    intro i x0 c hn hi h0 h1 hd
    refine ev_done (fun k => ?_)
    simp only [laws_heldIntS.l0]
    rw [if_neg (by omega)]
    simp
  | succ d ih =>
    intro i x0 c hn hi h0 h1 hd
    have hi2 : i < x0.length := by omega
    rw [List.drop_eq_getElem_cons hi2, marksInt] at hd
    obtain ⟨hx, hd⟩ := List.cons.inj hd
    have e1 : wrap64 (c + 1) = c + 1 := by rw [w64 (by omega) (by omega)] <;> omega
    have e : c + 1 * ((d + 1 : Nat) : Int) = c + 1 + 1 * (d : Int) := by omega
    rw [e]
    refine Ev.step (fun k => ?_) (ih (i + 1) x0 (c + 1) hn (by omega) (by omega) (by omega) hd)
    simp only [laws_heldIntS.l0, rd_int _ _ hi2, hx, e1, if_true, step64 hi2 (show x0.length ≤ 4611686018427387904 by omega)]
    rw [if_pos (by omega), if_pos (by omega)]
theorem laws_heldIntS_v (n : Nat) (c : Int) (hn : n ≤ 4194304) (h0 : 0 ≤ c) (h1 : c ≤ 1125899906842624) : Ev (fun k => laws_heldIntS.f k (marksInt n c) c) (c + 1 * (n : Int)) :=
  laws_heldIntS_l n 0 (marksInt n c) c (by rw [marksInt_length]; exact hn) (by rw [marksInt_length]; omega) h0 (by omega) rfl

/-! laws_markIntS -/
theorem laws_markIntS_l : ∀ (d i : Nat) (x0 : List Int) (c : Int), x0.length ≤ 4194304 → i + d = x0.length → 0 ≤ c → c + 1 * (d : Int) ≤ 1152921504606846976 →
    Ev (fun k => laws_markIntS.l0 k x0 c (i : Int)) (c + 1 * (d : Int), x0.take i ++ marksInt d c) := by
  intro d
  induction d with
  | zero =>
    intro i x0 c hn hi h0 h1
    refine ev_done (fun k => ?_)
    simp only [laws_markIntS.l0]
    rw [if_neg (by omega), List.take_of_length_le (by omega)]
    simp [marksInt]
  | succ d ih =>
    intro i x0 c hn hi h0 h1
    have hi2 : i < x0.length := by omega
    have e1 : wrap64 (c + 1) = c + 1 := by rw [w64 (by omega) (by omega)] <;> omega
    refine Ev.step (f := fun k => laws_markIntS.l0 k (x0.set i c) (c + 1) ((i + 1 : Nat) : Int)) (fun k => ?_) ?_
    · simp only [laws_markIntS.l0, Option.bind_some, Int.toNat_natCast, List.set_set, e1, step64 hi2 (show x0.length ≤ 4611686018427387904 by omega)]
      rw [if_pos (by omega), if_pos (by omega)]
    · have h := ih (i + 1) (x0.set i c) (c + 1) (by simpa using hn) (by simp; omega) (by omega) (by omega)
      rw [take_set_succ _ _ _ (by omega), List.append_assoc] at h
      have e : c + 1 * ((d + 1 : Nat) : Int) = c + 1 + 1 * (d : Int) := by omega
      rw [e]
      exact h
theorem laws_markIntS_v (x0 : List Int) (c : Int) (hn : x0.length ≤ 4194304) (h0 : 0 ≤ c) (h1 : c ≤ 1125899906842624) : Ev (fun k => laws_markIntS.f k x0 c) (c + 1 * (x0.length : Int), marksInt x0.length c) := by
  have h := laws_markIntS_l x0.length 0 x0 c hn (by omega) h0 (by omega)
  exact h

/-! rd_laws_Run -/
theorem rd_laws_Run (xs : List S133) (i : Nat) (h : i < xs.length) : rd_T133 xs (i : Int) = xs[i] := by
  unfold rd_T133
  simp [h]

/-! laws_toRunS -/
def convRun (x : S133) : S129 := ⟨x.f0, x.f1, x.f2, x.f3⟩
theorem laws_toRunS_l (x0 : List S133) (hn : x0.length ≤ 1048576) : ∀ (d i : Nat) (x3 : List S129), x3.length = x0.length → i + d = x0.length →
    Ev (fun k => laws_toRunS.l0 k x0 x3 (i : Int)) (x3.take i ++ (x0.drop i).map convRun) := by
  intro d
  induction d with
  | zero =>
    intro i x3 hl hi
    refine ev_done (fun k => ?_)
    simp only [laws_toRunS.l0]
    rw [if_neg (by omega), List.take_of_length_le (by omega), List.drop_of_length_le (by omega)]
    simp
  | succ d ih =>
    intro i x3 hl hi
    have hi2 : i < x0.length := by omega
    refine Ev.step (f := fun k => laws_toRunS.l0 k x0 (x3.set i (convRun x0[i])) ((i + 1 : Nat) : Int)) (fun k => ?_) ?_
    · simp only [laws_toRunS.l0, laws_toRun.f, Option.bind_some]
      rw [if_pos (by omega), if_pos (by omega), step64 hi2 (by omega), rd_laws_Run _ _ hi2]
      rw [if_pos (by omega)]
      rfl
    · have h := ih (i + 1) (x3.set i (convRun x0[i])) (by simpa using hl) (by omega)
      rw [take_set_succ _ _ _ (by omega)] at h
      rw [List.drop_eq_getElem_cons hi2]
      rw [List.append_assoc] at h
      exact h
theorem laws_toRunS_v (x0 : List S133) (hn : x0.length ≤ 1048576) : Ev (fun k => laws_toRunS.f k x0) (x0.map convRun) := by
  have h := laws_toRunS_l x0 hn x0.length 0 (List.replicate x0.length z129) (by simp) (by omega)
  refine Ev.congr (fun k => ?_) (by simpa using h)
  unfold laws_toRunS.f
  rw [if_pos (by omega), if_pos (by omega)]
  simp

/-! laws_szRunS -/
theorem laws_szRunS_v (l : List S133) (a : Int) (h0 : 0 ≤ a) (h1 : a ≤ 1048576) (hl : l.length ≤ maxLen) : laws_szRunS.f l a = some (if (l.length : Int) ≤ a then a - (l.length : Int) else -1) := by
  unfold maxLen at hl
  have hw : wrap64 (a - (l.length : Int)) = a - (l.length : Int) := w64 (by omega) (by omega)
  unfold laws_szRunS.f
  rw [hw]
  by_cases h : (l.length : Int) ≤ a
  · rw [if_neg (by omega), if_pos h]
  · rw [if_pos (by omega), if_neg h]

/-! law_FnExactMaskBy -/
theorem eqMask_v (a b c d : Int) (l : List Int) (hn : l.length ≤ 1048576) : Ev (fun k => laws_eqMask.f k a b c d l a b c d l) true := by
  unfold laws_eqMask.f
  simp only [laws_eqBox.f, if_true, Option.bind_some]
  refine Ev.bind (laws_eqIntS_v l hn) ?_
  simp only [if_true]
  exact Ev.now true
theorem pure : PureS := by
  intro a b c d l wa wb wc wd hl
  have hz := laws_szRunS_v l 1048576 (by omega) (by omega) hl.1
  by_cases h : (l.length : Int) ≤ 1048576
  · rw [if_pos h] at hz
    have hn : l.length ≤ 1048576 := by omega
    have ht := laws_toRunS_v l hn
    have hm : (l.map convRun).length ≤ 1048576 := by simpa using hn
    obtain ⟨⟨q0, q1, q2, q3, L, ok⟩, h1, h2, h3⟩ := MaskBy_v (l.map convRun) hm (wf64 wa) (wf64 wb) (wf64 wc) (wf64 wd)
    replace h3 : L.length ≤ 3600 := h3
    have he := laws_eqRunS_v (l.map convRun) hm
    have hk := laws_markRunS_v (l.map convRun) 1 (by omega) (by omega) (by omega)
    have hq := eqMask_v q0 q1 q2 q3 L (by omega)
    have hM : Ev (fun k => laws_markMask.f k q0 q1 q2 q3 L 1) (1 + 1 * (L.length : Int), marksInt L.length 1) := by
      unfold laws_markMask.f
      exact Ev.bind (laws_markIntS_v L 1 (by omega) (by omega) (by omega)) (Ev.now _)
    have hh : Ev (fun k => laws_heldMask.f k q0 q1 q2 q3 (marksInt L.length 1) 1) (1 + 1 * (L.length : Int)) := by
      unfold laws_heldMask.f
      refine Ev.bind (laws_heldIntS_v L.length 1 (by omega) (by omega) (by omega)) ?_
      refine Ev.congr (fun k => ?_) (Ev.now _)
      rw [if_neg (by omega)]
    refine Ev.rounds ?_
    simp only [laws_FnExactMaskBy.f, hz, Option.bind_some, laws_toBox.f]
    simp only [if_neg (show ¬ (1048576 - (l.length : Int) < 0) by omega)]
    refine Ev.bind ht (Ev.bind h1 (Ev.bind ht (Ev.bind h2 (Ev.bind hq ?_))))
    simp only [if_true]
    refine Ev.step (fun k => rfl) ?_
    have hnn : (ok != ok) = false := by cases ok <;> rfl
    simp only [hnn, Bool.false_eq_true, if_false]
    refine Ev.bind ht (Ev.bind he ?_)
    simp only [if_true]
    refine Ev.bind hk ?_
    simp only [if_neg (show ¬ (1 + 4 * ((l.map convRun).length : Int) < 0) by omega)]
    refine Ev.bind hq ?_
    simp only [if_true, hnn]
    refine Ev.step (fun k => rfl) ?_
    first | simp only [Bool.false_eq_true, if_false] | skip
    refine Ev.bind hM (Ev.bind hh ?_)
    simp only [if_neg (show ¬ (1 + 1 * (L.length : Int) < 0) by omega), if_true, laws_toBox.f, Option.bind_some]
    refine Ev.bind ht (Ev.bind h2 (Ev.bind hq ?_))
    simp only [if_true, hnn]
    refine Ev.step (fun k => rfl) ?_
    first | simp only [Bool.false_eq_true, if_false] | skip
    refine Ev.bind hh ?_
    simp only [if_neg (show ¬ (1 + 1 * (L.length : Int) < 0) by omega), if_true]
    exact Ev.now true
  · rw [if_neg h] at hz
    exact ⟨0, by simp [laws_FnExactMaskBy.f, hz]⟩

end Go.Proofs.Ytgdlbilpfmjeaaa.QFnExactMaskBy
