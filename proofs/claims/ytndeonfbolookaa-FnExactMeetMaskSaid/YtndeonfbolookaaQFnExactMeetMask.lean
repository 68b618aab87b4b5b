/- The pure statement of the law FnExactMeetMask, for every input: what the printed functions compute makes the law answer true. No conditions beyond what the row reads. -/
import Derived.Test.YtndeonfbolookaaTFnExactMeetMask
namespace Go.Proofs.Ytndeonfbolookaa.QFnExactMeetMask
open Go.RowKit Go.Proofs.Ytndeonfbolookaa.MFnExactMeetMask Go.Proofs.Ytndeonfbolookaa.TFnExactMeetMask Go.Proofs.YtndeonfbolookaaW.PrintWords Go.Proofs.YtndeonfbolookaaW.PrintLast
set_option linter.unusedVariables false
set_option linter.unusedSimpArgs false

/-! base -/
theorem w64 {x : Int} (h1 : -9223372036854775808 ≤ x) (h2 : x ≤ 9223372036854775807) : wrap64 x = x := by
  unfold wrap64
  omega

theorem wf64 {x : Int} (h : (Lit.int .i64 x).wf = true) : -9223372036854775808 ≤ x ∧ x ≤ 9223372036854775807 := by
  have h2 : (decide (IntKind.i64.min ≤ x) && decide (x ≤ IntKind.i64.max)) = true := h
  rw [Bool.and_eq_true, decide_eq_true_eq, decide_eq_true_eq] at h2
  exact ⟨h2.1, h2.2⟩

theorem take_set_succ {α : Type} (xs : List α) (i : Nat) (v : α) (h : i < xs.length) : (xs.set i v).take (i + 1) = xs.take i ++ [v] := by
  rw [List.take_succ_eq_append_getElem (by simpa using h), List.take_set_of_le (Nat.le_refl i), List.getElem_set_self]

theorem step64 {i n : Nat} (h : i < n) (hn : n ≤ 4611686018427387904) : wrap64 ((i : Int) + 1) = ((i + 1 : Nat) : Int) := by
  rw [w64 (by omega) (by omega)]
  omega

theorem ev_done {α : Type} {g : Nat → Option α} {r : α} (h : ∀ k, g (k + 1) = some r) : Ev g r := Ev.step (f := fun _ => some r) h (Ev.now r)

theorem ev_const {α : Type} {o : Option α} {r : α} (h : o = some r) : Ev (fun _ => o) r := by
  subst h
  exact Ev.now r

/-! spec_l01In -/
theorem spec_l01In_v (a b c : Int) : spec_l01In.f a b c = some (decide (b ≤ a ∧ a ≤ c)) := by
  unfold spec_l01In.f
  by_cases h : a ≥ b
  · rw [if_pos h]
    simp [h]
  · rw [if_neg h]
    simp
    omega

/-! impl_inRange -/
theorem impl_inRange_v (a b c : Int) : impl_inRange.f a b c = some (decide (b ≤ a ∧ a ≤ c)) := by
  unfold impl_inRange.f
  by_cases h : a ≥ b
  · rw [if_pos h]
    simp [h]
  · rw [if_neg h]
    simp
    omega

/-! rd_int -/
theorem rd_int (xs : List Int) (i : Nat) (h : i < xs.length) : rd xs (i : Int) = xs[i] := by
  unfold rd
  simp [h]

/-! MaskOk -/
def maskBoxP (a b c d : Int) : Prop := a < c ∧ b < d ∧ -2000 ≤ a ∧ -2000 ≤ b ∧ c ≤ 2000 ∧ d ≤ 2000 ∧ c - a ≤ 60 ∧ d - b ≤ 60
instance (a b c d : Int) : Decidable (maskBoxP a b c d) := by unfold maskBoxP; infer_instance
def allBits (l : List Int) : Bool := l.all (fun x => decide (0 ≤ x ∧ x ≤ 15))
def maskOkB (a b c d : Int) (l : List Int) : Bool := if a = 0 ∧ b = 0 ∧ c = 0 ∧ d = 0 then decide (l.length = 0) else (decide (maskBoxP a b c d) && decide ((l.length : Int) = (c - a) * (d - b)) && allBits l)
theorem area_bd {a b c d : Int} (h : maskBoxP a b c d) : 1 ≤ (c - a) * (d - b) ∧ (c - a) * (d - b) ≤ 3600 := by
  obtain ⟨h1, h2, _, _, _, _, h3, h4⟩ := h
  have e1 : 1 * 1 ≤ (c - a) * (d - b) := Int.mul_le_mul (by omega) (by omega) (by omega) (by omega)
  have e2 : (c - a) * (d - b) ≤ 60 * 60 := Int.mul_le_mul (by omega) (by omega) (by omega) (by omega)
  omega
theorem area_w {a b c d : Int} (h : maskBoxP a b c d) : wrap64 ((wrap64 (c - a)) * (wrap64 (d - b))) = (c - a) * (d - b) := by
  have q := area_bd h
  obtain ⟨h1, h2, _, _, _, _, h3, h4⟩ := h
  rw [w64 (x := c - a) (by omega) (by omega), w64 (x := d - b) (by omega) (by omega), w64 (by omega) (by omega)]
theorem spec_l11Box_v (a b c d : Int) : spec_l11Box.f a b c d = some (decide (maskBoxP a b c d)) := by
  unfold spec_l11Box.f spec_Empty.f maskBoxP
  simp only [spec_l01In_v]
  by_cases h1 : a ≥ c
  · rw [if_pos h1]
    simp only [Option.bind_some, if_true]
    refine congrArg some (Eq.symm (decide_eq_false ?_))
    omega
  · rw [if_neg h1]
    simp only [Option.bind_some, decide_eq_true_eq]
    by_cases h2 : b ≥ d
    · rw [if_pos h2]
      refine congrArg some (Eq.symm (decide_eq_false ?_))
      omega
    · rw [if_neg h2]
      by_cases h3 : (-2000 ≤ a ∧ a ≤ 2000) ∧ (-2000 ≤ b ∧ b ≤ 2000) ∧ (-2000 ≤ c ∧ c ≤ 2000) ∧ (-2000 ≤ d ∧ d ≤ 2000)
      · rw [if_pos h3.1, if_pos h3.2.1, if_pos h3.2.2.1, if_pos h3.2.2.2, w64 (by omega) (by omega), w64 (by omega) (by omega)]
        split
        · refine congrArg some (decide_eq_decide.mpr ?_)
          omega
        · refine congrArg some (Eq.symm (decide_eq_false ?_))
          omega
      · repeat' split
        all_goals first | (exfalso; omega) | (refine congrArg some (Eq.symm (decide_eq_false ?_)); omega)
theorem impl_isMaskBox_v {a b c d : Int} (ha : -9223372036854775808 ≤ a ∧ a ≤ 9223372036854775807) (hb : -9223372036854775808 ≤ b ∧ b ≤ 9223372036854775807) (hc : -9223372036854775808 ≤ c ∧ c ≤ 9223372036854775807) (hd : -9223372036854775808 ≤ d ∧ d ≤ 9223372036854775807) :
    impl_isMaskBox.f a b c d = some (decide (maskBoxP a b c d)) := by
  unfold impl_isMaskBox.f impl_Empty.f maskBoxP
  by_cases h1 : a ≥ c
  · rw [if_pos h1]
    simp only [Option.bind_some, if_true]
    refine congrArg some (Eq.symm (decide_eq_false ?_))
    omega
  · rw [if_neg h1]
    simp only [Option.bind_some, decide_eq_true_eq]
    by_cases h2 : b ≥ d
    · rw [if_pos h2]
      refine congrArg some (Eq.symm (decide_eq_false ?_))
      omega
    · rw [if_neg h2]
      by_cases h3 : (-2000 ≤ a ∧ a ≤ 2000) ∧ (-2000 ≤ b ∧ b ≤ 2000) ∧ (-2000 ≤ c ∧ c ≤ 2000) ∧ (-2000 ≤ d ∧ d ≤ 2000)
      · rw [if_neg (by omega), if_neg (by omega), if_neg (by omega), if_neg (by omega), w64 (by omega) (by omega), w64 (by omega) (by omega)]
        split
        · refine congrArg some (decide_eq_decide.mpr ?_)
          omega
        · refine congrArg some (Eq.symm (decide_eq_false ?_))
          omega
      · repeat' split
        all_goals first | (exfalso; omega) | (refine congrArg some (Eq.symm (decide_eq_false ?_)); omega)
theorem spec_MaskOk_l (a b c d : Int) (l : List Int) (hn : l.length ≤ 1048576) : ∀ (m i : Nat), i + m = l.length → Ev (fun k => spec_MaskOk.l0 k (i : Int) a b c d l) (allBits (l.drop i)) := by
  intro m
  induction m with
  | zero =>
    intro i hi
    refine ev_done (fun k => ?_)
    simp only [spec_MaskOk.l0]
    rw [if_neg (by omega), List.drop_of_length_le (by omega)]
    rfl
  | succ m ih =>
    intro i hi
    have hi2 : i < l.length := by omega
    rw [List.drop_eq_getElem_cons hi2, allBits, List.all_cons]
    by_cases hx : 0 ≤ l[i] ∧ l[i] ≤ 15
    · rw [decide_eq_true hx, Bool.true_and]
      refine Ev.step (fun k => ?_) (ih (i + 1) (by omega))
      simp only [spec_MaskOk.l0, spec_l01In_v, Option.bind_some]
      rw [if_pos (by omega), if_pos (by omega), rd_int _ _ hi2, step64 hi2 (by omega), if_pos (by simpa using hx)]
    · rw [decide_eq_false hx, Bool.false_and]
      refine ev_done (fun k => ?_)
      simp only [spec_MaskOk.l0, spec_l01In_v, Option.bind_some]
      rw [if_pos (by omega), if_pos (by omega), rd_int _ _ hi2, if_neg (by simpa using hx)]
theorem impl_MaskOk_l (l : List Int) (hn : l.length ≤ 1048576) : ∀ (m i : Nat), i + m = l.length → Ev (fun k => impl_MaskOk.l0 k l (l.length : Int) (i : Int)) (allBits (l.drop i)) := by
  intro m
  induction m with
  | zero =>
    intro i hi
    refine ev_done (fun k => ?_)
    simp only [impl_MaskOk.l0]
    rw [if_neg (by omega), List.drop_of_length_le (by omega)]
    rfl
  | succ m ih =>
    intro i hi
    have hi2 : i < l.length := by omega
    rw [List.drop_eq_getElem_cons hi2, allBits, List.all_cons]
    by_cases hx : 0 ≤ l[i] ∧ l[i] ≤ 15
    · rw [decide_eq_true hx, Bool.true_and]
      refine Ev.step (fun k => ?_) (ih (i + 1) (by omega))
      simp only [impl_MaskOk.l0, impl_inRange_v, Option.bind_some]
      rw [if_pos (by omega), if_pos (by omega), if_pos (by omega), rd_int _ _ hi2, step64 hi2 (by omega), if_pos (by simpa using hx)]
    · rw [decide_eq_false hx, Bool.false_and]
      refine ev_done (fun k => ?_)
      simp only [impl_MaskOk.l0, impl_inRange_v, Option.bind_some]
      rw [if_pos (by omega), if_pos (by omega), if_pos (by omega), rd_int _ _ hi2, if_neg (by simpa using hx)]
theorem spec_MaskOk_v (a b c d : Int) (l : List Int) (hn : l.length ≤ 1048576) : Ev (fun k => spec_MaskOk.f k a b c d l) (maskOkB a b c d l) := by
  unfold spec_MaskOk.f maskOkB
  by_cases h0 : (l.length : Int) = 0
  · simp only [if_pos h0]
    by_cases hz : a = 0 ∧ b = 0 ∧ c = 0 ∧ d = 0
    · rw [if_pos hz]
      obtain ⟨rfl, rfl, rfl, rfl⟩ := hz
      refine ev_const (congrArg some ?_)
      simp
      exact List.length_eq_zero_iff.mp (by omega)
    · rw [if_neg hz]
      refine ev_const (congrArg some ?_)
      have e : (decide (maskBoxP a b c d) && decide ((l.length : Int) = (c - a) * (d - b))) = false := by
        by_cases hb : maskBoxP a b c d
        · have := area_bd hb
          rw [decide_eq_false (p := (l.length : Int) = (c - a) * (d - b)) (by omega)]
          simp
        · rw [decide_eq_false hb]
          rfl
      rw [e]
      simp
      omega
  · simp only [if_neg h0, spec_l11Box_v, Option.bind_some]
    by_cases hb : maskBoxP a b c d
    · have hz : ¬ (a = 0 ∧ b = 0 ∧ c = 0 ∧ d = 0) := by have := hb.1; omega
      rw [if_neg hz, decide_eq_true hb]
      simp only [if_true, area_w hb]
      by_cases hl : (l.length : Int) = (c - a) * (d - b)
      · rw [decide_eq_true hl]
        refine Ev.step (fun k => ?_) (spec_MaskOk_l a b c d l hn l.length 0 (by omega))
        simp only [spec_MaskOk.j0]
        rw [if_neg (by simp [hl])]
        rfl
      · rw [decide_eq_false hl]
        refine ev_done (fun k => ?_)
        simp only [spec_MaskOk.j0]
        rw [if_pos (by simpa using hl)]
        rfl
    · rw [decide_eq_false hb]
      have e : (if a = 0 ∧ b = 0 ∧ c = 0 ∧ d = 0 then decide (l.length = 0) else (false && decide ((l.length : Int) = (c - a) * (d - b)) && allBits l)) = false := by
        split
        · exact decide_eq_false (by omega)
        · rfl
      rw [e]
      simp only [Bool.false_eq_true, if_false]
      refine ev_done (fun k => ?_)
      simp only [spec_MaskOk.j0, if_true]
theorem impl_MaskOk_v {a b c d : Int} (l : List Int) (hn : l.length ≤ 1048576) (ha : -9223372036854775808 ≤ a ∧ a ≤ 9223372036854775807) (hb : -9223372036854775808 ≤ b ∧ b ≤ 9223372036854775807) (hc : -9223372036854775808 ≤ c ∧ c ≤ 9223372036854775807) (hd : -9223372036854775808 ≤ d ∧ d ≤ 9223372036854775807) :
    Ev (fun k => impl_MaskOk.f k a b c d l) (maskOkB a b c d l) := by
  unfold impl_MaskOk.f maskOkB
  by_cases hz : a = 0 ∧ b = 0 ∧ c = 0 ∧ d = 0
  · rw [if_pos hz]
    obtain ⟨rfl, rfl, rfl, rfl⟩ := hz
    refine ev_const ?_
    refine congrArg some ?_
    rw [Bool.eq_iff_iff]
    simp
  · rw [if_neg hz]
    have hz2 : ¬ (a == 0 && (b == 0 && (c == 0 && (d == 0)))) = true := by
      simp
      omega
    simp only [if_neg hz2, impl_isMaskBox_v ha hb hc hd, Option.bind_some]
    by_cases hb : maskBoxP a b c d
    · rw [decide_eq_true hb]
      simp only [if_true, area_w hb]
      by_cases hl : (l.length : Int) = (c - a) * (d - b)
      · rw [decide_eq_true hl]
        refine Ev.step (fun k => ?_) (impl_MaskOk_l l hn l.length 0 (by omega))
        simp only [impl_MaskOk.j0]
        rw [if_neg (by simp [hl])]
        rfl
      · rw [decide_eq_false hl]
        refine ev_done (fun k => ?_)
        simp only [impl_MaskOk.j0]
        rw [if_pos (by simpa using hl)]
        rfl
    · rw [decide_eq_false hb]
      simp only [Bool.false_eq_true, if_false]
      refine ev_done (fun k => ?_)
      simp only [impl_MaskOk.j0, if_true]
      rfl

/-! BitsAt -/
def bitsP (a b c d : Int) (l : List Int) (x y : Int) : Int := if a ≤ x ∧ x < c ∧ b ≤ y ∧ y < d then rd l ((y - b) * (c - a) + x - a) else 0
theorem place_bd {a b c d x y : Int} (hb : maskBoxP a b c d) (h : a ≤ x ∧ x < c ∧ b ≤ y ∧ y < d) :
    wrap64 ((wrap64 ((wrap64 ((wrap64 (y - b)) * (wrap64 (c - a)))) + x)) - a) = (y - b) * (c - a) + x - a ∧ 0 ≤ (y - b) * (c - a) + x - a ∧ (y - b) * (c - a) + x - a < (c - a) * (d - b) := by
  have q := area_bd hb
  obtain ⟨h1, h2, h3, h4, h5, h6, h7, h8⟩ := hb
  obtain ⟨g1, g2, g3, g4⟩ := h
  have m0 : 0 ≤ (y - b) * (c - a) := Int.mul_nonneg (by omega) (by omega)
  have m1 : (y - b) * (c - a) ≤ (d - b - 1) * (c - a) := Int.mul_le_mul_of_nonneg_right (by omega) (by omega)
  have m2 : (d - b - 1) * (c - a) = (c - a) * (d - b) - (c - a) := by rw [Int.sub_mul, Int.mul_comm (d - b) (c - a), Int.one_mul]
  refine ⟨?_, by omega, by omega⟩
  rw [w64 (x := y - b) (by omega) (by omega), w64 (x := c - a) (by omega) (by omega), w64 (x := (y - b) * (c - a)) (by omega) (by omega), w64 (x := (y - b) * (c - a) + x) (by omega) (by omega), w64 (by omega) (by omega)]
theorem spec_l11Bits_v {a b c d : Int} {l : List Int} (x y : Int) (hb : maskBoxP a b c d) (hl : (l.length : Int) = (c - a) * (d - b)) : spec_l11Bits.f a b c d l x y = some (bitsP a b c d l x y) := by
  unfold spec_l11Bits.f spec_InBox.f bitsP
  by_cases h : a ≤ x ∧ x < c ∧ b ≤ y ∧ y < d
  · obtain ⟨e1, e2, e3⟩ := place_bd hb h
    rw [if_pos h.1, if_pos h.2.1, if_pos h.2.2.1, decide_eq_true h.2.2.2]
    simp only [Option.bind_some, if_true, e1]
    rw [if_pos e2, if_pos (by omega), if_pos h]
  · rw [if_neg h]
    repeat' split
    all_goals simp
    all_goals omega
theorem impl_bitsAt_v {a b c d : Int} {l : List Int} (x y : Int) (hb : maskBoxP a b c d) (hl : (l.length : Int) = (c - a) * (d - b)) : impl_Mask_bitsAt.f a b c d l x y = some (bitsP a b c d l x y) := by
  unfold impl_Mask_bitsAt.f impl_InBox.f bitsP
  by_cases h : a ≤ x ∧ x < c ∧ b ≤ y ∧ y < d
  · obtain ⟨e1, e2, e3⟩ := place_bd hb h
    rw [if_pos (show x ≥ a from h.1), if_pos h.2.1, if_pos (show y ≥ b from h.2.2.1), decide_eq_true h.2.2.2]
    simp only [Option.bind_some, if_true, e1]
    rw [if_pos e2, if_pos (by omega), if_pos h]
  · rw [if_neg h]
    repeat' split
    all_goals simp
    all_goals omega
/-- A mask that is right: none at all, or one over a box. -/
theorem maskOk_cases {a b c d : Int} {l : List Int} (h : maskOkB a b c d l = true) : (a = 0 ∧ b = 0 ∧ c = 0 ∧ d = 0 ∧ l = []) ∨ (maskBoxP a b c d ∧ (l.length : Int) = (c - a) * (d - b) ∧ allBits l = true) := by
  unfold maskOkB at h
  split at h
  · rename_i hz
    exact .inl ⟨hz.1, hz.2.1, hz.2.2.1, hz.2.2.2, List.length_eq_zero_iff.mp (of_decide_eq_true h)⟩
  · simp only [Bool.and_eq_true, decide_eq_true_eq] at h
    exact .inr ⟨h.1.1, h.1.2, h.2⟩
theorem bits_none (x y : Int) : spec_l11Bits.f 0 0 0 0 [] x y = some 0 ∧ impl_Mask_bitsAt.f 0 0 0 0 [] x y = some 0 := by
  constructor
  · unfold spec_l11Bits.f spec_InBox.f
    repeat' split
    all_goals simp
    all_goals omega
  · unfold impl_Mask_bitsAt.f impl_InBox.f
    repeat' split
    all_goals simp
    all_goals omega
theorem bits_ok {a b c d : Int} {l : List Int} (h : maskOkB a b c d l = true) (x y : Int) : ∃ r, spec_l11Bits.f a b c d l x y = some r ∧ impl_Mask_bitsAt.f a b c d l x y = some r := by
  rcases maskOk_cases h with ⟨rfl, rfl, rfl, rfl, rfl⟩ | ⟨h1, h2, h3⟩
  · exact ⟨0, bits_none x y⟩
  · exact ⟨_, spec_l11Bits_v x y h1 h2, impl_bitsAt_v x y h1 h2⟩

/-! laws_szIntS -/
theorem laws_szIntS_v (l : List Int) (a : Int) (h0 : 0 ≤ a) (h1 : a ≤ 1048576) (hl : l.length ≤ maxLen) : laws_szIntS.f l a = some (if (l.length : Int) ≤ a then a - (l.length : Int) else -1) := by
  unfold maxLen at hl
  have hw : wrap64 (a - (l.length : Int)) = a - (l.length : Int) := w64 (by omega) (by omega)
  unfold laws_szIntS.f
  rw [hw]
  by_cases h : (l.length : Int) ≤ a
  · rw [if_neg (by omega), if_pos h]
  · rw [if_pos (by omega), if_neg h]

/-! laws_toIntS -/
def convInt (x : Int) : Int := x
theorem laws_toIntS_l (x0 : List Int) (hn : x0.length ≤ 1048576) : ∀ (d i : Nat) (x3 : List Int), x3.length = x0.length → i + d = x0.length →
    Ev (fun k => laws_toIntS.l0 k x0 x3 (i : Int)) (x3.take i ++ (x0.drop i).map convInt) := by
  intro d
  induction d with
  | zero =>
    intro i x3 hl hi
    refine ev_done (fun k => ?_)
    simp only [laws_toIntS.l0]
    rw [if_neg (by omega), List.take_of_length_le (by omega), List.drop_of_length_le (by omega)]
    simp
  | succ d ih =>
    intro i x3 hl hi
    have hi2 : i < x0.length := by omega
    refine Ev.step (f := fun k => laws_toIntS.l0 k x0 (x3.set i (convInt x0[i])) ((i + 1 : Nat) : Int)) (fun k => ?_) ?_
    · simp only [laws_toIntS.l0]
      rw [if_pos (by omega), if_pos (by omega), step64 hi2 (by omega), rd_int _ _ hi2]
      rw [if_pos (by omega)]
      rfl
    · have h := ih (i + 1) (x3.set i (convInt x0[i])) (by simpa using hl) (by omega)
      rw [take_set_succ _ _ _ (by omega)] at h
      rw [List.drop_eq_getElem_cons hi2]
      rw [List.append_assoc] at h
      exact h
theorem laws_toIntS_v (x0 : List Int) (hn : x0.length ≤ 1048576) : Ev (fun k => laws_toIntS.f k x0) (x0.map convInt) := by
  have h := laws_toIntS_l x0 hn x0.length 0 (List.replicate x0.length 0) (by simp) (by omega)
  refine Ev.congr (fun k => ?_) (by simpa using h)
  unfold laws_toIntS.f
  rw [if_pos (by omega), if_pos (by omega)]
  simp
theorem laws_toIntS_w (x0 : List Int) (hn : x0.length ≤ 1048576) : Ev (fun k => laws_toIntS.f k x0) x0 := by
  have h := laws_toIntS_v x0 hn
  rw [show x0.map convInt = x0 from (List.map_congr_left (fun _ _ => rfl)).trans (List.map_id x0)] at h
  exact h

/-! laws_eqIntS -/
theorem laws_eqIntS_l (x0 : List Int) (hn : x0.length ≤ 1048576) : ∀ (d i : Nat), i + d = x0.length → Ev (fun k => laws_eqIntS.l0 k x0 x0 (i : Int)) true := by
  intro d
  induction d with
  | zero =>
    intro i hi
    refine ev_done (fun k => ?_)
    simp only [laws_eqIntS.l0]
    rw [if_neg (by omega)]
  | succ d ih =>
    intro i hi
    have hi2 : i < x0.length := by omega
    refine Ev.step (fun k => ?_) (ih (i + 1) (by omega))
    simp only [laws_eqIntS.l0]
    rw [if_pos (by omega), if_pos (by omega), if_pos (by omega), step64 hi2 (by omega)]
    simp
theorem laws_eqIntS_v (x0 : List Int) (hn : x0.length ≤ 1048576) : Ev (fun k => laws_eqIntS.f k x0 x0) true := by
  refine Ev.congr (fun k => ?_) (laws_eqIntS_l x0 hn x0.length 0 (by omega))
  unfold laws_eqIntS.f
  rw [if_pos rfl]
  rfl

/-! Masks_lib -/
theorem laws_szMask_v (a b c d : Int) (l : List Int) (n : Int) (h0 : 0 ≤ n) (h1 : n ≤ 1048576) (hl : l.length ≤ maxLen) : laws_szMask.f a b c d l n = some (if (l.length : Int) ≤ n then n - (l.length : Int) else -1) := by
  unfold laws_szMask.f
  rw [laws_szIntS_v l n h0 h1 hl, Option.bind_some]
  by_cases h : (l.length : Int) ≤ n
  · rw [if_pos h, if_neg (by omega)]
  · rw [if_neg h, if_pos (by omega)]
theorem laws_toMask_v (a b c d : Int) (l : List Int) (hn : l.length ≤ 1048576) : Ev (fun k => laws_toMask.f k a b c d l) (a, b, c, d, l) := by
  unfold laws_toMask.f
  simp only [laws_toBox.f, Option.bind_some]
  exact Ev.bind (laws_toIntS_w l hn) (Ev.now _)
theorem laws_eqMask_v (a b c d : Int) (l : List Int) (hn : l.length ≤ 1048576) : Ev (fun k => laws_eqMask.f k a b c d l a b c d l) true := by
  unfold laws_eqMask.f
  simp only [laws_eqBox.f, if_true, Option.bind_some]
  refine Ev.bind (laws_eqIntS_v l hn) ?_
  simp only [if_true]
  exact Ev.now true

/-! MeetMask -/
theorem both_ok : ∀ u v : Fin 16, spec_l11Both.f 6 (u.val : Int) (v.val : Int) = some (Go.bits .and .i64 (u.val : Int) (v.val : Int)) := by decide +kernel
theorem both_v (u v : Int) (hu : 0 ≤ u ∧ u ≤ 15) (hv : 0 ≤ v ∧ v ≤ 15) : Ev (fun k => spec_l11Both.f k u v) (Go.bits .and .i64 u v) := by
  have h := both_ok ⟨u.toNat, by omega⟩ ⟨v.toNat, by omega⟩
  have eu : ((u.toNat : Nat) : Int) = u := by omega
  have ev : ((v.toNat : Nat) : Int) = v := by omega
  simp only [eu, ev] at h
  exact Ev.of (fun k => spec_l11Both.mono u v k) h
theorem allBits_mem' {l : List Int} (h : allBits l = true) : ∀ x ∈ l, 0 ≤ x ∧ x ≤ 15 := by
  intro x hx
  unfold allBits at h
  simpa using List.all_eq_true.mp h x hx
theorem bitsP_bd' {a b c d : Int} {l : List Int} (h : allBits l = true) (x y : Int) : 0 ≤ bitsP a b c d l x y ∧ bitsP a b c d l x y ≤ 15 := by
  unfold bitsP
  split
  · unfold rd
    rw [List.getD_eq_getElem?_getD]
    cases hq : l[((y - b) * (c - a) + x - a).toNat]? with
    | none => simp
    | some v => exact allBits_mem' h v (List.mem_of_getElem? hq)
  · omega
abbrev MR := Int × Int × Int × Int × List Int
section
variable {a b c d a' b' c' d' : Int} {l l' : List Int} (h1 : maskBoxP a b c d) (h2 : (l.length : Int) = (c - a) * (d - b)) (h3 : allBits l = true) (g1 : maskBoxP a' b' c' d') (g2 : (l'.length : Int) = (c' - a') * (d' - b')) (g3 : allBits l' = true)
include h1 h2 h3 g1 g2 g3
theorem meet_cols (p q r s y : Int) (m : Nat) (hr0 : -2000 ≤ r) (hr1 : r ≤ 2000)
    (H0 : ∀ out : List Int, out.length + 60 * m ≤ 100000 → ∃ R : MR, Ev (fun k => spec_MeetMask.l0 k (wrap64 (y + 1)) a b c d l a' b' c' d' l' p q r s out) R ∧ Ev (fun k => impl_maskOver_MeetMask_1.l0 k (wrap64 (y + 1)) a b c d l a' b' c' d' l' p q r s p q r s out) R ∧ R.2.2.2.2.length ≤ out.length + 60 * m) : ∀ (n : Nat) (x : Int) (out : List Int), x + n = r → out.length + n + 60 * m ≤ 100000 →
    ∃ R : MR, Ev (fun k => spec_MeetMask.l1 k y x a b c d l a' b' c' d' l' p q r s out) R ∧ Ev (fun k => impl_maskOver_MeetMask_1.l1 k y x a b c d l a' b' c' d' l' p q r s p q r s out) R ∧ R.2.2.2.2.length ≤ out.length + n + 60 * m := by
  intro n
  induction n with
  | zero =>
    intro x out hx hn
    obtain ⟨R, k1, k2, k3⟩ := H0 out (by omega)
    refine ⟨R, Ev.step (fun k => ?_) k1, Ev.step (fun k => ?_) k2, by omega⟩
    · simp only [spec_MeetMask.l1]
      rw [if_neg (by omega)]
    · simp only [impl_maskOver_MeetMask_1.l1]
      rw [if_neg (by omega)]
  | succ n ih =>
    intro x out hx hn
    obtain ⟨R, k1, k2, k3⟩ := ih (x + 1) (out ++ [Go.bits .and .i64 (bitsP a b c d l x y) (bitsP a' b' c' d' l' x y)]) (by omega) (by simp; omega)
    simp only [List.length_append, List.length_cons, List.length_nil] at k3
    refine ⟨R, ?_, Ev.step (fun k => ?_) k2, by omega⟩
    · refine Ev.step (fun k => rfl) ?_
      simp only [spec_MeetMask.l1, spec_l11Bits_v x y h1 h2, spec_l11Bits_v x y g1 g2, Option.bind_some, if_pos (show x < r by omega), w64 (x := x + 1) (by omega) (by omega)]
      refine Ev.bind (both_v _ _ (bitsP_bd' h3 x y) (bitsP_bd' g3 x y)) ?_
      simp only [if_pos (show out.length < 17592186044416 by omega)]
      exact k1
    · simp only [impl_maskOver_MeetMask_1.l1, impl_MeetMask_1.f, impl_bitsAt_v x y h1 h2, impl_bitsAt_v x y g1 g2, Option.bind_some]
      rw [if_pos (by omega), if_pos (by omega), w64 (x := x + 1) (by omega) (by omega)]
theorem meet_rows (p q r s : Int) (hr0 : -2000 ≤ r) (hr1 : r ≤ 2000) (hs0 : -2000 ≤ s) (hs1 : s ≤ 2000) (hw0 : p ≤ r) (hw : r - p ≤ 60) : ∀ (m : Nat) (y : Int) (out : List Int), y + m = s → out.length + 60 * m ≤ 100000 →
    ∃ R : MR, Ev (fun k => spec_MeetMask.l0 k y a b c d l a' b' c' d' l' p q r s out) R ∧ Ev (fun k => impl_maskOver_MeetMask_1.l0 k y a b c d l a' b' c' d' l' p q r s p q r s out) R ∧ R.2.2.2.2.length ≤ out.length + 60 * m := by
  intro m
  induction m with
  | zero =>
    intro y out hy hn
    refine ⟨(p, q, r, s, out), ev_done (fun k => ?_), ev_done (fun k => ?_), by simp⟩
    · simp only [spec_MeetMask.l0]
      rw [if_neg (by omega)]
    · simp only [impl_maskOver_MeetMask_1.l0]
      rw [if_neg (by omega)]
  | succ m ih =>
    intro y out hy hn
    have e1 : wrap64 (y + 1) = y + 1 := w64 (by omega) (by omega)
    obtain ⟨n, hn2⟩ : ∃ n : Nat, (n : Int) = r - p := ⟨(r - p).toNat, by omega⟩
    obtain ⟨R, k1, k2, k3⟩ := meet_cols h1 h2 h3 g1 g2 g3 p q r s y m hr0 hr1 (fun o ho => by rw [e1]; exact ih (y + 1) o (by omega) ho) n p out (by omega) (by omega)
    refine ⟨R, Ev.step (fun k => ?_) k1, Ev.step (fun k => ?_) k2, by omega⟩
    · simp only [spec_MeetMask.l0]
      rw [if_pos (by omega)]
    · simp only [impl_maskOver_MeetMask_1.l0]
      rw [if_pos (by omega)]
end
theorem mx_v (x y : Int) : mx x y = if x ≤ y then y else x := by
  unfold mx
  repeat' split
  all_goals omega
theorem mn_v (x y : Int) : mn x y = if x ≤ y then x else y := by
  unfold mn
  repeat' split
  all_goals omega
theorem spec_most_v (x y : Int) : spec_l05Most.f x y = some (mx x y) := by
  unfold spec_l05Most.f
  rw [mx_v]
  repeat' split
  all_goals first | rfl | (refine congrArg some ?_; omega) | (exfalso; omega)
theorem spec_least_v (x y : Int) : spec_l05Least.f x y = some (mn x y) := by
  unfold spec_l05Least.f
  rw [mn_v]
  repeat' split
  all_goals first | rfl | (refine congrArg some ?_; omega) | (exfalso; omega)
def noBoxB (p q r s : Int) : Bool := decide (p ≥ r) || decide (q ≥ s)
theorem spec_Empty_v (p q r s : Int) : spec_Empty.f p q r s = some (noBoxB p q r s) := by
  unfold spec_Empty.f noBoxB
  by_cases h : p ≥ r
  · rw [if_pos h, decide_eq_true h, Bool.true_or]
  · rw [if_neg h, decide_eq_false h, Bool.false_or]
theorem impl_Empty_v (p q r s : Int) : impl_Empty.f p q r s = some (noBoxB p q r s) := by
  unfold impl_Empty.f noBoxB
  by_cases h : p ≥ r
  · rw [if_pos h, decide_eq_true h, Bool.true_or]
  · rw [if_neg h, decide_eq_false h, Bool.false_or]
def noMask : MR := (0, 0, 0, 0, [])
theorem MeetMask_v {a b c d a' b' c' d' : Int} (l l' : List Int) (hn : l.length ≤ 1048576) (hn' : l'.length ≤ 1048576)
    (ha : -9223372036854775808 ≤ a ∧ a ≤ 9223372036854775807) (hb : -9223372036854775808 ≤ b ∧ b ≤ 9223372036854775807) (hc : -9223372036854775808 ≤ c ∧ c ≤ 9223372036854775807) (hd : -9223372036854775808 ≤ d ∧ d ≤ 9223372036854775807)
    (ha' : -9223372036854775808 ≤ a' ∧ a' ≤ 9223372036854775807) (hb' : -9223372036854775808 ≤ b' ∧ b' ≤ 9223372036854775807) (hc' : -9223372036854775808 ≤ c' ∧ c' ≤ 9223372036854775807) (hd' : -9223372036854775808 ≤ d' ∧ d' ≤ 9223372036854775807) :
    ∃ R : MR, Ev (fun k => spec_MeetMask.f k a b c d l a' b' c' d' l') R ∧ Ev (fun k => impl_MeetMask.f k a b c d l a' b' c' d' l') R ∧ R.2.2.2.2.length ≤ 3600 := by
  have s1 := spec_MaskOk_v a b c d l hn
  have s2 := spec_MaskOk_v a' b' c' d' l' hn'
  have i1 := impl_MaskOk_v l hn ha hb hc hd
  have i2 := impl_MaskOk_v l' hn' ha' hb' hc' hd'
  have sno : Ev (fun k => spec_MeetMask.j0 k true a b c d l a' b' c' d' l') noMask := ev_done (fun k => rfl)
  have z0 : noBoxB 0 0 0 0 = true := by decide
  unfold spec_MeetMask.f impl_MeetMask.f impl_MeetBox.f
  simp only [impl_Empty_v, Option.bind_some]
  by_cases he : noBoxB (mx a a') (mx b b') (mn c c') (mn d d') = true
  · simp only [if_pos he, Option.bind_some, z0, if_true]
    refine ⟨noMask, ?_, Ev.now _, by simp [noMask]⟩
    refine Ev.bind s1 ?_
    cases maskOkB a b c d l with
    | false => exact sno
    | true =>
      simp only [if_true]
      refine Ev.bind s2 ?_
      cases maskOkB a' b' c' d' l' with
      | false => exact sno
      | true =>
        refine Ev.step (fun k => rfl) ?_
        simp only [spec_MeetMask.j0, Bool.not_true, Bool.false_eq_true, if_false, spec_MeetBox.f, spec_most_v, spec_least_v, spec_Empty_v, Option.bind_some, he, if_true]
        refine ev_done (fun k => ?_)
        simp only [spec_MeetMask.l0]
        rw [if_neg (by omega)]
        rfl
  · have hne : ¬ (mx a a' ≥ mn c c') ∧ ¬ (mx b b' ≥ mn d d') := by
      simp only [noBoxB, Bool.or_eq_true, decide_eq_true_eq] at he
      omega
    simp only [if_neg he, Option.bind_some]
    cases hA : maskOkB a b c d l with
    | false =>
      rw [hA] at s1 i1
      exact ⟨noMask, Ev.bind s1 sno, Ev.bind i1 (Ev.now _), by simp [noMask]⟩
    | true =>
    rw [hA] at s1 i1
    cases hB : maskOkB a' b' c' d' l' with
    | false =>
      rw [hB] at s2 i2
      exact ⟨noMask, Ev.bind s1 (by simp only [if_true]; exact Ev.bind s2 sno), Ev.bind i1 (by simp only [if_true]; exact Ev.bind i2 (Ev.now _)), by simp [noMask]⟩
    | true =>
    rw [hB] at s2 i2
    have e1 := mx_v a a'
    have e2 := mx_v b b'
    have e3 := mn_v c c'
    have e4 := mn_v d d'
    have key : maskBoxP a b c d ∧ (l.length : Int) = (c - a) * (d - b) ∧ allBits l = true ∧ maskBoxP a' b' c' d' ∧ (l'.length : Int) = (c' - a') * (d' - b') ∧ allBits l' = true := by
      rcases maskOk_cases hA with ⟨rfl, rfl, rfl, rfl, rfl⟩ | ⟨h1, h2, h3⟩
      · exfalso
        split at e1 <;> split at e3 <;> omega
      · rcases maskOk_cases hB with ⟨rfl, rfl, rfl, rfl, rfl⟩ | ⟨g1, g2, g3⟩
        · exfalso
          split at e1 <;> split at e3 <;> omega
        · exact ⟨h1, h2, h3, g1, g2, g3⟩
    obtain ⟨h1, h2, h3, g1, g2, g3⟩ := key
    obtain ⟨p1, p2, p3, p4, p5, p6, p7, p8⟩ := id h1
    have b1 : a ≤ mx a a' ∧ b ≤ mx b b' ∧ mn c c' ≤ c ∧ mn d d' ≤ d := by
      refine ⟨?_, ?_, ?_, ?_⟩
      · rw [e1]; split <;> omega
      · rw [e2]; split <;> omega
      · rw [e3]; split <;> omega
      · rw [e4]; split <;> omega
    have hmb : spec_MeetBox.f a b c d a' b' c' d' = some (mx a a', mx b b', mn c c', mn d d') := by
      simp only [spec_MeetBox.f, spec_most_v, spec_least_v, spec_Empty_v, Option.bind_some, if_neg he]
    generalize mx a a' = p at *
    generalize mx b b' = q at *
    generalize mn c c' = r at *
    generalize mn d d' = s at *
    obtain ⟨m, hm⟩ : ∃ m : Nat, (m : Int) = s - q := ⟨(s - q).toNat, by omega⟩
    obtain ⟨R, k1, k2, k3⟩ := meet_rows h1 h2 h3 g1 g2 g3 p q r s (by omega) (by omega) (by omega) (by omega) (by omega) (by omega) m q [] (by omega) (by simp; omega)
    refine ⟨R, ?_, ?_, by simp at k3; omega⟩
    · refine Ev.bind s1 ?_
      simp only [if_true]
      refine Ev.bind s2 ?_
      refine Ev.step (fun k => rfl) ?_
      simp only [spec_MeetMask.j0, Bool.not_true, Bool.false_eq_true, if_false, hmb, Option.bind_some]
      exact k1
    · refine Ev.bind i1 ?_
      simp only [if_true]
      refine Ev.bind i2 ?_
      simp only [if_true]
      exact Ev.bind k2 (Ev.now _)

/-! marksInt -/
def marksInt : Nat → Int → List Int
  | 0, _ => []
  | n + 1, c => c :: marksInt n (c + 1)
theorem marksInt_length : ∀ (n : Nat) (c : Int), (marksInt n c).length = n
  | 0, _ => rfl
  | n + 1, c => by rw [marksInt, List.length_cons, marksInt_length n]

/-! laws_markIntS -/
theorem laws_markIntS_l : ∀ (d i : Nat) (x0 : List Int) (c : Int), x0.length ≤ 4194304 → i + d = x0.length → 0 ≤ c → c + 1 * (d : Int) ≤ 1152921504606846976 →
    Ev (fun k => laws_markIntS.l0 k x0 c (i : Int)) (c + 1 * (d : Int), x0.take i ++ marksInt d c) := by
  intro d
  induction d with
  | zero =>
    intro i x0 c hn hi h0 h1
    refine ev_done (fun k => ?_)
    simp only [laws_markIntS.l0]
    rw [if_neg (by omega), List.take_of_length_le (by omega)]
    simp [marksInt]
  | succ d ih =>
    intro i x0 c hn hi h0 h1
    have hi2 : i < x0.length := by omega
    have e1 : wrap64 (c + 1) = c + 1 := by rw [w64 (by omega) (by omega)] <;> omega
    refine Ev.step (f := fun k => laws_markIntS.l0 k (x0.set i c) (c + 1) ((i + 1 : Nat) : Int)) (fun k => ?_) ?_
    · simp only [laws_markIntS.l0, Option.bind_some, Int.toNat_natCast, List.set_set, e1, step64 hi2 (show x0.length ≤ 4611686018427387904 by omega)]
      rw [if_pos (by omega), if_pos (by omega)]
    · have h := ih (i + 1) (x0.set i c) (c + 1) (by simpa using hn) (by simp; omega) (by omega) (by omega)
      rw [take_set_succ _ _ _ (by omega), List.append_assoc] at h
      have e : c + 1 * ((d + 1 : Nat) : Int) = c + 1 + 1 * (d : Int) := by omega
      rw [e]
      exact h
theorem laws_markIntS_v (x0 : List Int) (c : Int) (hn : x0.length ≤ 4194304) (h0 : 0 ≤ c) (h1 : c ≤ 1125899906842624) : Ev (fun k => laws_markIntS.f k x0 c) (c + 1 * (x0.length : Int), marksInt x0.length c) := by
  have h := laws_markIntS_l x0.length 0 x0 c hn (by omega) h0 (by omega)
  exact h

/-! laws_heldIntS -/
theorem laws_heldIntS_l : ∀ (d i : Nat) (x0 : List Int) (c : Int), x0.length ≤ 4194304 → i + d = x0.length → 0 ≤ c → c + 1 * (d : Int) ≤ 1152921504606846976 → x0.drop i = marksInt d c →
    Ev (fun k => laws_heldIntS.l0 k x0 c (i : Int)) (c + 1 * (d : Int)) := by
  intro d
  induction d with
  | zero =>
    intro i x0 c hn hi h0 h1 hd
    refine ev_done (fun k => ?_)
    simp only [laws_heldIntS.l0]
    rw [if_neg (by omega)]
    simp
  | succ d ih =>
    intro i x0 c hn hi h0 h1 hd
    have hi2 : i < x0.length := by omega
    rw [List.drop_eq_getElem_cons hi2, marksInt] at hd
    obtain ⟨hx, hd⟩ := List.cons.inj hd
    have e1 : wrap64 (c + 1) = c + 1 := by rw [w64 (by omega) (by omega)] <;> omega
    have e : c + 1 * ((d + 1 : Nat) : Int) = c + 1 + 1 * (d : Int) := by omega
    rw [e]
    refine Ev.step (fun k => ?_) (ih (i + 1) x0 (c + 1) hn (by omega) (by omega) (by omega) hd)
    simp only [laws_heldIntS.l0, rd_int _ _ hi2, hx, e1, if_true, step64 hi2 (show x0.length ≤ 4611686018427387904 by omega)]
    rw [if_pos (by omega), if_pos (by omega)]
theorem laws_heldIntS_v (n : Nat) (c : Int) (hn : n ≤ 4194304) (h0 : 0 ≤ c) (h1 : c ≤ 1125899906842624) : Ev (fun k => laws_heldIntS.f k (marksInt n c) c) (c + 1 * (n : Int)) :=
  laws_heldIntS_l n 0 (marksInt n c) c (by rw [marksInt_length]; exact hn) (by rw [marksInt_length]; omega) h0 (by omega) rfl

/-! law_FnExactMeetMask -/
theorem eqMask_w (a b c d : Int) (l : List Int) (hn : l.length ≤ 1048576) : Ev (fun k => laws_eqMask.f k a b c d l a b c d l) true := laws_eqMask_v a b c d l hn
theorem markMask_w (a b c d : Int) (l : List Int) (z : Int) (hn : l.length ≤ 1048576) (h0 : 0 ≤ z) (h1 : z ≤ 1048577) : Ev (fun k => laws_markMask.f k a b c d l z) (z + 1 * (l.length : Int), marksInt l.length z) := by
  unfold laws_markMask.f
  exact Ev.bind (laws_markIntS_v l z (by omega) (by omega) (by omega)) (Ev.now _)
theorem heldMask_w (a b c d : Int) (n : Nat) (hn : n ≤ 1048576) : Ev (fun k => laws_heldMask.f k a b c d (marksInt n 1) 1) (1 + 1 * (n : Int)) := by
  unfold laws_heldMask.f
  refine Ev.bind (laws_heldIntS_v n 1 (by omega) (by omega) (by omega)) ?_
  refine Ev.congr (fun k => ?_) (Ev.now _)
  rw [if_neg (by omega)]
theorem pure : PureS := by
  intro a b c d l a' b' c' d' l' wa wb wc wd hl wa' wb' wc' wd' hl'
  have hz := laws_szMask_v a b c d l 1048576 (by omega) (by omega) hl.1
  by_cases h : (l.length : Int) ≤ 1048576
  · rw [if_pos h] at hz
    have hz' := laws_szMask_v a' b' c' d' l' (1048576 - (l.length : Int)) (by omega) (by omega) hl'.1
    by_cases h' : (l'.length : Int) ≤ 1048576 - (l.length : Int)
    · rw [if_pos h'] at hz'
      have hn : l.length ≤ 1048576 := by omega
      have hn' : l'.length ≤ 1048576 := by omega
      have ht := laws_toMask_v a b c d l hn
      have ht' := laws_toMask_v a' b' c' d' l' hn'
      obtain ⟨⟨r0, r1, r2, r3, R⟩, k1, k2, k3⟩ := MeetMask_v l l' hn hn' (wf64 wa) (wf64 wb) (wf64 wc) (wf64 wd) (wf64 wa') (wf64 wb') (wf64 wc') (wf64 wd')
      replace k3 : R.length ≤ 3600 := k3
      have he := eqMask_w r0 r1 r2 r3 R (by omega)
      have hM := markMask_w r0 r1 r2 r3 R 1 (by omega) (by omega) (by omega)
      have hH := heldMask_w r0 r1 r2 r3 R.length (by omega)
      refine Ev.rounds ?_
      simp only [laws_FnExactMeetMask.f, hz, hz', Option.bind_some]
      simp only [if_neg (show ¬ (1048576 - (l.length : Int) < 0) by omega), hz', Option.bind_some, if_neg (show ¬ (1048576 - (l.length : Int) - (l'.length : Int) < 0) by omega)]
      refine Ev.bind ht (Ev.bind ht' (Ev.bind k1 (Ev.bind ht (Ev.bind ht' (Ev.bind k2 (Ev.bind he ?_))))))
      simp only [if_true]
      refine Ev.bind ht (Ev.bind (eqMask_w a b c d l hn) ?_)
      simp only [if_true]
      refine Ev.bind ht' (Ev.bind (eqMask_w a' b' c' d' l' hn') ?_)
      simp only [if_true]
      refine Ev.bind (markMask_w a b c d l 1 hn (by omega) (by omega)) ?_
      refine Ev.bind (markMask_w a' b' c' d' l' (1 + 1 * (l.length : Int)) hn' (by omega) (by omega)) ?_
      simp only [if_neg (show ¬ (1 + 1 * (l.length : Int) + 1 * (l'.length : Int) < 0) by omega)]
      refine Ev.bind he ?_
      simp only [Bool.not_true]
      refine Ev.step (fun k => rfl) ?_
      simp only [laws_FnExactMeetMask.j0, Bool.false_eq_true, if_false]
      refine Ev.bind hM (Ev.bind hH ?_)
      simp only [if_neg (show ¬ (1 + 1 * (R.length : Int) < 0) by omega), if_true]
      refine Ev.bind ht (Ev.bind ht' (Ev.bind k2 (Ev.bind he ?_)))
      simp only [if_true]
      refine Ev.bind hH ?_
      simp only [if_neg (show ¬ (1 + 1 * (R.length : Int) < 0) by omega), if_true]
      exact Ev.now true
    · rw [if_neg h'] at hz'
      refine Ev.rounds ?_
      simp only [laws_FnExactMeetMask.f, hz, Option.bind_some]
      simp only [if_neg (show ¬ (1048576 - (l.length : Int) < 0) by omega), hz', Option.bind_some]
      exact Ev.now true
  · rw [if_neg h] at hz
    exact ⟨0, by simp [laws_FnExactMeetMask.f, hz]⟩

end Go.Proofs.Ytndeonfbolookaa.QFnExactMeetMask
