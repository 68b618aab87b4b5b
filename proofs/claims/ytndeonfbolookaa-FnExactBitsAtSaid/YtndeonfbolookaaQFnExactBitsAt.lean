/- The pure statement of the law FnExactBitsAt, for every input: what the printed functions compute makes the law answer true. No conditions beyond what the row reads. -/
import Derived.Test.YtndeonfbolookaaTFnExactBitsAt
namespace Go.Proofs.Ytndeonfbolookaa.QFnExactBitsAt
open Go.RowKit Go.Proofs.Ytndeonfbolookaa.MFnExactBitsAt Go.Proofs.Ytndeonfbolookaa.TFnExactBitsAt Go.Proofs.YtndeonfbolookaaW.PrintWords Go.Proofs.YtndeonfbolookaaW.PrintLast
set_option linter.unusedVariables false
set_option linter.unusedSimpArgs false

/-! base -/
theorem w64 {x : Int} (h1 : -9223372036854775808 ≤ x) (h2 : x ≤ 9223372036854775807) : wrap64 x = x := by
  unfold wrap64
  omega

theorem wf64 {x : Int} (h : (Lit.int .i64 x).wf = true) : -9223372036854775808 ≤ x ∧ x ≤ 9223372036854775807 := by
  have h2 : (decide (IntKind.i64.min ≤ x) && decide (x ≤ IntKind.i64.max)) = true := h
  rw [Bool.and_eq_true, decide_eq_true_eq, decide_eq_true_eq] at h2
  exact ⟨h2.1, h2.2⟩

theorem take_set_succ {α : Type} (xs : List α) (i : Nat) (v : α) (h : i < xs.length) : (xs.set i v).take (i + 1) = xs.take i ++ [v] := by
  rw [List.take_succ_eq_append_getElem (by simpa using h), List.take_set_of_le (Nat.le_refl i), List.getElem_set_self]

theorem step64 {i n : Nat} (h : i < n) (hn : n ≤ 4611686018427387904) : wrap64 ((i : Int) + 1) = ((i + 1 : Nat) : Int) := by
  rw [w64 (by omega) (by omega)]
  omega

theorem ev_done {α : Type} {g : Nat → Option α} {r : α} (h : ∀ k, g (k + 1) = some r) : Ev g r := Ev.step (f := fun _ => some r) h (Ev.now r)

theorem ev_const {α : Type} {o : Option α} {r : α} (h : o = some r) : Ev (fun _ => o) r := by
  subst h
  exact Ev.now r

/-! spec_l01In -/
theorem spec_l01In_v (a b c : Int) : spec_l01In.f a b c = some (decide (b ≤ a ∧ a ≤ c)) := by
  unfold spec_l01In.f
  by_cases h : a ≥ b
  · rw [if_pos h]
    simp [h]
  · rw [if_neg h]
    simp
    omega

/-! impl_inRange -/
theorem impl_inRange_v (a b c : Int) : impl_inRange.f a b c = some (decide (b ≤ a ∧ a ≤ c)) := by
  unfold impl_inRange.f
  by_cases h : a ≥ b
  · rw [if_pos h]
    simp [h]
  · rw [if_neg h]
    simp
    omega

/-! rd_int -/
theorem rd_int (xs : List Int) (i : Nat) (h : i < xs.length) : rd xs (i : Int) = xs[i] := by
  unfold rd
  simp [h]

/-! MaskOk -/
def maskBoxP (a b c d : Int) : Prop := a < c ∧ b < d ∧ -2000 ≤ a ∧ -2000 ≤ b ∧ c ≤ 2000 ∧ d ≤ 2000 ∧ c - a ≤ 60 ∧ d - b ≤ 60
instance (a b c d : Int) : Decidable (maskBoxP a b c d) := by unfold maskBoxP; infer_instance
def allBits (l : List Int) : Bool := l.all (fun x => decide (0 ≤ x ∧ x ≤ 15))
def maskOkB (a b c d : Int) (l : List Int) : Bool := if a = 0 ∧ b = 0 ∧ c = 0 ∧ d = 0 then decide (l.length = 0) else (decide (maskBoxP a b c d) && decide ((l.length : Int) = (c - a) * (d - b)) && allBits l)
theorem area_bd {a b c d : Int} (h : maskBoxP a b c d) : 1 ≤ (c - a) * (d - b) ∧ (c - a) * (d - b) ≤ 3600 := by
  obtain ⟨h1, h2, _, _, _, _, h3, h4⟩ := h
  have e1 : 1 * 1 ≤ (c - a) * (d - b) := Int.mul_le_mul (by omega) (by omega) (by omega) (by omega)
  have e2 : (c - a) * (d - b) ≤ 60 * 60 := Int.mul_le_mul (by omega) (by omega) (by omega) (by omega)
  omega
theorem area_w {a b c d : Int} (h : maskBoxP a b c d) : wrap64 ((wrap64 (c - a)) * (wrap64 (d - b))) = (c - a) * (d - b) := by
  have q := area_bd h
  obtain ⟨h1, h2, _, _, _, _, h3, h4⟩ := h
  rw [w64 (x := c - a) (by omega) (by omega), w64 (x := d - b) (by omega) (by omega), w64 (by omega) (by omega)]
theorem spec_l11Box_v (a b c d : Int) : spec_l11Box.f a b c d = some (decide (maskBoxP a b c d)) := by
  unfold spec_l11Box.f spec_Empty.f maskBoxP
  simp only [spec_l01In_v]
  by_cases h1 : a ≥ c
  · rw [if_pos h1]
    simp only [Option.bind_some, if_true]
    refine congrArg some (Eq.symm (decide_eq_false ?_))
    omega
  · rw [if_neg h1]
    simp only [Option.bind_some, decide_eq_true_eq]
    by_cases h2 : b ≥ d
    · rw [if_pos h2]
      refine congrArg some (Eq.symm (decide_eq_false ?_))
      omega
    · rw [if_neg h2]
      by_cases h3 : (-2000 ≤ a ∧ a ≤ 2000) ∧ (-2000 ≤ b ∧ b ≤ 2000) ∧ (-2000 ≤ c ∧ c ≤ 2000) ∧ (-2000 ≤ d ∧ d ≤ 2000)
      · rw [if_pos h3.1, if_pos h3.2.1, if_pos h3.2.2.1, if_pos h3.2.2.2, w64 (by omega) (by omega), w64 (by omega) (by omega)]
        split
        · refine congrArg some (decide_eq_decide.mpr ?_)
          omega
        · refine congrArg some (Eq.symm (decide_eq_false ?_))
          omega
      · repeat' split
        all_goals first | (exfalso; omega) | (refine congrArg some (Eq.symm (decide_eq_false ?_)); omega)
theorem impl_isMaskBox_v {a b c d : Int} (ha : -9223372036854775808 ≤ a ∧ a ≤ 9223372036854775807) (hb : -9223372036854775808 ≤ b ∧ b ≤ 9223372036854775807) (hc : -9223372036854775808 ≤ c ∧ c ≤ 9223372036854775807) (hd : -9223372036854775808 ≤ d ∧ d ≤ 9223372036854775807) :
    impl_isMaskBox.f a b c d = some (decide (maskBoxP a b c d)) := by
  unfold impl_isMaskBox.f impl_Empty.f maskBoxP
  by_cases h1 : a ≥ c
  · rw [if_pos h1]
    simp only [Option.bind_some, if_true]
    refine congrArg some (Eq.symm (decide_eq_false ?_))
    omega
  · rw [if_neg h1]
    simp only [Option.bind_some, decide_eq_true_eq]
    by_cases h2 : b ≥ d
    · rw [if_pos h2]
      refine congrArg some (Eq.symm (decide_eq_false ?_))
      omega
    · rw [if_neg h2]
      by_cases h3 : (-2000 ≤ a ∧ a ≤ 2000) ∧ (-2000 ≤ b ∧ b ≤ 2000) ∧ (-2000 ≤ c ∧ c ≤ 2000) ∧ (-2000 ≤ d ∧ d ≤ 2000)
      · rw [if_neg (by omega), if_neg (by omega), if_neg (by omega), if_neg (by omega), w64 (by omega) (by omega), w64 (by omega) (by omega)]
        split
        · refine congrArg some (decide_eq_decide.mpr ?_)
          omega
        · refine congrArg some (Eq.symm (decide_eq_false ?_))
          omega
      · repeat' split
        all_goals first | (exfalso; omega) | (refine congrArg some (Eq.symm (decide_eq_false ?_)); omega)
theorem spec_MaskOk_l (a b c d : Int) (l : List Int) (hn : l.length ≤ 1048576) : ∀ (m i : Nat), i + m = l.length → Ev (fun k => spec_MaskOk.l0 k (i : Int) a b c d l) (allBits (l.drop i)) := by
  intro m
  induction m with
  | zero =>
    intro i hi
    refine ev_done (fun k => ?_)
    simp only [spec_MaskOk.l0]
    rw [if_neg (by omega), List.drop_of_length_le (by omega)]
    rfl
  | succ m ih =>
    intro i hi
    have hi2 : i < l.length := by omega
    rw [List.drop_eq_getElem_cons hi2, allBits, List.all_cons]
    by_cases hx : 0 ≤ l[i] ∧ l[i] ≤ 15
    · rw [decide_eq_true hx, Bool.true_and]
      refine Ev.step (fun k => ?_) (ih (i + 1) (by omega))
      simp only [spec_MaskOk.l0, spec_l01In_v, Option.bind_some]
      rw [if_pos (by omega), if_pos (by omega), rd_int _ _ hi2, step64 hi2 (by omega), if_pos (by simpa using hx)]
    · rw [decide_eq_false hx, Bool.false_and]
      refine ev_done (fun k => ?_)
      simp only [spec_MaskOk.l0, spec_l01In_v, Option.bind_some]
      rw [if_pos (by omega), if_pos (by omega), rd_int _ _ hi2, if_neg (by simpa using hx)]
theorem impl_MaskOk_l (l : List Int) (hn : l.length ≤ 1048576) : ∀ (m i : Nat), i + m = l.length → Ev (fun k => impl_MaskOk.l0 k l (l.length : Int) (i : Int)) (allBits (l.drop i)) := by
  intro m
  induction m with
  | zero =>
    intro i hi
    refine ev_done (fun k => ?_)
    simp only [impl_MaskOk.l0]
    rw [if_neg (by omega), List.drop_of_length_le (by omega)]
    rfl
  | succ m ih =>
    intro i hi
    have hi2 : i < l.length := by omega
    rw [List.drop_eq_getElem_cons hi2, allBits, List.all_cons]
    by_cases hx : 0 ≤ l[i] ∧ l[i] ≤ 15
    · rw [decide_eq_true hx, Bool.true_and]
      refine Ev.step (fun k => ?_) (ih (i + 1) (by omega))
      simp only [impl_MaskOk.l0, impl_inRange_v, Option.bind_some]
      rw [if_pos (by omega), if_pos (by omega), if_pos (by omega), rd_int _ _ hi2, step64 hi2 (by omega), if_pos (by simpa using hx)]
    · rw [decide_eq_false hx, Bool.false_and]
      refine ev_done (fun k => ?_)
      simp only [impl_MaskOk.l0, impl_inRange_v, Option.bind_some]
      rw [if_pos (by omega), if_pos (by omega), if_pos (by omega), rd_int _ _ hi2, if_neg (by simpa using hx)]
theorem spec_MaskOk_v (a b c d : Int) (l : List Int) (hn : l.length ≤ 1048576) : Ev (fun k => spec_MaskOk.f k a b c d l) (maskOkB a b c d l) := by
  unfold spec_MaskOk.f maskOkB
  by_cases h0 : (l.length : Int) = 0
  · simp only [if_pos h0]
    by_cases hz : a = 0 ∧ b = 0 ∧ c = 0 ∧ d = 0
    · rw [if_pos hz]
      obtain ⟨rfl, rfl, rfl, rfl⟩ := hz
      refine ev_const (congrArg some ?_)
      simp
      exact List.length_eq_zero_iff.mp (by omega)
    · rw [if_neg hz]
      refine ev_const (congrArg some ?_)
      have e : (decide (maskBoxP a b c d) && decide ((l.length : Int) = (c - a) * (d - b))) = false := by
        by_cases hb : maskBoxP a b c d
        · have := area_bd hb
          rw [decide_eq_false (p := (l.length : Int) = (c - a) * (d - b)) (by omega)]
          simp
        · rw [decide_eq_false hb]
          rfl
      rw [e]
      simp
      omega
  · simp only [if_neg h0, spec_l11Box_v, Option.bind_some]
    by_cases hb : maskBoxP a b c d
    · have hz : ¬ (a = 0 ∧ b = 0 ∧ c = 0 ∧ d = 0) := by have := hb.1; omega
      rw [if_neg hz, decide_eq_true hb]
      simp only [if_true, area_w hb]
      by_cases hl : (l.length : Int) = (c - a) * (d - b)
      · rw [decide_eq_true hl]
        refine Ev.step (fun k => ?_) (spec_MaskOk_l a b c d l hn l.length 0 (by omega))
        simp only [spec_MaskOk.j0]
        rw [if_neg (by simp [hl])]
        rfl
      · rw [decide_eq_false hl]
        refine ev_done (fun k => ?_)
        simp only [spec_MaskOk.j0]
        rw [if_pos (by simpa using hl)]
        rfl
    · rw [decide_eq_false hb]
      have e : (if a = 0 ∧ b = 0 ∧ c = 0 ∧ d = 0 then decide (l.length = 0) else (false && decide ((l.length : Int) = (c - a) * (d - b)) && allBits l)) = false := by
        split
        · exact decide_eq_false (by omega)
        · rfl
      rw [e]
      simp only [Bool.false_eq_true, if_false]
      refine ev_done (fun k => ?_)
      simp only [spec_MaskOk.j0, if_true]
theorem impl_MaskOk_v {a b c d : Int} (l : List Int) (hn : l.length ≤ 1048576) (ha : -9223372036854775808 ≤ a ∧ a ≤ 9223372036854775807) (hb : -9223372036854775808 ≤ b ∧ b ≤ 9223372036854775807) (hc : -9223372036854775808 ≤ c ∧ c ≤ 9223372036854775807) (hd : -9223372036854775808 ≤ d ∧ d ≤ 9223372036854775807) :
    Ev (fun k => impl_MaskOk.f k a b c d l) (maskOkB a b c d l) := by
  unfold impl_MaskOk.f maskOkB
  by_cases hz : a = 0 ∧ b = 0 ∧ c = 0 ∧ d = 0
  · rw [if_pos hz]
    obtain ⟨rfl, rfl, rfl, rfl⟩ := hz
    refine ev_const ?_
    refine congrArg some ?_
    rw [Bool.eq_iff_iff]
    simp
  · rw [if_neg hz]
    have hz2 : ¬ (a == 0 && (b == 0 && (c == 0 && (d == 0)))) = true := by
      simp
      omega
    simp only [if_neg hz2, impl_isMaskBox_v ha hb hc hd, Option.bind_some]
    by_cases hb : maskBoxP a b c d
    · rw [decide_eq_true hb]
      simp only [if_true, area_w hb]
      by_cases hl : (l.length : Int) = (c - a) * (d - b)
      · rw [decide_eq_true hl]
        refine Ev.step (fun k => ?_) (impl_MaskOk_l l hn l.length 0 (by omega))
        simp only [impl_MaskOk.j0]
        rw [if_neg (by simp [hl])]
        rfl
      · rw [decide_eq_false hl]
        refine ev_done (fun k => ?_)
        simp only [impl_MaskOk.j0]
        rw [if_pos (by simpa using hl)]
        rfl
    · rw [decide_eq_false hb]
      simp only [Bool.false_eq_true, if_false]
      refine ev_done (fun k => ?_)
      simp only [impl_MaskOk.j0, if_true]
      rfl

/-! BitsAt -/
def bitsP (a b c d : Int) (l : List Int) (x y : Int) : Int := if a ≤ x ∧ x < c ∧ b ≤ y ∧ y < d then rd l ((y - b) * (c - a) + x - a) else 0
theorem place_bd {a b c d x y : Int} (hb : maskBoxP a b c d) (h : a ≤ x ∧ x < c ∧ b ≤ y ∧ y < d) :
    wrap64 ((wrap64 ((wrap64 ((wrap64 (y - b)) * (wrap64 (c - a)))) + x)) - a) = (y - b) * (c - a) + x - a ∧ 0 ≤ (y - b) * (c - a) + x - a ∧ (y - b) * (c - a) + x - a < (c - a) * (d - b) := by
  have q := area_bd hb
  obtain ⟨h1, h2, h3, h4, h5, h6, h7, h8⟩ := hb
  obtain ⟨g1, g2, g3, g4⟩ := h
  have m0 : 0 ≤ (y - b) * (c - a) := Int.mul_nonneg (by omega) (by omega)
  have m1 : (y - b) * (c - a) ≤ (d - b - 1) * (c - a) := Int.mul_le_mul_of_nonneg_right (by omega) (by omega)
  have m2 : (d - b - 1) * (c - a) = (c - a) * (d - b) - (c - a) := by rw [Int.sub_mul, Int.mul_comm (d - b) (c - a), Int.one_mul]
  refine ⟨?_, by omega, by omega⟩
  rw [w64 (x := y - b) (by omega) (by omega), w64 (x := c - a) (by omega) (by omega), w64 (x := (y - b) * (c - a)) (by omega) (by omega), w64 (x := (y - b) * (c - a) + x) (by omega) (by omega), w64 (by omega) (by omega)]
theorem spec_l11Bits_v {a b c d : Int} {l : List Int} (x y : Int) (hb : maskBoxP a b c d) (hl : (l.length : Int) = (c - a) * (d - b)) : spec_l11Bits.f a b c d l x y = some (bitsP a b c d l x y) := by
  unfold spec_l11Bits.f spec_InBox.f bitsP
  by_cases h : a ≤ x ∧ x < c ∧ b ≤ y ∧ y < d
  · obtain ⟨e1, e2, e3⟩ := place_bd hb h
    rw [if_pos h.1, if_pos h.2.1, if_pos h.2.2.1, decide_eq_true h.2.2.2]
    simp only [Option.bind_some, if_true, e1]
    rw [if_pos e2, if_pos (by omega), if_pos h]
  · rw [if_neg h]
    repeat' split
    all_goals simp
    all_goals omega
theorem impl_bitsAt_v {a b c d : Int} {l : List Int} (x y : Int) (hb : maskBoxP a b c d) (hl : (l.length : Int) = (c - a) * (d - b)) : impl_Mask_bitsAt.f a b c d l x y = some (bitsP a b c d l x y) := by
  unfold impl_Mask_bitsAt.f impl_InBox.f bitsP
  by_cases h : a ≤ x ∧ x < c ∧ b ≤ y ∧ y < d
  · obtain ⟨e1, e2, e3⟩ := place_bd hb h
    rw [if_pos (show x ≥ a from h.1), if_pos h.2.1, if_pos (show y ≥ b from h.2.2.1), decide_eq_true h.2.2.2]
    simp only [Option.bind_some, if_true, e1]
    rw [if_pos e2, if_pos (by omega), if_pos h]
  · rw [if_neg h]
    repeat' split
    all_goals simp
    all_goals omega
/-- A mask that is right: none at all, or one over a box. -/
theorem maskOk_cases {a b c d : Int} {l : List Int} (h : maskOkB a b c d l = true) : (a = 0 ∧ b = 0 ∧ c = 0 ∧ d = 0 ∧ l = []) ∨ (maskBoxP a b c d ∧ (l.length : Int) = (c - a) * (d - b) ∧ allBits l = true) := by
  unfold maskOkB at h
  split at h
  · rename_i hz
    exact .inl ⟨hz.1, hz.2.1, hz.2.2.1, hz.2.2.2, List.length_eq_zero_iff.mp (of_decide_eq_true h)⟩
  · simp only [Bool.and_eq_true, decide_eq_true_eq] at h
    exact .inr ⟨h.1.1, h.1.2, h.2⟩
theorem bits_none (x y : Int) : spec_l11Bits.f 0 0 0 0 [] x y = some 0 ∧ impl_Mask_bitsAt.f 0 0 0 0 [] x y = some 0 := by
  constructor
  · unfold spec_l11Bits.f spec_InBox.f
    repeat' split
    all_goals simp
    all_goals omega
  · unfold impl_Mask_bitsAt.f impl_InBox.f
    repeat' split
    all_goals simp
    all_goals omega
theorem bits_ok {a b c d : Int} {l : List Int} (h : maskOkB a b c d l = true) (x y : Int) : ∃ r, spec_l11Bits.f a b c d l x y = some r ∧ impl_Mask_bitsAt.f a b c d l x y = some r := by
  rcases maskOk_cases h with ⟨rfl, rfl, rfl, rfl, rfl⟩ | ⟨h1, h2, h3⟩
  · exact ⟨0, bits_none x y⟩
  · exact ⟨_, spec_l11Bits_v x y h1 h2, impl_bitsAt_v x y h1 h2⟩

/-! laws_szIntS -/
theorem laws_szIntS_v (l : List Int) (a : Int) (h0 : 0 ≤ a) (h1 : a ≤ 1048576) (hl : l.length ≤ maxLen) : laws_szIntS.f l a = some (if (l.length : Int) ≤ a then a - (l.length : Int) else -1) := by
  unfold maxLen at hl
  have hw : wrap64 (a - (l.length : Int)) = a - (l.length : Int) := w64 (by omega) (by omega)
  unfold laws_szIntS.f
  rw [hw]
  by_cases h : (l.length : Int) ≤ a
  · rw [if_neg (by omega), if_pos h]
  · rw [if_pos (by omega), if_neg h]

/-! laws_toIntS -/
def convInt (x : Int) : Int := x
theorem laws_toIntS_l (x0 : List Int) (hn : x0.length ≤ 1048576) : ∀ (d i : Nat) (x3 : List Int), x3.length = x0.length → i + d = x0.length →
    Ev (fun k => laws_toIntS.l0 k x0 x3 (i : Int)) (x3.take i ++ (x0.drop i).map convInt) := by
  intro d
  induction d with
  | zero =>
    intro i x3 hl hi
    refine ev_done (fun k => ?_)
    simp only [laws_toIntS.l0]
    rw [if_neg (by omega), List.take_of_length_le (by omega), List.drop_of_length_le (by omega)]
    simp
  | succ d ih =>
    intro i x3 hl hi
    have hi2 : i < x0.length := by omega
    refine Ev.step (f := fun k => laws_toIntS.l0 k x0 (x3.set i (convInt x0[i])) ((i + 1 : Nat) : Int)) (fun k => ?_) ?_
    · simp only [laws_toIntS.l0]
      rw [if_pos (by omega), if_pos (by omega), step64 hi2 (by omega), rd_int _ _ hi2]
      rw [if_pos (by omega)]
      rfl
    · have h := ih (i + 1) (x3.set i (convInt x0[i])) (by simpa using hl) (by omega)
      rw [take_set_succ _ _ _ (by omega)] at h
      rw [List.drop_eq_getElem_cons hi2]
      rw [List.append_assoc] at h
      exact h
theorem laws_toIntS_v (x0 : List Int) (hn : x0.length ≤ 1048576) : Ev (fun k => laws_toIntS.f k x0) (x0.map convInt) := by
  have h := laws_toIntS_l x0 hn x0.length 0 (List.replicate x0.length 0) (by simp) (by omega)
  refine Ev.congr (fun k => ?_) (by simpa using h)
  unfold laws_toIntS.f
  rw [if_pos (by omega), if_pos (by omega)]
  simp
theorem laws_toIntS_w (x0 : List Int) (hn : x0.length ≤ 1048576) : Ev (fun k => laws_toIntS.f k x0) x0 := by
  have h := laws_toIntS_v x0 hn
  rw [show x0.map convInt = x0 from (List.map_congr_left (fun _ _ => rfl)).trans (List.map_id x0)] at h
  exact h

/-! laws_eqIntS -/
theorem laws_eqIntS_l (x0 : List Int) (hn : x0.length ≤ 1048576) : ∀ (d i : Nat), i + d = x0.length → Ev (fun k => laws_eqIntS.l0 k x0 x0 (i : Int)) true := by
  intro d
  induction d with
  | zero =>
    intro i hi
    refine ev_done (fun k => ?_)
    simp only [laws_eqIntS.l0]
    rw [if_neg (by omega)]
  | succ d ih =>
    intro i hi
    have hi2 : i < x0.length := by omega
    refine Ev.step (fun k => ?_) (ih (i + 1) (by omega))
    simp only [laws_eqIntS.l0]
    rw [if_pos (by omega), if_pos (by omega), if_pos (by omega), step64 hi2 (by omega)]
    simp
theorem laws_eqIntS_v (x0 : List Int) (hn : x0.length ≤ 1048576) : Ev (fun k => laws_eqIntS.f k x0 x0) true := by
  refine Ev.congr (fun k => ?_) (laws_eqIntS_l x0 hn x0.length 0 (by omega))
  unfold laws_eqIntS.f
  rw [if_pos rfl]
  rfl

/-! Masks_lib -/
theorem laws_szMask_v (a b c d : Int) (l : List Int) (n : Int) (h0 : 0 ≤ n) (h1 : n ≤ 1048576) (hl : l.length ≤ maxLen) : laws_szMask.f a b c d l n = some (if (l.length : Int) ≤ n then n - (l.length : Int) else -1) := by
  unfold laws_szMask.f
  rw [laws_szIntS_v l n h0 h1 hl, Option.bind_some]
  by_cases h : (l.length : Int) ≤ n
  · rw [if_pos h, if_neg (by omega)]
  · rw [if_neg h, if_pos (by omega)]
theorem laws_toMask_v (a b c d : Int) (l : List Int) (hn : l.length ≤ 1048576) : Ev (fun k => laws_toMask.f k a b c d l) (a, b, c, d, l) := by
  unfold laws_toMask.f
  simp only [laws_toBox.f, Option.bind_some]
  exact Ev.bind (laws_toIntS_w l hn) (Ev.now _)
theorem laws_eqMask_v (a b c d : Int) (l : List Int) (hn : l.length ≤ 1048576) : Ev (fun k => laws_eqMask.f k a b c d l a b c d l) true := by
  unfold laws_eqMask.f
  simp only [laws_eqBox.f, if_true, Option.bind_some]
  refine Ev.bind (laws_eqIntS_v l hn) ?_
  simp only [if_true]
  exact Ev.now true

/-! law_FnExactBitsAt -/
theorem BitsAt_v {a b c d : Int} (l : List Int) (x y : Int) (hn : l.length ≤ 1048576) (ha : -9223372036854775808 ≤ a ∧ a ≤ 9223372036854775807) (hb : -9223372036854775808 ≤ b ∧ b ≤ 9223372036854775807) (hc : -9223372036854775808 ≤ c ∧ c ≤ 9223372036854775807) (hd : -9223372036854775808 ≤ d ∧ d ≤ 9223372036854775807) :
    ∃ r, Ev (fun k => spec_BitsAt.f k a b c d l x y) r ∧ Ev (fun k => impl_BitsAt.f k a b c d l x y) r := by
  have hs := spec_MaskOk_v a b c d l hn
  have hi := impl_MaskOk_v l hn ha hb hc hd
  unfold spec_BitsAt.f impl_BitsAt.f
  cases hm : maskOkB a b c d l with
  | true =>
    rw [hm] at hs hi
    obtain ⟨r, h1, h2⟩ := bits_ok hm x y
    refine ⟨r, Ev.bind hs ?_, Ev.bind hi ?_⟩
    · simp only [if_true, h1, Option.bind_some]
      exact Ev.now _
    · simp only [if_true, h2, Option.bind_some]
      exact Ev.now _
  | false =>
    rw [hm] at hs hi
    refine ⟨0, Ev.bind hs ?_, Ev.bind hi ?_⟩
    · simp only [Bool.false_eq_true, if_false]
      exact Ev.now _
    · simp only [Bool.false_eq_true, if_false]
      exact Ev.now _
theorem pure : PureS := by
  intro a b c d l x y wa wb wc wd hl _ _
  have hz := laws_szMask_v a b c d l 1048576 (by omega) (by omega) hl.1
  by_cases h : (l.length : Int) ≤ 1048576
  · rw [if_pos h] at hz
    have hn : l.length ≤ 1048576 := by omega
    have ht := laws_toMask_v a b c d l hn
    obtain ⟨r, h1, h2⟩ := BitsAt_v l x y hn (wf64 wa) (wf64 wb) (wf64 wc) (wf64 wd)
    refine Ev.rounds ?_
    simp only [laws_FnExactBitsAt.f, hz, Option.bind_some]
    simp only [if_neg (show ¬ (1048576 - (l.length : Int) < 0) by omega)]
    refine Ev.bind ht (Ev.bind h1 (Ev.bind ht (Ev.bind h2 ?_)))
    simp only [if_true]
    refine Ev.bind ht (Ev.bind (laws_eqMask_v a b c d l hn) ?_)
    simp only [if_true]
    exact Ev.now true
  · rw [if_neg h] at hz
    exact ⟨0, by simp [laws_FnExactBitsAt.f, hz]⟩

end Go.Proofs.Ytndeonfbolookaa.QFnExactBitsAt
