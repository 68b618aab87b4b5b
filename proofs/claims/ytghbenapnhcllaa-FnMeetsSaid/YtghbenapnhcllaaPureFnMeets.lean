/- The pure statement of the law FnMeets, for every input: what the printed functions compute makes the law answer true. No conditions beyond what the row reads. -/
import Derived.Test.YtghbenapnhcllaaMFnMeetsx20
namespace Go.Proofs.Ytghbenapnhcllaa.Pure
open Go.RowKit Go.Proofs.Ytghbenapnhcllaa.MFnMeets Go.Proofs.YtghbenapnhcllaaW.PrintWords Go.Proofs.YtghbenapnhcllaaW.PrintLast
set_option linter.unusedVariables false
set_option linter.unusedSimpArgs false

/-! base -/
theorem w64 {x : Int} (h1 : -9223372036854775808 ≤ x) (h2 : x ≤ 9223372036854775807) : wrap64 x = x := by
  unfold wrap64
  omega

theorem wf64 {x : Int} (h : (Lit.int .i64 x).wf = true) : -9223372036854775808 ≤ x ∧ x ≤ 9223372036854775807 := by
  have h2 : (decide (IntKind.i64.min ≤ x) && decide (x ≤ IntKind.i64.max)) = true := h
  rw [Bool.and_eq_true, decide_eq_true_eq, decide_eq_true_eq] at h2
  exact ⟨h2.1, h2.2⟩

theorem take_set_succ {α : Type} (xs : List α) (i : Nat) (v : α) (h : i < xs.length) : (xs.set i v).take (i + 1) = xs.take i ++ [v] := by
  rw [List.take_succ_eq_append_getElem (by simpa using h), List.take_set_of_le (Nat.le_refl i), List.getElem_set_self]

theorem step64 {i n : Nat} (h : i < n) (hn : n ≤ 4611686018427387904) : wrap64 ((i : Int) + 1) = ((i + 1 : Nat) : Int) := by
  rw [w64 (by omega) (by omega)]
  omega

theorem ev_done {α : Type} {g : Nat → Option α} {r : α} (h : ∀ k, g (k + 1) = some r) : Ev g r := Ev.step (f := fun _ => some r) h (Ev.now r)

theorem ev_const {α : Type} {o : Option α} {r : α} (h : o = some r) : Ev (fun _ => o) r := by
  subst h
  exact Ev.now r

/-! spec_l01In -/
theorem spec_l01In_v (a b c : Int) : spec_l01In.f a b c = some (decide (b ≤ a ∧ a ≤ c)) := by
  unfold spec_l01In.f
  by_cases h : a ≥ b
  · rw [if_pos h]
    simp [h]
  · rw [if_neg h]
    simp
    omega

/-! impl_inRange -/
theorem impl_inRange_v (a b c : Int) : impl_inRange.f a b c = some (decide (b ≤ a ∧ a ≤ c)) := by
  unfold impl_inRange.f
  by_cases h : a ≥ b
  · rw [if_pos h]
    simp [h]
  · rw [if_neg h]
    simp
    omega

/-! rd_int -/
theorem rd_int (xs : List Int) (i : Nat) (h : i < xs.length) : rd xs (i : Int) = xs[i] := by
  unfold rd
  simp [h]

/-! MaskB -/
def maskBoxP (a b c d : Int) : Prop := a < c ∧ b < d ∧ -2000 ≤ a ∧ -2000 ≤ b ∧ c ≤ 2000 ∧ d ≤ 2000 ∧ c - a ≤ 60 ∧ d - b ≤ 60
instance (a b c d : Int) : Decidable (maskBoxP a b c d) := by unfold maskBoxP; infer_instance
def allBits (l : List Int) : Bool := l.all (fun x => decide (0 ≤ x ∧ x ≤ 15))
def maskOkB (a b c d : Int) (l : List Int) : Bool := if a = 0 ∧ b = 0 ∧ c = 0 ∧ d = 0 then decide (l.length = 0) else (decide (maskBoxP a b c d) && decide ((l.length : Int) = (c - a) * (d - b)) && allBits l)
theorem area_bd {a b c d : Int} (h : maskBoxP a b c d) : 1 ≤ (c - a) * (d - b) ∧ (c - a) * (d - b) ≤ 3600 := by
  obtain ⟨h1, h2, _, _, _, _, h3, h4⟩ := h
  have e1 : 1 * 1 ≤ (c - a) * (d - b) := Int.mul_le_mul (by omega) (by omega) (by omega) (by omega)
  have e2 : (c - a) * (d - b) ≤ 60 * 60 := Int.mul_le_mul (by omega) (by omega) (by omega) (by omega)
  omega
theorem area_w {a b c d : Int} (h : maskBoxP a b c d) : wrap64 ((wrap64 (c - a)) * (wrap64 (d - b))) = (c - a) * (d - b) := by
  have q := area_bd h
  obtain ⟨h1, h2, _, _, _, _, h3, h4⟩ := h
  rw [w64 (x := c - a) (by omega) (by omega), w64 (x := d - b) (by omega) (by omega), w64 (by omega) (by omega)]
theorem spec_l11Box_v (a b c d : Int) : spec_l11Box.f a b c d = some (decide (maskBoxP a b c d)) := by
  unfold spec_l11Box.f spec_Empty.f maskBoxP
  simp only [spec_l01In_v]
  by_cases h1 : a ≥ c
  · rw [if_pos h1]
    simp only [Option.bind_some, if_true]
    refine congrArg some (Eq.symm (decide_eq_false ?_))
    omega
  · rw [if_neg h1]
    simp only [Option.bind_some, decide_eq_true_eq]
    by_cases h2 : b ≥ d
    · rw [if_pos h2]
      refine congrArg some (Eq.symm (decide_eq_false ?_))
      omega
    · rw [if_neg h2]
      by_cases h3 : (-2000 ≤ a ∧ a ≤ 2000) ∧ (-2000 ≤ b ∧ b ≤ 2000) ∧ (-2000 ≤ c ∧ c ≤ 2000) ∧ (-2000 ≤ d ∧ d ≤ 2000)
      · rw [if_pos h3.1, if_pos h3.2.1, if_pos h3.2.2.1, if_pos h3.2.2.2, w64 (by omega) (by omega), w64 (by omega) (by omega)]
        split
        · refine congrArg some (decide_eq_decide.mpr ?_)
          omega
        · refine congrArg some (Eq.symm (decide_eq_false ?_))
          omega
      · repeat' split
        all_goals first | (exfalso; omega) | (refine congrArg some (Eq.symm (decide_eq_false ?_)); omega)
theorem impl_isMaskBox_v {a b c d : Int} (ha : -9223372036854775808 ≤ a ∧ a ≤ 9223372036854775807) (hb : -9223372036854775808 ≤ b ∧ b ≤ 9223372036854775807) (hc : -9223372036854775808 ≤ c ∧ c ≤ 9223372036854775807) (hd : -9223372036854775808 ≤ d ∧ d ≤ 9223372036854775807) :
    impl_isMaskBox.f a b c d = some (decide (maskBoxP a b c d)) := by
  unfold impl_isMaskBox.f impl_Empty.f maskBoxP
  by_cases h1 : a ≥ c
  · rw [if_pos h1]
    simp only [Option.bind_some, if_true]
    refine congrArg some (Eq.symm (decide_eq_false ?_))
    omega
  · rw [if_neg h1]
    simp only [Option.bind_some, decide_eq_true_eq]
    by_cases h2 : b ≥ d
    · rw [if_pos h2]
      refine congrArg some (Eq.symm (decide_eq_false ?_))
      omega
    · rw [if_neg h2]
      by_cases h3 : (-2000 ≤ a ∧ a ≤ 2000) ∧ (-2000 ≤ b ∧ b ≤ 2000) ∧ (-2000 ≤ c ∧ c ≤ 2000) ∧ (-2000 ≤ d ∧ d ≤ 2000)
      · rw [if_neg (by omega), if_neg (by omega), if_neg (by omega), if_neg (by omega), w64 (by omega) (by omega), w64 (by omega) (by omega)]
        split
        · refine congrArg some (decide_eq_decide.mpr ?_)
          omega
        · refine congrArg some (Eq.symm (decide_eq_false ?_))
          omega
      · repeat' split
        all_goals first | (exfalso; omega) | (refine congrArg some (Eq.symm (decide_eq_false ?_)); omega)

/-! MaskOk_s -/
theorem spec_MaskOk_l (a b c d : Int) (l : List Int) (hn : l.length ≤ 1048576) : ∀ (m i : Nat), i + m = l.length → Ev (fun k => spec_MaskOk.l0 k (i : Int) a b c d l) (allBits (l.drop i)) := by
  intro m
  induction m with
  | zero =>
    intro i hi
    refine ev_done (fun k => ?_)
    simp only [spec_MaskOk.l0]
    rw [if_neg (by omega), List.drop_of_length_le (by omega)]
    rfl
  | succ m ih =>
    intro i hi
    have hi2 : i < l.length := by omega
    rw [List.drop_eq_getElem_cons hi2, allBits, List.all_cons]
    by_cases hx : 0 ≤ l[i] ∧ l[i] ≤ 15
    · rw [decide_eq_true hx, Bool.true_and]
      refine Ev.step (fun k => ?_) (ih (i + 1) (by omega))
      simp only [spec_MaskOk.l0, spec_l01In_v, Option.bind_some]
      rw [if_pos (by omega), if_pos (by omega), rd_int _ _ hi2, step64 hi2 (by omega), if_pos (by simpa using hx)]
    · rw [decide_eq_false hx, Bool.false_and]
      refine ev_done (fun k => ?_)
      simp only [spec_MaskOk.l0, spec_l01In_v, Option.bind_some]
      rw [if_pos (by omega), if_pos (by omega), rd_int _ _ hi2, if_neg (by simpa using hx)]
theorem spec_MaskOk_v (a b c d : Int) (l : List Int) (hn : l.length ≤ 1048576) : Ev (fun k => spec_MaskOk.f k a b c d l) (maskOkB a b c d l) := by
  unfold spec_MaskOk.f maskOkB
  by_cases h0 : (l.length : Int) = 0
  · simp only [if_pos h0]
    by_cases hz : a = 0 ∧ b = 0 ∧ c = 0 ∧ d = 0
    · rw [if_pos hz]
      obtain ⟨rfl, rfl, rfl, rfl⟩ := hz
      refine ev_const (congrArg some ?_)
      simp
      exact List.length_eq_zero_iff.mp (by omega)
    · rw [if_neg hz]
      refine ev_const (congrArg some ?_)
      have e : (decide (maskBoxP a b c d) && decide ((l.length : Int) = (c - a) * (d - b))) = false := by
        by_cases hb : maskBoxP a b c d
        · have := area_bd hb
          rw [decide_eq_false (p := (l.length : Int) = (c - a) * (d - b)) (by omega)]
          simp
        · rw [decide_eq_false hb]
          rfl
      rw [e]
      simp
      omega
  · simp only [if_neg h0, spec_l11Box_v, Option.bind_some]
    by_cases hb : maskBoxP a b c d
    · have hz : ¬ (a = 0 ∧ b = 0 ∧ c = 0 ∧ d = 0) := by have := hb.1; omega
      rw [if_neg hz, decide_eq_true hb]
      simp only [if_true, area_w hb]
      by_cases hl : (l.length : Int) = (c - a) * (d - b)
      · rw [decide_eq_true hl]
        refine Ev.step (fun k => ?_) (spec_MaskOk_l a b c d l hn l.length 0 (by omega))
        simp only [spec_MaskOk.j0]
        rw [if_neg (by simp [hl])]
        rfl
      · rw [decide_eq_false hl]
        refine ev_done (fun k => ?_)
        simp only [spec_MaskOk.j0]
        rw [if_pos (by simpa using hl)]
        rfl
    · rw [decide_eq_false hb]
      have e : (if a = 0 ∧ b = 0 ∧ c = 0 ∧ d = 0 then decide (l.length = 0) else (false && decide ((l.length : Int) = (c - a) * (d - b)) && allBits l)) = false := by
        split
        · exact decide_eq_false (by omega)
        · rfl
      rw [e]
      simp only [Bool.false_eq_true, if_false]
      refine ev_done (fun k => ?_)
      simp only [spec_MaskOk.j0, if_true]

/-! MaskOk_i -/
theorem impl_MaskOk_l (l : List Int) (hn : l.length ≤ 1048576) : ∀ (m i : Nat), i + m = l.length → Ev (fun k => impl_MaskOk.l0 k l (l.length : Int) (i : Int)) (allBits (l.drop i)) := by
  intro m
  induction m with
  | zero =>
    intro i hi
    refine ev_done (fun k => ?_)
    simp only [impl_MaskOk.l0]
    rw [if_neg (by omega), List.drop_of_length_le (by omega)]
    rfl
  | succ m ih =>
    intro i hi
    have hi2 : i < l.length := by omega
    rw [List.drop_eq_getElem_cons hi2, allBits, List.all_cons]
    by_cases hx : 0 ≤ l[i] ∧ l[i] ≤ 15
    · rw [decide_eq_true hx, Bool.true_and]
      refine Ev.step (fun k => ?_) (ih (i + 1) (by omega))
      simp only [impl_MaskOk.l0, impl_inRange_v, Option.bind_some]
      rw [if_pos (by omega), if_pos (by omega), if_pos (by omega), rd_int _ _ hi2, step64 hi2 (by omega), if_pos (by simpa using hx)]
    · rw [decide_eq_false hx, Bool.false_and]
      refine ev_done (fun k => ?_)
      simp only [impl_MaskOk.l0, impl_inRange_v, Option.bind_some]
      rw [if_pos (by omega), if_pos (by omega), if_pos (by omega), rd_int _ _ hi2, if_neg (by simpa using hx)]
theorem impl_MaskOk_v {a b c d : Int} (l : List Int) (hn : l.length ≤ 1048576) (ha : -9223372036854775808 ≤ a ∧ a ≤ 9223372036854775807) (hb : -9223372036854775808 ≤ b ∧ b ≤ 9223372036854775807) (hc : -9223372036854775808 ≤ c ∧ c ≤ 9223372036854775807) (hd : -9223372036854775808 ≤ d ∧ d ≤ 9223372036854775807) :
    Ev (fun k => impl_MaskOk.f k a b c d l) (maskOkB a b c d l) := by
  unfold impl_MaskOk.f maskOkB
  by_cases hz : a = 0 ∧ b = 0 ∧ c = 0 ∧ d = 0
  · rw [if_pos hz]
    obtain ⟨rfl, rfl, rfl, rfl⟩ := hz
    refine ev_const ?_
    refine congrArg some ?_
    rw [Bool.eq_iff_iff]
    simp
  · rw [if_neg hz]
    have hz2 : ¬ (a == 0 && (b == 0 && (c == 0 && (d == 0)))) = true := by
      simp
      omega
    simp only [if_neg hz2, impl_isMaskBox_v ha hb hc hd, Option.bind_some]
    by_cases hb : maskBoxP a b c d
    · rw [decide_eq_true hb]
      simp only [if_true, area_w hb]
      by_cases hl : (l.length : Int) = (c - a) * (d - b)
      · rw [decide_eq_true hl]
        refine Ev.step (fun k => ?_) (impl_MaskOk_l l hn l.length 0 (by omega))
        simp only [impl_MaskOk.j0]
        rw [if_neg (by simp [hl])]
        rfl
      · rw [decide_eq_false hl]
        refine ev_done (fun k => ?_)
        simp only [impl_MaskOk.j0]
        rw [if_pos (by simpa using hl)]
        rfl
    · rw [decide_eq_false hb]
      simp only [Bool.false_eq_true, if_false]
      refine ev_done (fun k => ?_)
      simp only [impl_MaskOk.j0, if_true]
      rfl

/-! MaskOk -/

/-! BitsI -/
def bitsP (a b c d : Int) (l : List Int) (x y : Int) : Int := if a ≤ x ∧ x < c ∧ b ≤ y ∧ y < d then rd l ((y - b) * (c - a) + x - a) else 0
theorem place_bd {a b c d x y : Int} (hb : maskBoxP a b c d) (h : a ≤ x ∧ x < c ∧ b ≤ y ∧ y < d) :
    wrap64 ((wrap64 ((wrap64 ((wrap64 (y - b)) * (wrap64 (c - a)))) + x)) - a) = (y - b) * (c - a) + x - a ∧ 0 ≤ (y - b) * (c - a) + x - a ∧ (y - b) * (c - a) + x - a < (c - a) * (d - b) := by
  have q := area_bd hb
  obtain ⟨h1, h2, h3, h4, h5, h6, h7, h8⟩ := hb
  obtain ⟨g1, g2, g3, g4⟩ := h
  have m0 : 0 ≤ (y - b) * (c - a) := Int.mul_nonneg (by omega) (by omega)
  have m1 : (y - b) * (c - a) ≤ (d - b - 1) * (c - a) := Int.mul_le_mul_of_nonneg_right (by omega) (by omega)
  have m2 : (d - b - 1) * (c - a) = (c - a) * (d - b) - (c - a) := by rw [Int.sub_mul, Int.mul_comm (d - b) (c - a), Int.one_mul]
  refine ⟨?_, by omega, by omega⟩
  rw [w64 (x := y - b) (by omega) (by omega), w64 (x := c - a) (by omega) (by omega), w64 (x := (y - b) * (c - a)) (by omega) (by omega), w64 (x := (y - b) * (c - a) + x) (by omega) (by omega), w64 (by omega) (by omega)]
theorem impl_bitsAt_v {a b c d : Int} {l : List Int} (x y : Int) (hb : maskBoxP a b c d) (hl : (l.length : Int) = (c - a) * (d - b)) : impl_Mask_bitsAt.f a b c d l x y = some (bitsP a b c d l x y) := by
  unfold impl_Mask_bitsAt.f impl_InBox.f bitsP
  by_cases h : a ≤ x ∧ x < c ∧ b ≤ y ∧ y < d
  · obtain ⟨e1, e2, e3⟩ := place_bd hb h
    rw [if_pos (show x ≥ a from h.1), if_pos h.2.1, if_pos (show y ≥ b from h.2.2.1), decide_eq_true h.2.2.2]
    simp only [Option.bind_some, if_true, e1]
    rw [if_pos e2, if_pos (by omega), if_pos h]
  · rw [if_neg h]
    repeat' split
    all_goals simp
    all_goals omega
/-- A mask that is right: none at all, or one over a box. -/
theorem maskOk_cases {a b c d : Int} {l : List Int} (h : maskOkB a b c d l = true) : (a = 0 ∧ b = 0 ∧ c = 0 ∧ d = 0 ∧ l = []) ∨ (maskBoxP a b c d ∧ (l.length : Int) = (c - a) * (d - b) ∧ allBits l = true) := by
  unfold maskOkB at h
  split at h
  · rename_i hz
    exact .inl ⟨hz.1, hz.2.1, hz.2.2.1, hz.2.2.2, List.length_eq_zero_iff.mp (of_decide_eq_true h)⟩
  · simp only [Bool.and_eq_true, decide_eq_true_eq] at h
    exact .inr ⟨h.1.1, h.1.2, h.2⟩

/-! BitsAt -/
theorem spec_l11Bits_v {a b c d : Int} {l : List Int} (x y : Int) (hb : maskBoxP a b c d) (hl : (l.length : Int) = (c - a) * (d - b)) : spec_l11Bits.f a b c d l x y = some (bitsP a b c d l x y) := by
  unfold spec_l11Bits.f spec_InBox.f bitsP
  by_cases h : a ≤ x ∧ x < c ∧ b ≤ y ∧ y < d
  · obtain ⟨e1, e2, e3⟩ := place_bd hb h
    rw [if_pos h.1, if_pos h.2.1, if_pos h.2.2.1, decide_eq_true h.2.2.2]
    simp only [Option.bind_some, if_true, e1]
    rw [if_pos e2, if_pos (by omega), if_pos h]
  · rw [if_neg h]
    repeat' split
    all_goals simp
    all_goals omega
theorem bits_none (x y : Int) : spec_l11Bits.f 0 0 0 0 [] x y = some 0 ∧ impl_Mask_bitsAt.f 0 0 0 0 [] x y = some 0 := by
  constructor
  · unfold spec_l11Bits.f spec_InBox.f
    repeat' split
    all_goals simp
    all_goals omega
  · unfold impl_Mask_bitsAt.f impl_InBox.f
    repeat' split
    all_goals simp
    all_goals omega
theorem bits_ok {a b c d : Int} {l : List Int} (h : maskOkB a b c d l = true) (x y : Int) : ∃ r, spec_l11Bits.f a b c d l x y = some r ∧ impl_Mask_bitsAt.f a b c d l x y = some r := by
  rcases maskOk_cases h with ⟨rfl, rfl, rfl, rfl, rfl⟩ | ⟨h1, h2, h3⟩
  · exact ⟨0, bits_none x y⟩
  · exact ⟨_, spec_l11Bits_v x y h1 h2, impl_bitsAt_v x y h1 h2⟩

/-! MeetMask -/
theorem both_ok : ∀ u v : Fin 16, spec_l11Both.f 6 (u.val : Int) (v.val : Int) = some (Go.bits .and .i64 (u.val : Int) (v.val : Int)) := by decide +kernel
theorem both_v (u v : Int) (hu : 0 ≤ u ∧ u ≤ 15) (hv : 0 ≤ v ∧ v ≤ 15) : Ev (fun k => spec_l11Both.f k u v) (Go.bits .and .i64 u v) := by
  have h := both_ok ⟨u.toNat, by omega⟩ ⟨v.toNat, by omega⟩
  have eu : ((u.toNat : Nat) : Int) = u := by omega
  have ev : ((v.toNat : Nat) : Int) = v := by omega
  simp only [eu, ev] at h
  exact Ev.of (fun k => spec_l11Both.mono u v k) h
theorem allBits_mem' {l : List Int} (h : allBits l = true) : ∀ x ∈ l, 0 ≤ x ∧ x ≤ 15 := by
  intro x hx
  unfold allBits at h
  simpa using List.all_eq_true.mp h x hx
theorem bitsP_bd' {a b c d : Int} {l : List Int} (h : allBits l = true) (x y : Int) : 0 ≤ bitsP a b c d l x y ∧ bitsP a b c d l x y ≤ 15 := by
  unfold bitsP
  split
  · unfold rd
    rw [List.getD_eq_getElem?_getD]
    cases hq : l[((y - b) * (c - a) + x - a).toNat]? with
    | none => simp
    | some v => exact allBits_mem' h v (List.mem_of_getElem? hq)
  · omega
abbrev MR := Int × Int × Int × Int × List Int
section
variable {a b c d a' b' c' d' : Int} {l l' : List Int} (h1 : maskBoxP a b c d) (h2 : (l.length : Int) = (c - a) * (d - b)) (h3 : allBits l = true) (g1 : maskBoxP a' b' c' d') (g2 : (l'.length : Int) = (c' - a') * (d' - b')) (g3 : allBits l' = true)
include h1 h2 h3 g1 g2 g3
theorem meet_cols (p q r s y : Int) (m : Nat) (hr0 : -2000 ≤ r) (hr1 : r ≤ 2000)
    (H0 : ∀ out : List Int, out.length + 60 * m ≤ 100000 → ∃ R : MR, Ev (fun k => spec_MeetMask.l0 k (wrap64 (y + 1)) a b c d l a' b' c' d' l' p q r s out) R ∧ Ev (fun k => impl_maskOver_MeetMask_1.l0 k (wrap64 (y + 1)) a b c d l a' b' c' d' l' p q r s p q r s out) R ∧ R.2.2.2.2.length ≤ out.length + 60 * m) : ∀ (n : Nat) (x : Int) (out : List Int), x + n = r → out.length + n + 60 * m ≤ 100000 →
    ∃ R : MR, Ev (fun k => spec_MeetMask.l1 k y x a b c d l a' b' c' d' l' p q r s out) R ∧ Ev (fun k => impl_maskOver_MeetMask_1.l1 k y x a b c d l a' b' c' d' l' p q r s p q r s out) R ∧ R.2.2.2.2.length ≤ out.length + n + 60 * m := by
  intro n
  induction n with
  | zero =>
    intro x out hx hn
    obtain ⟨R, k1, k2, k3⟩ := H0 out (by omega)
    refine ⟨R, Ev.step (fun k => ?_) k1, Ev.step (fun k => ?_) k2, by omega⟩
    · simp only [spec_MeetMask.l1]
      rw [if_neg (by omega)]
    · simp only [impl_maskOver_MeetMask_1.l1]
      rw [if_neg (by omega)]
  | succ n ih =>
    intro x out hx hn
    obtain ⟨R, k1, k2, k3⟩ := ih (x + 1) (out ++ [Go.bits .and .i64 (bitsP a b c d l x y) (bitsP a' b' c' d' l' x y)]) (by omega) (by simp; omega)
    simp only [List.length_append, List.length_cons, List.length_nil] at k3
    refine ⟨R, ?_, Ev.step (fun k => ?_) k2, by omega⟩
    · refine Ev.step (fun k => rfl) ?_
      simp only [spec_MeetMask.l1, spec_l11Bits_v x y h1 h2, spec_l11Bits_v x y g1 g2, Option.bind_some, if_pos (show x < r by omega), w64 (x := x + 1) (by omega) (by omega)]
      refine Ev.bind (both_v _ _ (bitsP_bd' h3 x y) (bitsP_bd' g3 x y)) ?_
      simp only [if_pos (show out.length < 17592186044416 by omega)]
      exact k1
    · simp only [impl_maskOver_MeetMask_1.l1, impl_MeetMask_1.f, impl_bitsAt_v x y h1 h2, impl_bitsAt_v x y g1 g2, Option.bind_some]
      rw [if_pos (by omega), if_pos (by omega), w64 (x := x + 1) (by omega) (by omega)]
theorem meet_rows (p q r s : Int) (hr0 : -2000 ≤ r) (hr1 : r ≤ 2000) (hs0 : -2000 ≤ s) (hs1 : s ≤ 2000) (hw0 : p ≤ r) (hw : r - p ≤ 60) : ∀ (m : Nat) (y : Int) (out : List Int), y + m = s → out.length + 60 * m ≤ 100000 →
    ∃ R : MR, Ev (fun k => spec_MeetMask.l0 k y a b c d l a' b' c' d' l' p q r s out) R ∧ Ev (fun k => impl_maskOver_MeetMask_1.l0 k y a b c d l a' b' c' d' l' p q r s p q r s out) R ∧ R.2.2.2.2.length ≤ out.length + 60 * m := by
  intro m
  induction m with
  | zero =>
    intro y out hy hn
    refine ⟨(p, q, r, s, out), ev_done (fun k => ?_), ev_done (fun k => ?_), by simp⟩
    · simp only [spec_MeetMask.l0]
      rw [if_neg (by omega)]
    · simp only [impl_maskOver_MeetMask_1.l0]
      rw [if_neg (by omega)]
  | succ m ih =>
    intro y out hy hn
    have e1 : wrap64 (y + 1) = y + 1 := w64 (by omega) (by omega)
    obtain ⟨n, hn2⟩ : ∃ n : Nat, (n : Int) = r - p := ⟨(r - p).toNat, by omega⟩
    obtain ⟨R, k1, k2, k3⟩ := meet_cols h1 h2 h3 g1 g2 g3 p q r s y m hr0 hr1 (fun o ho => by rw [e1]; exact ih (y + 1) o (by omega) ho) n p out (by omega) (by omega)
    refine ⟨R, Ev.step (fun k => ?_) k1, Ev.step (fun k => ?_) k2, by omega⟩
    · simp only [spec_MeetMask.l0]
      rw [if_pos (by omega)]
    · simp only [impl_maskOver_MeetMask_1.l0]
      rw [if_pos (by omega)]
end
theorem mx_v (x y : Int) : mx x y = if x ≤ y then y else x := by
  unfold mx
  repeat' split
  all_goals omega
theorem mn_v (x y : Int) : mn x y = if x ≤ y then x else y := by
  unfold mn
  repeat' split
  all_goals omega
theorem spec_most_v (x y : Int) : spec_l05Most.f x y = some (mx x y) := by
  unfold spec_l05Most.f
  rw [mx_v]
  repeat' split
  all_goals first | rfl | (refine congrArg some ?_; omega) | (exfalso; omega)
theorem spec_least_v (x y : Int) : spec_l05Least.f x y = some (mn x y) := by
  unfold spec_l05Least.f
  rw [mn_v]
  repeat' split
  all_goals first | rfl | (refine congrArg some ?_; omega) | (exfalso; omega)
def noBoxB (p q r s : Int) : Bool := decide (p ≥ r) || decide (q ≥ s)
theorem spec_Empty_v (p q r s : Int) : spec_Empty.f p q r s = some (noBoxB p q r s) := by
  unfold spec_Empty.f noBoxB
  by_cases h : p ≥ r
  · rw [if_pos h, decide_eq_true h, Bool.true_or]
  · rw [if_neg h, decide_eq_false h, Bool.false_or]
theorem impl_Empty_v (p q r s : Int) : impl_Empty.f p q r s = some (noBoxB p q r s) := by
  unfold impl_Empty.f noBoxB
  by_cases h : p ≥ r
  · rw [if_pos h, decide_eq_true h, Bool.true_or]
  · rw [if_neg h, decide_eq_false h, Bool.false_or]
def noMask : MR := (0, 0, 0, 0, [])
theorem MeetMask_v {a b c d a' b' c' d' : Int} (l l' : List Int) (hn : l.length ≤ 1048576) (hn' : l'.length ≤ 1048576)
    (ha : -9223372036854775808 ≤ a ∧ a ≤ 9223372036854775807) (hb : -9223372036854775808 ≤ b ∧ b ≤ 9223372036854775807) (hc : -9223372036854775808 ≤ c ∧ c ≤ 9223372036854775807) (hd : -9223372036854775808 ≤ d ∧ d ≤ 9223372036854775807)
    (ha' : -9223372036854775808 ≤ a' ∧ a' ≤ 9223372036854775807) (hb' : -9223372036854775808 ≤ b' ∧ b' ≤ 9223372036854775807) (hc' : -9223372036854775808 ≤ c' ∧ c' ≤ 9223372036854775807) (hd' : -9223372036854775808 ≤ d' ∧ d' ≤ 9223372036854775807) :
    ∃ R : MR, Ev (fun k => spec_MeetMask.f k a b c d l a' b' c' d' l') R ∧ Ev (fun k => impl_MeetMask.f k a b c d l a' b' c' d' l') R ∧ R.2.2.2.2.length ≤ 3600 := by
  have s1 := spec_MaskOk_v a b c d l hn
  have s2 := spec_MaskOk_v a' b' c' d' l' hn'
  have i1 := impl_MaskOk_v l hn ha hb hc hd
  have i2 := impl_MaskOk_v l' hn' ha' hb' hc' hd'
  have sno : Ev (fun k => spec_MeetMask.j0 k true a b c d l a' b' c' d' l') noMask := ev_done (fun k => rfl)
  have z0 : noBoxB 0 0 0 0 = true := by decide
  unfold spec_MeetMask.f impl_MeetMask.f impl_MeetBox.f
  simp only [impl_Empty_v, Option.bind_some]
  by_cases he : noBoxB (mx a a') (mx b b') (mn c c') (mn d d') = true
  · simp only [if_pos he, Option.bind_some, z0, if_true]
    refine ⟨noMask, ?_, Ev.now _, by simp [noMask]⟩
    refine Ev.bind s1 ?_
    cases maskOkB a b c d l with
    | false => exact sno
    | true =>
      simp only [if_true]
      refine Ev.bind s2 ?_
      cases maskOkB a' b' c' d' l' with
      | false => exact sno
      | true =>
        refine Ev.step (fun k => rfl) ?_
        simp only [spec_MeetMask.j0, Bool.not_true, Bool.false_eq_true, if_false, spec_MeetBox.f, spec_most_v, spec_least_v, spec_Empty_v, Option.bind_some, he, if_true]
        refine ev_done (fun k => ?_)
        simp only [spec_MeetMask.l0]
        rw [if_neg (by omega)]
        rfl
  · have hne : ¬ (mx a a' ≥ mn c c') ∧ ¬ (mx b b' ≥ mn d d') := by
      simp only [noBoxB, Bool.or_eq_true, decide_eq_true_eq] at he
      omega
    simp only [if_neg he, Option.bind_some]
    cases hA : maskOkB a b c d l with
    | false =>
      rw [hA] at s1 i1
      exact ⟨noMask, Ev.bind s1 sno, Ev.bind i1 (Ev.now _), by simp [noMask]⟩
    | true =>
    rw [hA] at s1 i1
    cases hB : maskOkB a' b' c' d' l' with
    | false =>
      rw [hB] at s2 i2
      exact ⟨noMask, Ev.bind s1 (by simp only [if_true]; exact Ev.bind s2 sno), Ev.bind i1 (by simp only [if_true]; exact Ev.bind i2 (Ev.now _)), by simp [noMask]⟩
    | true =>
    rw [hB] at s2 i2
    have e1 := mx_v a a'
    have e2 := mx_v b b'
    have e3 := mn_v c c'
    have e4 := mn_v d d'
    have key : maskBoxP a b c d ∧ (l.length : Int) = (c - a) * (d - b) ∧ allBits l = true ∧ maskBoxP a' b' c' d' ∧ (l'.length : Int) = (c' - a') * (d' - b') ∧ allBits l' = true := by
      rcases maskOk_cases hA with ⟨rfl, rfl, rfl, rfl, rfl⟩ | ⟨h1, h2, h3⟩
      · exfalso
        split at e1 <;> split at e3 <;> omega
      · rcases maskOk_cases hB with ⟨rfl, rfl, rfl, rfl, rfl⟩ | ⟨g1, g2, g3⟩
        · exfalso
          split at e1 <;> split at e3 <;> omega
        · exact ⟨h1, h2, h3, g1, g2, g3⟩
    obtain ⟨h1, h2, h3, g1, g2, g3⟩ := key
    obtain ⟨p1, p2, p3, p4, p5, p6, p7, p8⟩ := id h1
    have b1 : a ≤ mx a a' ∧ b ≤ mx b b' ∧ mn c c' ≤ c ∧ mn d d' ≤ d := by
      refine ⟨?_, ?_, ?_, ?_⟩
      · rw [e1]; split <;> omega
      · rw [e2]; split <;> omega
      · rw [e3]; split <;> omega
      · rw [e4]; split <;> omega
    have hmb : spec_MeetBox.f a b c d a' b' c' d' = some (mx a a', mx b b', mn c c', mn d d') := by
      simp only [spec_MeetBox.f, spec_most_v, spec_least_v, spec_Empty_v, Option.bind_some, if_neg he]
    generalize mx a a' = p at *
    generalize mx b b' = q at *
    generalize mn c c' = r at *
    generalize mn d d' = s at *
    obtain ⟨m, hm⟩ : ∃ m : Nat, (m : Int) = s - q := ⟨(s - q).toNat, by omega⟩
    obtain ⟨R, k1, k2, k3⟩ := meet_rows h1 h2 h3 g1 g2 g3 p q r s (by omega) (by omega) (by omega) (by omega) (by omega) (by omega) m q [] (by omega) (by simp; omega)
    refine ⟨R, ?_, ?_, by simp at k3; omega⟩
    · refine Ev.bind s1 ?_
      simp only [if_true]
      refine Ev.bind s2 ?_
      refine Ev.step (fun k => rfl) ?_
      simp only [spec_MeetMask.j0, Bool.not_true, Bool.false_eq_true, if_false, hmb, Option.bind_some]
      exact k1
    · refine Ev.bind i1 ?_
      simp only [if_true]
      refine Ev.bind i2 ?_
      simp only [if_true]
      exact Ev.bind k2 (Ev.now _)

/-! Grid -/
def rowL (B : Int → Int → Int) (y : Int) : Int → Nat → List Int
  | _, 0 => []
  | x, n + 1 => B x y :: rowL B y (x + 1) n
def gridL (B : Int → Int → Int) (a : Int) (w : Nat) : Int → Nat → List Int
  | _, 0 => []
  | y, m + 1 => rowL B y a w ++ gridL B a w (y + 1) m
theorem rowL_len (B : Int → Int → Int) (y : Int) : ∀ (n : Nat) (x : Int), (rowL B y x n).length = n
  | 0, _ => rfl
  | n + 1, x => by rw [rowL, List.length_cons, rowL_len B y n]
theorem gridL_len (B : Int → Int → Int) (a : Int) (w : Nat) : ∀ (m : Nat) (y : Int), (gridL B a w y m).length = m * w
  | 0, _ => by simp [gridL]
  | m + 1, y => by rw [gridL, List.length_append, rowL_len, gridL_len B a w m, Nat.succ_mul]; omega
theorem rowL_get (B : Int → Int → Int) (y : Int) : ∀ (n i : Nat) (x : Int), i < n → (rowL B y x n)[i]? = some (B (x + i) y)
  | 0, _, _, h => absurd h (by omega)
  | n + 1, 0, x, _ => by simp [rowL]
  | n + 1, i + 1, x, h => by
    rw [rowL, List.getElem?_cons_succ, rowL_get B y n i (x + 1) (by omega), show x + 1 + (i : Int) = x + ((i + 1 : Nat) : Int) by omega]
theorem gridL_get (B : Int → Int → Int) (a : Int) (w : Nat) : ∀ (m j i : Nat) (y : Int), j < m → i < w → (gridL B a w y m)[j * w + i]? = some (B (a + i) (y + j))
  | 0, _, _, _, h, _ => absurd h (by omega)
  | m + 1, 0, i, y, _, hi => by
    rw [gridL, List.getElem?_append_left (by rw [rowL_len]; omega), Nat.zero_mul, Nat.zero_add, rowL_get B y w i a hi]
    simp
  | m + 1, j + 1, i, y, hj, hi => by
    have e : (j + 1) * w + i - w = j * w + i := by rw [Nat.succ_mul]; omega
    rw [gridL, List.getElem?_append_right (by rw [rowL_len, Nat.succ_mul]; omega), rowL_len, e, gridL_get B a w m j i (y + 1) (by omega) hi, show y + 1 + (j : Int) = y + ((j + 1 : Nat) : Int) by omega]
theorem rowL_mem (B : Int → Int → Int) (hB : ∀ x y, 0 ≤ B x y ∧ B x y ≤ 15) (y : Int) : ∀ (n : Nat) (x : Int), ∀ v ∈ rowL B y x n, 0 ≤ v ∧ v ≤ 15
  | 0, _, v, h => by simp [rowL] at h
  | n + 1, x, v, h => by
    rw [rowL] at h
    rcases List.mem_cons.mp h with rfl | h
    · exact hB _ _
    · exact rowL_mem B hB y n (x + 1) v h
theorem gridL_mem (B : Int → Int → Int) (hB : ∀ x y, 0 ≤ B x y ∧ B x y ≤ 15) (a : Int) (w : Nat) : ∀ (m : Nat) (y : Int), ∀ v ∈ gridL B a w y m, 0 ≤ v ∧ v ≤ 15
  | 0, _, v, h => by simp [gridL] at h
  | m + 1, y, v, h => by
    rw [gridL] at h
    rcases List.mem_append.mp h with h | h
    · exact rowL_mem B hB y w a v h
    · exact gridL_mem B hB a w m (y + 1) v h
/-- What a mask over a box has at a square, when it was laid out square by square. -/
theorem grid_bits (B : Int → Int → Int) {a b c d : Int} (w m : Nat) (hw : (w : Int) = c - a) (hm : (m : Int) = d - b) (x y : Int) (h : a ≤ x ∧ x < c ∧ b ≤ y ∧ y < d) : bitsP a b c d (gridL B a w b m) x y = B x y := by
  unfold bitsP rd
  rw [if_pos h]
  obtain ⟨i, hi⟩ : ∃ i : Nat, (i : Int) = x - a := ⟨(x - a).toNat, by omega⟩
  obtain ⟨j, hj⟩ : ∃ j : Nat, (j : Int) = y - b := ⟨(y - b).toNat, by omega⟩
  have e : (y - b) * (c - a) + x - a = ((j * w + i : Nat) : Int) := by
    rw [Int.natCast_add, Int.natCast_mul, hj, hw, hi]
    omega
  rw [e, Int.toNat_natCast, List.getD_eq_getElem?_getD, gridL_get B a w m j i b (by omega) (by omega), Option.getD_some]
  rw [show a + (i : Int) = x by omega, show b + (j : Int) = y by omega]

/-! MeetV -/
def andB (a b c d : Int) (l : List Int) (a' b' c' d' : Int) (l' : List Int) (x y : Int) : Int := Go.bits .and .i64 (bitsP a b c d l x y) (bitsP a' b' c' d' l' x y)
theorem and_bd_ok : ∀ u v : Fin 16, 0 ≤ Go.bits .and .i64 (u.val : Int) (v.val : Int) ∧ Go.bits .and .i64 (u.val : Int) (v.val : Int) ≤ 15 := by decide +kernel
theorem and_bd (u v : Int) (hu : 0 ≤ u ∧ u ≤ 15) (hv : 0 ≤ v ∧ v ≤ 15) : 0 ≤ Go.bits .and .i64 u v ∧ Go.bits .and .i64 u v ≤ 15 := by
  have h := and_bd_ok ⟨u.toNat, by omega⟩ ⟨v.toNat, by omega⟩
  have eu : ((u.toNat : Nat) : Int) = u := by omega
  have ev : ((v.toNat : Nat) : Int) = v := by omega
  simp only [eu, ev] at h
  exact h
section
variable {a b c d a' b' c' d' : Int} {l l' : List Int} (h1 : maskBoxP a b c d) (h2 : (l.length : Int) = (c - a) * (d - b)) (h3 : allBits l = true) (g1 : maskBoxP a' b' c' d') (g2 : (l'.length : Int) = (c' - a') * (d' - b')) (g3 : allBits l' = true)
include h1 h2 h3 g1 g2 g3
theorem meetV_cols (p q r s y : Int) (hr1 : r ≤ 2000) {R R' : MR} : ∀ (n : Nat) (x : Int) (out : List Int), -2000 ≤ x → x + n = r → out.length + n ≤ 100000 →
    (Ev (fun k => spec_MeetMask.l0 k (wrap64 (y + 1)) a b c d l a' b' c' d' l' p q r s (out ++ rowL (andB a b c d l a' b' c' d' l') y x n)) R → Ev (fun k => spec_MeetMask.l1 k y x a b c d l a' b' c' d' l' p q r s out) R) ∧
    (Ev (fun k => impl_maskOver_MeetMask_1.l0 k (wrap64 (y + 1)) a b c d l a' b' c' d' l' p q r s p q r s (out ++ rowL (andB a b c d l a' b' c' d' l') y x n)) R' → Ev (fun k => impl_maskOver_MeetMask_1.l1 k y x a b c d l a' b' c' d' l' p q r s p q r s out) R') := by
  intro n
  induction n with
  | zero =>
    intro x out h0 hx ho
    simp only [rowL, List.append_nil]
    refine ⟨fun h => Ev.step (fun k => ?_) h, fun h => Ev.step (fun k => ?_) h⟩
    · simp only [spec_MeetMask.l1]
      rw [if_neg (by omega)]
    · simp only [impl_maskOver_MeetMask_1.l1]
      rw [if_neg (by omega)]
  | succ n ih =>
    intro x out h0 hx ho
    obtain ⟨i1, i2⟩ := ih (x + 1) (out ++ [andB a b c d l a' b' c' d' l' x y]) (by omega) (by omega) (by simp; omega)
    have e1 : out ++ rowL (andB a b c d l a' b' c' d' l') y x (n + 1) = (out ++ [andB a b c d l a' b' c' d' l' x y]) ++ rowL (andB a b c d l a' b' c' d' l') y (x + 1) n := by rw [rowL, List.append_assoc]; rfl
    rw [e1]
    refine ⟨fun h => ?_, fun h => Ev.step (fun k => ?_) (i2 h)⟩
    · refine Ev.step (fun k => rfl) ?_
      simp only [spec_MeetMask.l1, spec_l11Bits_v x y h1 h2, spec_l11Bits_v x y g1 g2, Option.bind_some, if_pos (show x < r by omega), w64 (x := x + 1) (by omega) (by omega)]
      refine Ev.bind (both_v _ _ (bitsP_bd' h3 x y) (bitsP_bd' g3 x y)) ?_
      simp only [if_pos (show out.length < 17592186044416 by omega)]
      exact i1 h
    · simp only [impl_maskOver_MeetMask_1.l1, impl_MeetMask_1.f, impl_bitsAt_v x y h1 h2, impl_bitsAt_v x y g1 g2, Option.bind_some]
      rw [if_pos (by omega), if_pos (by omega), w64 (x := x + 1) (by omega) (by omega)]
      rfl
theorem meetV_rows (p q r s : Int) (hp0 : -2000 ≤ p) (hr1 : r ≤ 2000) (hs1 : s ≤ 2000) (w : Nat) (hw : (w : Int) = r - p) (hw60 : w ≤ 60) : ∀ (m : Nat) (y : Int) (out : List Int), -2000 ≤ y → y + m = s → out.length + 60 * m ≤ 100000 →
    Ev (fun k => spec_MeetMask.l0 k y a b c d l a' b' c' d' l' p q r s out) (p, q, r, s, out ++ gridL (andB a b c d l a' b' c' d' l') p w y m) ∧ Ev (fun k => impl_maskOver_MeetMask_1.l0 k y a b c d l a' b' c' d' l' p q r s p q r s out) (p, q, r, s, out ++ gridL (andB a b c d l a' b' c' d' l') p w y m) := by
  intro m
  induction m with
  | zero =>
    intro y out h0 hy ho
    simp only [gridL, List.append_nil]
    refine ⟨ev_done (fun k => ?_), ev_done (fun k => ?_)⟩
    · simp only [spec_MeetMask.l0]
      rw [if_neg (by omega)]
    · simp only [impl_maskOver_MeetMask_1.l0]
      rw [if_neg (by omega)]
  | succ m ih =>
    intro y out h0 hy ho
    have e1 : wrap64 (y + 1) = y + 1 := w64 (by omega) (by omega)
    have e2 : out ++ gridL (andB a b c d l a' b' c' d' l') p w y (m + 1) = (out ++ rowL (andB a b c d l a' b' c' d' l') y p w) ++ gridL (andB a b c d l a' b' c' d' l') p w (y + 1) m := by rw [gridL, List.append_assoc]
    obtain ⟨i1, i2⟩ := ih (y + 1) (out ++ rowL (andB a b c d l a' b' c' d' l') y p w) (by omega) (by omega) (by rw [List.length_append, rowL_len]; omega)
    rw [← e2, ← e1] at i1 i2
    obtain ⟨c1, c2⟩ := meetV_cols h1 h2 h3 g1 g2 g3 p q r s y hr1 (R := (p, q, r, s, out ++ gridL (andB a b c d l a' b' c' d' l') p w y (m + 1))) (R' := (p, q, r, s, out ++ gridL (andB a b c d l a' b' c' d' l') p w y (m + 1))) w p out hp0 (by omega) (by omega)
    refine ⟨Ev.step (fun k => ?_) (c1 i1), Ev.step (fun k => ?_) (c2 i2)⟩
    · simp only [spec_MeetMask.l0]
      rw [if_pos (by omega)]
    · simp only [impl_maskOver_MeetMask_1.l0]
      rw [if_pos (by omega)]
/-- What two right masks meet in: none, or square by square what both have. -/
theorem MeetMask_g : ∃ (p q r s : Int) (L : List Int), Ev (fun k => spec_MeetMask.f k a b c d l a' b' c' d' l') (p, q, r, s, L) ∧ Ev (fun k => impl_MeetMask.f k a b c d l a' b' c' d' l') (p, q, r, s, L) ∧ L.length ≤ 3600 ∧ maskOkB p q r s L = true ∧
    (p = 0 ∧ q = 0 ∧ r = 0 ∧ s = 0 ∧ L = [] ∧ noBoxB (mx a a') (mx b b') (mn c c') (mn d d') = true ∨
      maskBoxP p q r s ∧ p = mx a a' ∧ q = mx b b' ∧ r = mn c c' ∧ s = mn d d' ∧ ∃ w m : Nat, (w : Int) = r - p ∧ (m : Int) = s - q ∧ L = gridL (andB a b c d l a' b' c' d' l') p w q m) := by
  have q1 := area_bd h1
  have q2 := area_bd g1
  obtain ⟨p1, p2, p3, p4, p5, p6, p7, p8⟩ := id h1
  obtain ⟨p1', p2', p3', p4', p5', p6', p7', p8'⟩ := id g1
  have hA : maskOkB a b c d l = true := by
    unfold maskOkB
    rw [if_neg (by omega), decide_eq_true h1, decide_eq_true h2, h3]
    rfl
  have hB : maskOkB a' b' c' d' l' = true := by
    unfold maskOkB
    rw [if_neg (by omega), decide_eq_true g1, decide_eq_true g2, g3]
    rfl
  have s1 := spec_MaskOk_v a b c d l (by omega)
  have s2 := spec_MaskOk_v a' b' c' d' l' (by omega)
  have i1 := impl_MaskOk_v (a := a) (b := b) (c := c) (d := d) l (by omega) (by omega) (by omega) (by omega) (by omega)
  have i2 := impl_MaskOk_v (a := a') (b := b') (c := c') (d := d') l' (by omega) (by omega) (by omega) (by omega) (by omega)
  rw [hA] at s1 i1
  rw [hB] at s2 i2
  have z0 : noBoxB 0 0 0 0 = true := by decide
  unfold spec_MeetMask.f impl_MeetMask.f impl_MeetBox.f
  simp only [impl_Empty_v, Option.bind_some]
  by_cases he : noBoxB (mx a a') (mx b b') (mn c c') (mn d d') = true
  · simp only [if_pos he, Option.bind_some, z0, if_true]
    refine ⟨0, 0, 0, 0, [], ?_, Ev.now _, by simp, by decide, .inl ⟨rfl, rfl, rfl, rfl, rfl, he⟩⟩
    refine Ev.bind s1 ?_
    simp only [if_true]
    refine Ev.bind s2 ?_
    refine Ev.step (fun k => rfl) ?_
    simp only [spec_MeetMask.j0, Bool.not_true, Bool.false_eq_true, if_false, spec_MeetBox.f, spec_most_v, spec_least_v, spec_Empty_v, Option.bind_some, he, if_true]
    refine ev_done (fun k => ?_)
    simp only [spec_MeetMask.l0]
    rw [if_neg (by omega)]
  · have hne : ¬ (mx a a' ≥ mn c c') ∧ ¬ (mx b b' ≥ mn d d') := by
      simp only [noBoxB, Bool.or_eq_true, decide_eq_true_eq] at he
      omega
    simp only [if_neg he, Option.bind_some]
    have e1 := mx_v a a'
    have e2 := mx_v b b'
    have e3 := mn_v c c'
    have e4 := mn_v d d'
    have b1 : a ≤ mx a a' ∧ b ≤ mx b b' ∧ mn c c' ≤ c ∧ mn d d' ≤ d := by
      refine ⟨?_, ?_, ?_, ?_⟩
      · rw [e1]; split <;> omega
      · rw [e2]; split <;> omega
      · rw [e3]; split <;> omega
      · rw [e4]; split <;> omega
    have hmb : spec_MeetBox.f a b c d a' b' c' d' = some (mx a a', mx b b', mn c c', mn d d') := by
      simp only [spec_MeetBox.f, spec_most_v, spec_least_v, spec_Empty_v, Option.bind_some, if_neg he]
    clear e1 e2 e3 e4 he
    generalize mx a a' = p at *
    generalize mx b b' = q at *
    generalize mn c c' = r at *
    generalize mn d d' = s at *
    obtain ⟨w, hw⟩ : ∃ w : Nat, (w : Int) = r - p := ⟨(r - p).toNat, by omega⟩
    obtain ⟨m, hm⟩ : ∃ m : Nat, (m : Int) = s - q := ⟨(s - q).toNat, by omega⟩
    have hbx : maskBoxP p q r s := ⟨by omega, by omega, by omega, by omega, by omega, by omega, by omega, by omega⟩
    obtain ⟨k1, k2⟩ := meetV_rows h1 h2 h3 g1 g2 g3 p q r s (by omega) (by omega) (by omega) w hw (by omega) m q [] (by omega) (by omega) (by simp; omega)
    rw [List.nil_append] at k1 k2
    have q3 := area_bd hbx
    have hL : ((gridL (andB a b c d l a' b' c' d' l') p w q m).length : Int) = (r - p) * (s - q) := by
      rw [gridL_len, Int.natCast_mul, hw, hm, Int.mul_comm]
    have hAll : allBits (gridL (andB a b c d l a' b' c' d' l') p w q m) = true := by
      unfold allBits
      exact List.all_eq_true.mpr (fun x hx => by simpa using gridL_mem (andB a b c d l a' b' c' d' l') (fun x y => and_bd _ _ (bitsP_bd' h3 x y) (bitsP_bd' g3 x y)) p w m q x hx)
    refine ⟨p, q, r, s, _, ?_, ?_, by omega, ?_, .inr ⟨hbx, rfl, rfl, rfl, rfl, w, m, hw, hm, rfl⟩⟩
    · refine Ev.bind s1 ?_
      simp only [if_true]
      refine Ev.bind s2 ?_
      refine Ev.step (fun k => rfl) ?_
      simp only [spec_MeetMask.j0, Bool.not_true, Bool.false_eq_true, if_false, hmb, Option.bind_some]
      exact k1
    · refine Ev.bind i1 ?_
      simp only [if_true]
      refine Ev.bind i2 ?_
      simp only [if_true]
      exact Ev.bind k2 (Ev.now _)
    · unfold maskOkB
      rw [if_neg (by omega), decide_eq_true hbx, decide_eq_true hL, hAll]
      rfl
end
/-- A mask laid out square by square out of its own bits is itself. -/
theorem grid_self {a b c d : Int} {l : List Int} (hl : (l.length : Int) = (c - a) * (d - b)) (w m : Nat) (hw : (w : Int) = c - a) (hm : (m : Int) = d - b) : gridL (bitsP a b c d l) a w b m = l := by
  have hn : l.length = m * w := by
    have h : ((l.length : Nat) : Int) = ((m * w : Nat) : Int) := by rw [hl, Int.natCast_mul, hw, hm, Int.mul_comm]
    omega
  apply List.ext_getElem?
  intro n
  by_cases hlt : n < m * w
  · have hw0 : 0 < w := by
      rcases Nat.eq_zero_or_pos w with h | h
      · rw [h, Nat.mul_zero] at hlt
        omega
      · exact h
    have e : n = n / w * w + n % w := by
      have := Nat.div_add_mod n w
      rw [Nat.mul_comm] at this
      exact this.symm
    have hj : n / w < m := Nat.div_lt_of_lt_mul (by rw [Nat.mul_comm]; exact hlt)
    have hi : n % w < w := Nat.mod_lt _ hw0
    generalize n / w = J at e hj
    generalize n % w = I at e hi
    have hg := gridL_get (bitsP a b c d l) a w m J I b hj hi
    rw [← e] at hg
    rw [hg]
    unfold bitsP rd
    rw [if_pos (by omega)]
    have e2 : (b + (J : Int) - b) * (c - a) + (a + (I : Int)) - a = (n : Int) := by
      rw [← hw, show b + (J : Int) - b = (J : Int) by omega, ← Int.natCast_mul]
      omega
    rw [e2, Int.toNat_natCast, List.getD_eq_getElem?_getD, List.getElem?_eq_getElem (by omega), Option.getD_some]
  · rw [List.getElem?_eq_none (by rw [gridL_len]; omega), List.getElem?_eq_none (by omega)]

/-! DrawB -/
theorem and255 (n : Int) : Go.bits .and .i64 n 255 = n % 256 := by
  have h255 : (BitVec.ofInt 64 255).toNat = 2 ^ 8 - 1 := by decide
  have key : (BitVec.ofInt 64 n &&& BitVec.ofInt 64 255).toNat = (n % ((2 ^ 64 : Nat) : Int)).toNat % 2 ^ 8 := by
    rw [BitVec.toNat_and, BitVec.toNat_ofInt, h255, Nat.and_two_pow_sub_one_eq_mod]
  show IntKind.i64.wrap ((BitVec.ofInt 64 n &&& BitVec.ofInt 64 255).toNat : Nat) = n % 256
  rw [key, IntKind.wrap_i64]
  omega
theorem byte_r (l : List Int) (p s : Int) (hp : 0 ≤ p) (hl : p ≤ l.length) (hn : l.length ≤ 1048576) : ∃ b q t : Int, spec_l01Byte.f l p s = some (b, q, t) ∧ 0 ≤ b ∧ b ≤ 255 ∧ 0 ≤ q ∧ q ≤ l.length := by
  unfold spec_l01Byte.f
  by_cases h : p < (l.length : Int)
  · rw [if_pos h, if_pos hp]
    refine ⟨_, _, _, rfl, ?_, ?_, ?_, ?_⟩
    · rw [and255]
      omega
    · rw [and255]
      omega
    · rw [w64 (by omega) (by omega)]
      omega
    · rw [w64 (by omega) (by omega)]
      omega
  · rw [if_neg h]
    refine ⟨_, _, _, rfl, ?_, ?_, hp, hl⟩
    · rw [and255]
      omega
    · rw [and255]
      omega
theorem below_r (l : List Int) (p s n : Int) (hp : 0 ≤ p) (hl : p ≤ l.length) (hn : l.length ≤ 1048576) (h0 : 0 < n) (h1 : n ≤ 9223372036854775807) : ∃ b q t : Int, spec_l01Below.f l p s n = some (b, q, t) ∧ 0 ≤ b ∧ b < n ∧ 0 ≤ q ∧ q ≤ l.length := by
  unfold spec_l01Below.f
  rw [if_neg (by omega)]
  by_cases h : n ≤ 256
  · obtain ⟨b, q, t, e, b0, b1, q0, q1⟩ := byte_r l p s hp hl hn
    rw [if_pos h, e]
    simp only [Option.bind_some]
    rw [if_neg (by omega)]
    refine ⟨_, _, _, rfl, ?_, ?_, q0, q1⟩
    · exact Int.tmod_nonneg _ b0
    · exact Int.tmod_lt_of_pos _ h0
  · obtain ⟨b, q, t, e, b0, b1, q0, q1⟩ := byte_r l p s hp hl hn
    obtain ⟨b', q', t', e', b0', b1', q0', q1'⟩ := byte_r l q t q0 q1 hn
    obtain ⟨b2, q2, t2, e2, b02, b12, q02, q12⟩ := byte_r l q' t' q0' q1' hn
    obtain ⟨b3, q3, t3, e3, b03, b13, q03, q13⟩ := byte_r l q2 t2 q02 q12 hn
    rw [if_neg h, e]
    simp only [Option.bind_some, e', e2, e3]
    rw [if_neg (by omega)]
    refine ⟨_, _, _, rfl, ?_, ?_, q03, q13⟩
    · refine Int.tmod_nonneg _ ?_
      rw [w64 (x := b * 16777216) (by omega) (by omega), w64 (x := b' * 65536) (by omega) (by omega), w64 (x := b2 * 256) (by omega) (by omega), w64 (x := b * 16777216 + b' * 65536) (by omega) (by omega), w64 (x := b * 16777216 + b' * 65536 + b2 * 256) (by omega) (by omega), w64 (by omega) (by omega)]
      omega
    · exact Int.tmod_lt_of_pos _ h0
theorem new_l (l : List Int) (hn : l.length ≤ 1048576) : ∀ (d : Nat) (i : Int) (x3 : Int), i + d = 4000 → 0 ≤ i → ∃ s, Ev (fun k => spec_l01New.l0 k l x3 i) (l, 0, s) := by
  intro d
  induction d with
  | zero =>
    intro i x3 hi h0
    refine ⟨x3, ev_done (fun k => ?_)⟩
    simp only [spec_l01New.l0]
    by_cases h : i < (l.length : Int)
    · rw [if_pos h, if_neg (by omega)]
    · rw [if_neg h]
  | succ d ih =>
    intro i x3 hi h0
    by_cases h : i < (l.length : Int)
    · obtain ⟨s, hs⟩ := ih (i + 1) (Go.bits .and .i64 (wrap64 ((wrap64 ((wrap64 (x3 * 131)) + (wrap64 (rd l i)))) + 7)) 1073741823) (by omega) (by omega)
      refine ⟨s, Ev.step (fun k => ?_) hs⟩
      simp only [spec_l01New.l0]
      rw [if_pos h, if_pos (by omega), if_pos h0, w64 (x := i + 1) (by omega) (by omega)]
    · refine ⟨x3, ev_done (fun k => ?_)⟩
      simp only [spec_l01New.l0]
      rw [if_neg h]
theorem new_v (l : List Int) (hn : l.length ≤ 1048576) : ∃ s, Ev (fun k => spec_l01New.f k l) (l, 0, s) := by
  obtain ⟨s, hs⟩ := new_l l hn 4000 0 (wrap64 (28001 + (l.length : Int))) (by omega) (by omega)
  exact ⟨s, hs⟩

/-! DrawPointR -/
theorem point_r (l : List Int) (p s : Int) (hp : 0 ≤ p) (hl : p ≤ l.length) (hn : l.length ≤ 1048576) : ∃ a b q t : Int, spec_l04Point.f l p s = some (a, b, q, t) ∧ 0 ≤ q ∧ q ≤ l.length := by
  obtain ⟨b0, q0, t0, e0, l0, u0, v0, w0⟩ := below_r l p s 3600 hp hl hn (by omega) (by omega)
  obtain ⟨b1, q1, t1, e1, l1, u1, v1, w1⟩ := below_r l q0 t0 3600 v0 w0 hn (by omega) (by omega)
  unfold spec_l04Point.f
  rw [e0]
  simp only [Option.bind_some, e1]
  exact ⟨_, _, _, _, rfl, v1, w1⟩
theorem once_r (l : List Int) (p s n : Int) (hp : 0 ≤ p) (hl : p ≤ l.length) (hn : l.length ≤ 1048576) (h0 : 0 < n) (h1 : n ≤ 1000000) : ∃ (b : Bool) (q t : Int), spec_l01Once.f l p s n = some (b, q, t) ∧ 0 ≤ q ∧ q ≤ l.length := by
  obtain ⟨b, q, t, e, _, _, v, w⟩ := below_r l p s n hp hl hn h0 (by omega)
  unfold spec_l01Once.f
  rw [e]
  exact ⟨_, _, _, rfl, v, w⟩

/-! DrawPick -/
theorem pick_r (l : List Int) (p s : Int) (xs : List Int) (hp : 0 ≤ p) (hl : p ≤ l.length) (hn : l.length ≤ 1048576) (h0 : 0 < xs.length) (h1 : xs.length ≤ 1048576) : ∃ (i : Nat) (q t : Int), spec_l01PickInt.f l p s xs = some (rd xs (i : Int), q, t) ∧ i < xs.length ∧ 0 ≤ q ∧ q ≤ l.length := by
  obtain ⟨b, q, t, e, b0, b1, q0, q1⟩ := below_r l p s (xs.length : Int) hp hl hn (by omega) (by omega)
  unfold spec_l01PickInt.f
  rw [e]
  simp only [Option.bind_some]
  rw [if_pos b0, if_pos b1]
  refine ⟨b.toNat, q, t, ?_, by omega, q0, q1⟩
  rw [Int.toNat_of_nonneg b0]

/-! spec_PointOk -/
def pointOkP (a b : Int) : Prop := (-8388608 ≤ a ∧ a ≤ 8388608) ∧ (-8388608 ≤ b ∧ b ≤ 8388608)
instance (a b : Int) : Decidable (pointOkP a b) := by unfold pointOkP; infer_instance
theorem spec_PointOk_v (a b : Int) : spec_PointOk.f a b = some (decide (pointOkP a b)) := by
  unfold spec_PointOk.f pointOkP
  simp only [spec_l01In_v, Option.bind_some, decide_eq_true_eq]
  repeat' split
  all_goals first | (refine congrArg some (decide_eq_decide.mpr ?_); omega) | (refine congrArg some (Eq.symm (decide_eq_false ?_)); omega)

/-! PathB -/
def needB (v : Int) : Int := if v = 1 ∨ v = 2 then 1 else if v = 3 then 2 else if v = 4 then 3 else if v = 5 then 0 else -1
theorem needB_bd (v : Int) : -1 ≤ needB v ∧ needB v ≤ 3 := by
  unfold needB
  repeat' split
  all_goals omega
def prevB (l : List Int) : Nat → Int
  | 0 => 5
  | i + 1 => rd l (i : Int)
def verbsB : Int → List Int → Int → Option Int
  | _, [], n => some n
  | p, v :: vs, n => if needB v < 0 then none else if p = 5 ∧ v ≠ 1 then none else verbsB v vs (n + needB v)
def pointsB (l : List S52) : Bool := l.all (fun p => decide (pointOkP p.f0 p.f1))
def endB (pts : List S52) : Option Int → Bool
  | none => false
  | some m => m == (pts.length : Int)
def pathB (l : List Int) (pts : List S52) : Bool := decide (pts.length ≤ 24) && (decide (l.length ≤ 24) && (pointsB pts && endB pts (verbsB 5 l 0)))

/-! rd_impl_Point -/
theorem rd_impl_Point (xs : List S52) (i : Nat) (h : i < xs.length) : rd_T52 xs (i : Int) = xs[i] := by
  unfold rd_T52
  simp [h]

/-! PathOk_spec -/
theorem spec_NeedOf_v (v : Int) : spec_NeedOf.f v = some (needB v) := by
  unfold spec_NeedOf.f
  simp only [spec_l01In_v, Option.bind_some]
  by_cases h : 1 ≤ v ∧ v ≤ 5
  · rw [decide_eq_true h, if_pos rfl]
    have h5 : v = 1 ∨ v = 2 ∨ v = 3 ∨ v = 4 ∨ v = 5 := by omega
    rcases h5 with rfl | rfl | rfl | rfl | rfl <;> simp [wrap64, rd, needB]
  · rw [decide_eq_false h, if_neg (by simp)]
    unfold needB
    rw [if_neg (by omega), if_neg (by omega), if_neg (by omega), if_neg (by omega)]
theorem spec_points_l (l : List Int) (pts : List S52) (n : Int) (hn : pts.length ≤ 1048576) : ∀ (d i : Nat), i + d = pts.length → Ev (fun k => spec_PathOk.l1 k n (i : Int) l pts) (pointsB (pts.drop i) && (n == (pts.length : Int))) := by
  intro d
  induction d with
  | zero =>
    intro i hi
    refine ev_done (fun k => ?_)
    simp only [spec_PathOk.l1]
    rw [if_neg (by omega), List.drop_of_length_le (by omega)]
    rfl
  | succ d ih =>
    intro i hi
    have hi2 : i < pts.length := by omega
    rw [List.drop_eq_getElem_cons hi2, pointsB, List.all_cons]
    by_cases hx : pointOkP pts[i].f0 pts[i].f1
    · rw [decide_eq_true hx, Bool.true_and]
      refine Ev.step (fun k => ?_) (ih (i + 1) (by omega))
      simp only [spec_PathOk.l1, spec_PointOk_v, Option.bind_some]
      rw [if_pos (by omega), if_pos (by omega), rd_impl_Point _ _ hi2, step64 hi2 (by omega), if_pos (by simpa using hx)]
    · rw [decide_eq_false hx, Bool.false_and, Bool.false_and]
      refine ev_done (fun k => ?_)
      simp only [spec_PathOk.l1, spec_PointOk_v, Option.bind_some]
      rw [if_pos (by omega), if_pos (by omega), rd_impl_Point _ _ hi2, if_neg (by simpa using hx)]
theorem spec_path_l (l : List Int) (pts : List S52) (hn : l.length ≤ 24) (hp : pts.length ≤ 24) : ∀ (d i : Nat) (n : Int), i + d = l.length → 0 ≤ n → n ≤ 3 * (i : Int) →
    Ev (fun k => spec_PathOk.l0 k n (i : Int) l pts) (pointsB pts && endB pts (verbsB (prevB l i) (l.drop i) n)) := by
  intro d
  induction d with
  | zero =>
    intro i n hi h0 h1
    rw [List.drop_of_length_le (by omega)]
    refine Ev.step (fun k => ?_) (spec_points_l l pts n (by omega) pts.length 0 (by omega))
    simp only [spec_PathOk.l0]
    rw [if_neg (by omega)]
    rfl
  | succ d ih =>
    intro i n hi h0 h1
    have hi2 : i < l.length := by omega
    have hb := needB_bd l[i]
    have hno : (pointsB pts && false) = false := Bool.and_false _
    rw [List.drop_eq_getElem_cons hi2, verbsB]
    by_cases hneg : needB l[i] < 0
    · rw [if_pos hneg]
      show Ev _ (pointsB pts && false)
      rw [hno]
      refine ev_done (fun k => ?_)
      simp only [spec_PathOk.l0, rd_int _ _ hi2, spec_NeedOf_v, Option.bind_some]
      rw [if_pos (by omega), if_pos (by omega), if_pos hneg]
    · rw [if_neg hneg]
      have hr := ih (i + 1) (n + needB l[i]) (by omega) (by omega) (by omega)
      rw [show prevB l (i + 1) = l[i] from rd_int l i hi2] at hr
      cases i with
      | zero =>
        by_cases hv : l[0] = 1
        · rw [if_neg (fun h => h.2 hv)]
          refine Ev.step (fun k => ?_) hr
          simp only [spec_PathOk.l0, rd_int _ _ hi2, spec_NeedOf_v, Option.bind_some]
          rw [if_pos (by omega), if_pos (by omega), if_neg hneg, if_pos (by omega), if_pos hv, w64 (x := n + needB l[0]) (by omega) (by omega), step64 hi2 (by omega)]
        · rw [if_pos ⟨rfl, hv⟩]
          show Ev _ (pointsB pts && false)
          rw [hno]
          refine ev_done (fun k => ?_)
          simp only [spec_PathOk.l0, rd_int _ _ hi2, spec_NeedOf_v, Option.bind_some]
          rw [if_pos (by omega), if_pos (by omega), if_neg hneg, if_pos (by omega), if_neg hv]
      | succ j =>
        have ej : wrap64 (((j + 1 : Nat) : Int) - 1) = (j : Int) := by rw [w64 (by omega) (by omega)]; omega
        show Ev _ (pointsB pts && endB pts (if rd l (j : Int) = 5 ∧ l[j + 1] ≠ 1 then none else _))
        by_cases hp5 : rd l (j : Int) = 5
        · by_cases hv : l[j + 1] = 1
          · rw [if_neg (fun h => h.2 hv)]
            refine Ev.step (fun k => ?_) hr
            simp only [spec_PathOk.l0, rd_int _ _ hi2, spec_NeedOf_v, Option.bind_some, ej]
            rw [if_pos (by omega), if_pos (by omega), if_neg hneg, if_neg (by omega), if_pos (by omega), if_pos (by omega), if_pos hp5, if_pos hv, w64 (x := n + needB l[j + 1]) (by omega) (by omega), step64 hi2 (by omega)]
          · rw [if_pos ⟨hp5, hv⟩]
            show Ev _ (pointsB pts && false)
            rw [hno]
            refine ev_done (fun k => ?_)
            simp only [spec_PathOk.l0, rd_int _ _ hi2, spec_NeedOf_v, Option.bind_some, ej]
            rw [if_pos (by omega), if_pos (by omega), if_neg hneg, if_neg (by omega), if_pos (by omega), if_pos (by omega), if_pos hp5, if_neg hv]
        · rw [if_neg (fun h => hp5 h.1)]
          refine Ev.step (fun k => ?_) hr
          simp only [spec_PathOk.l0, rd_int _ _ hi2, spec_NeedOf_v, Option.bind_some, ej]
          rw [if_pos (by omega), if_pos (by omega), if_neg hneg, if_neg (by omega), if_pos (by omega), if_pos (by omega), if_neg hp5, w64 (x := n + needB l[j + 1]) (by omega) (by omega), step64 hi2 (by omega)]
theorem spec_PathOk_v (l : List Int) (pts : List S52) : Ev (fun k => spec_PathOk.f k l pts) (pathB l pts) := by
  unfold spec_PathOk.f pathB
  have hno : Ev (fun k => spec_PathOk.j0 k true l pts) false := ev_done (fun k => rfl)
  by_cases h1 : pts.length ≤ 24
  · rw [decide_eq_true h1, Bool.true_and]
    simp only [if_neg (show ¬ (pts.length : Int) > 24 by omega)]
    by_cases h2 : l.length ≤ 24
    · rw [decide_eq_true h2, Bool.true_and, decide_eq_false (show ¬ (l.length : Int) > 24 by omega)]
      exact Ev.step (fun k => rfl) (spec_path_l l pts h2 h1 l.length 0 0 (by omega) (by omega) (by omega))
    · rw [decide_eq_false h2, Bool.false_and, decide_eq_true (show (l.length : Int) > 24 by omega)]
      exact hno
  · rw [decide_eq_false h1, Bool.false_and]
    simp only [if_pos (show (pts.length : Int) > 24 by omega)]
    exact hno

/-! DrawPath -/
def pathFits (a : List Int) (b : List S52) : Prop := a.length ≤ 100 ∧ b.length ≤ 100
theorem RectPath_ex (a b c d : Int) : ∃ vs ps, spec_RectPath.f a b c d = some (vs, ps) ∧ pathFits vs ps := by
  unfold spec_RectPath.f spec_Empty.f
  simp only [spec_PointOk_v, Option.bind_some]
  repeat' split
  all_goals simp only [Option.bind_some]
  all_goals repeat' split
  all_goals first | exact ⟨_, _, rfl, by simp [pathFits]⟩ | (exfalso; simp_all; done) | skip
section
variable (l : List Int) (hn : l.length ≤ 1048576)
include hn
theorem path_pts (x6 v : Int) (vs : List Int) (H : ∀ (ps : List S52) (p s : Int), ps.length ≤ 3 * vs.length → 0 ≤ p → p ≤ l.length → ∃ a b q t, Ev (fun k => spec_l06Path.l0 k (wrap64 (x6 + 1)) l p s vs ps) (a, b, q, t) ∧ pathFits a b ∧ 0 ≤ q ∧ q ≤ l.length) :
    ∀ (c : Nat) (j : Int) (ps : List S52) (p s : Int), j + c = (if needB v < 0 then 0 else needB v) → 0 ≤ j → ps.length + c ≤ 3 * vs.length → vs.length ≤ 100 → 0 ≤ p → p ≤ l.length →
    ∃ a b q t, Ev (fun k => spec_l06Path.l1 k x6 v j l p s vs ps) (a, b, q, t) ∧ pathFits a b ∧ 0 ≤ q ∧ q ≤ l.length := by
  intro c
  induction c with
  | zero =>
    intro j ps p s hj h0 hl hk hp hq
    obtain ⟨a, b, q, t, k1, k2⟩ := H ps p s (by omega) hp hq
    refine ⟨a, b, q, t, Ev.step (fun k => ?_) k1, k2⟩
    simp only [spec_l06Path.l1, spec_NeedOf_v, Option.bind_some]
    rw [if_neg (by split at hj <;> omega)]
  | succ c ih =>
    intro j ps p s hj h0 hl hk hp hq
    obtain ⟨u, w, q2, t2, e2, v2, w2⟩ := point_r l p s hp hq hn
    have hb := needB_bd v
    obtain ⟨a, b, q, t, k1, k2⟩ := ih (j + 1) (ps ++ [⟨u, w⟩]) q2 t2 (by omega) (by omega) (by simp; omega) hk v2 w2
    refine ⟨a, b, q, t, Ev.step (fun k => ?_) k1, k2⟩
    simp only [spec_l06Path.l1, spec_NeedOf_v, e2, Option.bind_some]
    rw [if_pos (by split at hj <;> omega), if_pos (by omega), w64 (x := j + 1) (by split at hj <;> omega) (by split at hj <;> omega)]
theorem path_l : ∀ (d : Nat) (i : Nat) (vs : List Int) (ps : List S52) (p s : Int), i + d = 6 → vs.length = i → ps.length ≤ 3 * i → 0 ≤ p → p ≤ l.length →
    ∃ a b q t, Ev (fun k => spec_l06Path.l0 k (i : Int) l p s vs ps) (a, b, q, t) ∧ pathFits a b ∧ 0 ≤ q ∧ q ≤ l.length := by
  intro d
  induction d with
  | zero =>
    intro i vs ps p s hi hv hps hp hq
    obtain ⟨b0, q0, t0, e0, l0, u0, v0, w0⟩ := below_r l p s 6 hp hq hn (by omega) (by omega)
    refine ⟨vs, ps, q0, t0, ev_done (fun k => ?_), ⟨by omega, by omega⟩, v0, w0⟩
    simp only [spec_l06Path.l0, e0, Option.bind_some]
    rw [if_neg (by rw [w64 (by omega) (by omega)]; omega)]
  | succ d ih =>
    intro i vs ps p s hi hv hps hp hq
    obtain ⟨b0, q0, t0, e0, l0, u0, v0, w0⟩ := below_r l p s 6 hp hq hn (by omega) (by omega)
    by_cases hb : (i : Int) < wrap64 (1 + b0)
    · obtain ⟨vi, q1, t1, e1, l1, v1, w1⟩ := pick_r l q0 t0 [2, 2, 2, 3, 4, 5, 1] v0 w0 hn (by simp) (by simp)
      have hj2 : ∀ v : Int, ∃ a b q t, Ev (fun k => spec_l06Path.j2 k (i : Int) v l q1 t1 vs ps) (a, b, q, t) ∧ pathFits a b ∧ 0 ≤ q ∧ q ≤ l.length := by
        intro v
        by_cases hg : wrap64 ((ps.length : Int) + needB v) > 24
        · refine ⟨vs, ps, q1, t1, ev_done (fun k => ?_), ⟨by omega, by omega⟩, v1, w1⟩
          simp only [spec_l06Path.j2, spec_NeedOf_v, Option.bind_some]
          rw [if_pos hg]
        · obtain ⟨c, hc⟩ : ∃ c : Nat, (c : Int) = (if needB v < 0 then 0 else needB v) := ⟨(if needB v < 0 then 0 else needB v).toNat, by split <;> omega⟩
          have hbd := needB_bd v
          obtain ⟨a, b, q, t, k1, k2⟩ := path_pts l hn (i : Int) v (vs ++ [v]) (fun ps' p' s' r1 r2 r3 => by
            have := ih (i + 1) (vs ++ [v]) ps' p' s' (by omega) (by simp; omega) (by simp at r1; omega) r2 r3
            rw [w64 (x := (i : Int) + 1) (by omega) (by omega), show (i : Int) + 1 = ((i + 1 : Nat) : Int) by omega]
            exact this) c 0 ps q1 t1 (by omega) (by omega) (by simp; split at hc <;> omega) (by simp; omega) v1 w1
          refine ⟨a, b, q, t, Ev.step (fun k => ?_) k1, k2⟩
          simp only [spec_l06Path.j2, spec_NeedOf_v, Option.bind_some]
          rw [if_neg hg, if_pos (by omega)]
      have hj1 : ∀ (v : Int) (f : Bool), ∃ a b q t, Ev (fun k => spec_l06Path.j1 k (i : Int) v f l q1 t1 vs ps) (a, b, q, t) ∧ pathFits a b ∧ 0 ≤ q ∧ q ≤ l.length := by
        intro v f
        cases f with
        | true =>
          obtain ⟨a, b, q, t, k1, k2⟩ := hj2 1
          exact ⟨a, b, q, t, Ev.step (fun k => rfl) k1, k2⟩
        | false =>
          obtain ⟨a, b, q, t, k1, k2⟩ := hj2 v
          exact ⟨a, b, q, t, Ev.step (fun k => rfl) k1, k2⟩
      cases i with
      | zero =>
        obtain ⟨a, b, q, t, k1, k2⟩ := hj1 (rd [2, 2, 2, 3, 4, 5, 1] (vi : Int)) true
        refine ⟨a, b, q, t, Ev.step (fun k => ?_) k1, k2⟩
        simp only [spec_l06Path.l0, e0, e1, Option.bind_some]
        rw [if_pos hb]
        rfl
      | succ j =>
        obtain ⟨a, b, q, t, k1, k2⟩ := hj1 (rd [2, 2, 2, 3, 4, 5, 1] (vi : Int)) ((rd vs (wrap64 (((j + 1 : Nat) : Int) - 1))) == 5)
        refine ⟨a, b, q, t, Ev.step (fun k => ?_) k1, k2⟩
        have ej : wrap64 (((j + 1 : Nat) : Int) - 1) = (j : Int) := by rw [w64 (by omega) (by omega)]; omega
        simp only [spec_l06Path.l0, e0, e1, Option.bind_some, ej]
        rw [if_pos hb, if_neg (by omega), if_pos (by omega), if_pos (by omega)]
    · refine ⟨vs, ps, q0, t0, ev_done (fun k => ?_), ⟨by omega, by omega⟩, v0, w0⟩
      simp only [spec_l06Path.l0, e0, Option.bind_some]
      rw [if_neg hb]
theorem Path_v (p s : Int) (hp : 0 ≤ p) (hq : p ≤ l.length) : ∃ a b q t, Ev (fun k => spec_l06Path.f k l p s) (a, b, q, t) ∧ pathFits a b ∧ 0 ≤ q ∧ q ≤ l.length := by
  obtain ⟨o, q0, t0, e0, v0, w0⟩ := once_r l p s 2 hp hq hn (by omega) (by omega)
  cases o with
  | true =>
    obtain ⟨b1, q1, t1, e1, _, _, v1, w1⟩ := below_r l q0 t0 2400 v0 w0 hn (by omega) (by omega)
    obtain ⟨b2, q2, t2, e2, _, _, v2, w2⟩ := below_r l q1 t1 2400 v1 w1 hn (by omega) (by omega)
    obtain ⟨b3, q3, t3, e3, _, _, v3, w3⟩ := below_r l q2 t2 1500 v2 w2 hn (by omega) (by omega)
    obtain ⟨b4, q4, t4, e4, _, _, v4, w4⟩ := below_r l q3 t3 1500 v3 w3 hn (by omega) (by omega)
    obtain ⟨vs, ps, e5, hf⟩ := RectPath_ex b1 b2 (wrap64 ((wrap64 (b1 + 1)) + b3)) (wrap64 ((wrap64 (b2 + 1)) + b4))
    refine ⟨vs, ps, q4, t4, ?_, hf, v4, w4⟩
    unfold spec_l06Path.f
    simp only [e0, e1, e2, e3, e4, e5, Option.bind_some, if_true]
    exact Ev.now _
  | false =>
    obtain ⟨a, b, q, t, k1, k2⟩ := path_l l hn 6 0 [] [] q0 t0 (by omega) rfl (by simp) v0 w0
    refine ⟨a, b, q, t, ?_, k2⟩
    unfold spec_l06Path.f
    simp only [e0, Option.bind_some, Bool.false_eq_true, if_false]
    exact k1
end

/-! FlatOf -/
theorem floorDiv_ex (x b : Int) (hb : 1 ≤ b) : ∃ r, spec_FloorDiv.f x b = some r := by
  unfold spec_FloorDiv.f
  repeat' split
  all_goals first | exact ⟨_, rfl⟩ | (exfalso; omega)
theorem roundDiv_ex (x b : Int) (hb : 1 ≤ b) : ∃ r, spec_RoundDiv.f x b = some r := by
  obtain ⟨q, h⟩ := floorDiv_ex x b hb
  unfold spec_RoundDiv.f
  rw [h]
  simp only [Option.bind_some]
  repeat' split
  all_goals exact ⟨_, rfl⟩
theorem clamp_ex (x a b : Int) : ∃ r, spec_Clamp.f x a b = some r := by
  unfold spec_Clamp.f
  repeat' split
  all_goals exact ⟨_, rfl⟩
theorem quad_ex (a b c d e f i : Int) : ∃ p q : Int, Ev (fun k => spec_QuadAt.f k a b c d e f i) (p, q) := by
  have h0 : ∃ p q : Int, Ev (fun k => spec_QuadAt.j0 k i true a b c d e f) (p, q) := ⟨0, 0, ev_done (fun k => rfl)⟩
  have h1 : ∃ p q : Int, Ev (fun k => spec_QuadAt.j0 k i false a b c d e f) (p, q) := by
    obtain ⟨t, ht⟩ := clamp_ex i 0 4
    obtain ⟨u, hu⟩ := roundDiv_ex (wrap64 ((wrap64 ((wrap64 ((wrap64 ((wrap64 (4 - t)) * (wrap64 (4 - t)))) * a)) + (wrap64 ((wrap64 ((wrap64 (2 * t)) * (wrap64 (4 - t)))) * c)))) + (wrap64 ((wrap64 (t * t)) * e)))) 16 (by omega)
    obtain ⟨v, hv⟩ := roundDiv_ex (wrap64 ((wrap64 ((wrap64 ((wrap64 ((wrap64 (4 - t)) * (wrap64 (4 - t)))) * b)) + (wrap64 ((wrap64 ((wrap64 (2 * t)) * (wrap64 (4 - t)))) * d)))) + (wrap64 ((wrap64 (t * t)) * f)))) 16 (by omega)
    refine ⟨u, v, ev_done (fun k => ?_)⟩
    simp only [spec_QuadAt.j0, Bool.false_eq_true, if_false, ht, hu, hv, Option.bind_some]
  unfold spec_QuadAt.f
  simp only [spec_PointOk_v, Option.bind_some]
  cases decide (pointOkP a b) with
  | false => exact h0
  | true =>
    cases decide (pointOkP c d) with
    | false => exact h0
    | true =>
      cases decide (pointOkP e f) with
      | false => exact h0
      | true => exact h1
theorem cubic_ex (a b c d e f g h i : Int) : ∃ p q : Int, Ev (fun k => spec_CubicAt.f k a b c d e f g h i) (p, q) := by
  have h0 : ∃ p q : Int, Ev (fun k => spec_CubicAt.j0 k i true a b c d e f g h) (p, q) := ⟨0, 0, ev_done (fun k => rfl)⟩
  have h1 : ∃ p q : Int, Ev (fun k => spec_CubicAt.j0 k i false a b c d e f g h) (p, q) := by
    obtain ⟨t, ht⟩ := clamp_ex i 0 8
    obtain ⟨u, hu⟩ := roundDiv_ex (wrap64 ((wrap64 ((wrap64 ((wrap64 ((wrap64 ((wrap64 ((wrap64 (8 - t)) * (wrap64 (8 - t)))) * (wrap64 (8 - t)))) * a)) + (wrap64 ((wrap64 ((wrap64 ((wrap64 (3 * t)) * (wrap64 (8 - t)))) * (wrap64 (8 - t)))) * c)))) + (wrap64 ((wrap64 ((wrap64 ((wrap64 (3 * t)) * t)) * (wrap64 (8 - t)))) * e)))) + (wrap64 ((wrap64 ((wrap64 (t * t)) * t)) * g)))) 512 (by omega)
    obtain ⟨v, hv⟩ := roundDiv_ex (wrap64 ((wrap64 ((wrap64 ((wrap64 ((wrap64 ((wrap64 ((wrap64 (8 - t)) * (wrap64 (8 - t)))) * (wrap64 (8 - t)))) * b)) + (wrap64 ((wrap64 ((wrap64 ((wrap64 (3 * t)) * (wrap64 (8 - t)))) * (wrap64 (8 - t)))) * d)))) + (wrap64 ((wrap64 ((wrap64 ((wrap64 (3 * t)) * t)) * (wrap64 (8 - t)))) * f)))) + (wrap64 ((wrap64 ((wrap64 (t * t)) * t)) * h)))) 512 (by omega)
    refine ⟨u, v, ev_done (fun k => ?_)⟩
    simp only [spec_CubicAt.j0, Bool.false_eq_true, if_false, ht, hu, hv, Option.bind_some]
  unfold spec_CubicAt.f
  simp only [spec_PointOk_v, Option.bind_some]
  cases decide (pointOkP a b) with
  | false => exact h0
  | true =>
    cases decide (pointOkP c d) with
    | false => exact h0
    | true =>
      cases decide (pointOkP e f) with
      | false => exact h0
      | true =>
        cases decide (pointOkP g h) with
        | false => exact h0
        | true => exact h1
theorem verbsB_le : ∀ (vs : List Int) (p n m : Int), verbsB p vs n = some m → n ≤ m
  | [], _, n, m, h => by
    obtain rfl := Option.some.inj h
    omega
  | v :: vs, p, n, m, h => by
    rw [verbsB] at h
    split at h
    · cases h
    · split at h
      · cases h
      · have := verbsB_le vs v _ m h
        omega
def flatGood (r : List (List S52)) : Prop := r.length ≤ 30 ∧ ∀ x ∈ r, x.length ≤ 300
section
variable (l : List Int) (pts : List S52) (hn : l.length ≤ 24) (hp : pts.length ≤ 24)
include hn hp
theorem flat_quad (out : List (List S52)) (i : Nat) (hi : i < l.length) (n qa qb : Int) (h0 : 0 ≤ n) (h1 : n + 2 ≤ (pts.length : Int)) (nd : Int) (hnd : needB l[i] = nd)
    (H : ∀ now : List S52, 0 < now.length → now.length ≤ 9 * (i + 1) → ∃ r, Ev (fun k => spec_FlatOf.l0 k out now (wrap64 (n + nd)) (wrap64 ((i : Int) + 1)) l pts) r ∧ flatGood r) : ∀ (c : Nat) (j : Int) (now : List S52), j + c = 5 → 1 ≤ j → 0 < now.length → now.length + c ≤ 9 * (i + 1) →
    ∃ r, Ev (fun k => spec_FlatOf.l1 k out now n (i : Int) j l pts qa qb) r ∧ flatGood r := by
  intro c
  induction c with
  | zero =>
    intro j now hj hj1 hw hl
    obtain ⟨r, k1, k2⟩ := H now hw (by omega)
    refine ⟨r, Ev.step (fun k => ?_) k1, k2⟩
    simp only [spec_FlatOf.l1, rd_int _ _ hi, spec_NeedOf_v, Option.bind_some, hnd]
    rw [if_neg (by omega), if_pos (by omega), if_pos (by omega)]
  | succ c ih =>
    intro j now hj hj1 hw hl
    obtain ⟨u, v, hq⟩ := quad_ex qa qb (rd_T52 pts n).f0 (rd_T52 pts n).f1 (rd_T52 pts (n + 1)).f0 (rd_T52 pts (n + 1)).f1 j
    obtain ⟨r, k1, k2⟩ := ih (j + 1) (now ++ [⟨u, v⟩]) (by omega) (by omega) (by simp) (by simp; omega)
    refine ⟨r, ?_, k2⟩
    refine Ev.step (fun k => rfl) ?_
    simp only [spec_FlatOf.l1, if_pos (show j ≤ 4 by omega), if_pos h0, if_pos (show n < (pts.length : Int) by omega), w64 (x := n + 1) (by omega) (by omega), if_pos (show 0 ≤ n + 1 by omega), if_pos (show n + 1 < (pts.length : Int) by omega)]
    refine Ev.bind hq ?_
    simp only [if_pos (show now.length < 8796093022208 by omega), w64 (x := j + 1) (by omega) (by omega)]
    exact k1
theorem flat_cubic (out : List (List S52)) (i : Nat) (hi : i < l.length) (n qa qb : Int) (h0 : 0 ≤ n) (h1 : n + 3 ≤ (pts.length : Int)) (nd : Int) (hnd : needB l[i] = nd)
    (H : ∀ now : List S52, 0 < now.length → now.length ≤ 9 * (i + 1) → ∃ r, Ev (fun k => spec_FlatOf.l0 k out now (wrap64 (n + nd)) (wrap64 ((i : Int) + 1)) l pts) r ∧ flatGood r) : ∀ (c : Nat) (j : Int) (now : List S52), j + c = 9 → 1 ≤ j → 0 < now.length → now.length + c ≤ 9 * (i + 1) →
    ∃ r, Ev (fun k => spec_FlatOf.l2 k out now n (i : Int) j l pts qa qb) r ∧ flatGood r := by
  intro c
  induction c with
  | zero =>
    intro j now hj hj1 hw hl
    obtain ⟨r, k1, k2⟩ := H now hw (by omega)
    refine ⟨r, Ev.step (fun k => ?_) k1, k2⟩
    simp only [spec_FlatOf.l2, rd_int _ _ hi, spec_NeedOf_v, Option.bind_some, hnd]
    rw [if_neg (by omega), if_pos (by omega), if_pos (by omega)]
  | succ c ih =>
    intro j now hj hj1 hw hl
    obtain ⟨u, v, hq⟩ := cubic_ex qa qb (rd_T52 pts n).f0 (rd_T52 pts n).f1 (rd_T52 pts (n + 1)).f0 (rd_T52 pts (n + 1)).f1 (rd_T52 pts (n + 2)).f0 (rd_T52 pts (n + 2)).f1 j
    obtain ⟨r, k1, k2⟩ := ih (j + 1) (now ++ [⟨u, v⟩]) (by omega) (by omega) (by simp) (by simp; omega)
    refine ⟨r, ?_, k2⟩
    refine Ev.step (fun k => rfl) ?_
    simp only [spec_FlatOf.l2, if_pos (show j ≤ 8 by omega), if_pos h0, if_pos (show n < (pts.length : Int) by omega), w64 (x := n + 1) (by omega) (by omega), w64 (x := n + 2) (by omega) (by omega), if_pos (show 0 ≤ n + 1 by omega), if_pos (show n + 1 < (pts.length : Int) by omega), if_pos (show 0 ≤ n + 2 by omega), if_pos (show n + 2 < (pts.length : Int) by omega)]
    refine Ev.bind hq ?_
    simp only [if_pos (show now.length < 8796093022208 by omega), w64 (x := j + 1) (by omega) (by omega)]
    exact k1
theorem flat_l : ∀ (d i : Nat) (n : Int) (out : List (List S52)) (now : List S52), i + d = l.length → 0 ≤ n → verbsB (prevB l i) (l.drop i) n = some (pts.length : Int) → (0 < i → 0 < now.length) → out.length ≤ i → now.length ≤ 9 * i → (∀ x ∈ out, x.length ≤ 300) →
    ∃ r, Ev (fun k => spec_FlatOf.l0 k out now n (i : Int) l pts) r ∧ flatGood r := by
  intro d
  induction d with
  | zero =>
    intro i n out now hi h0 hv hw ho hl hx
    by_cases hz : (now.length : Int) > 0
    · refine ⟨out ++ [now], ev_done (fun k => ?_), ?_, ?_⟩
      · simp only [spec_FlatOf.l0]
        rw [if_neg (by omega), if_pos hz, if_pos (by omega)]
      · simp
        omega
      · intro x hx2
        rcases List.mem_append.mp hx2 with h | h
        · exact hx x h
        · obtain rfl := List.mem_singleton.mp h
          omega
    · refine ⟨out, ev_done (fun k => ?_), by omega, hx⟩
      simp only [spec_FlatOf.l0]
      rw [if_neg (by omega), if_neg hz]
  | succ d ih =>
    intro i n out now hi h0 hv hw ho hl hx
    have hi2 : i < l.length := by omega
    rw [List.drop_eq_getElem_cons hi2, verbsB] at hv
    have hb := needB_bd l[i]
    split at hv
    · cases hv
    rename_i hneg
    split at hv
    · cases hv
    rename_i hfirst
    have hle := verbsB_le _ _ _ _ hv
    have hstep : wrap64 ((i : Int) + 1) = ((i + 1 : Nat) : Int) := step64 hi2 (by omega)
    have hnn : wrap64 (n + needB l[i]) = n + needB l[i] := w64 (by omega) (by omega)
    have hprev : prevB l (i + 1) = l[i] := rd_int l i hi2
    have hv2 : verbsB (prevB l (i + 1)) (l.drop (i + 1)) (n + needB l[i]) = some (pts.length : Int) := by rw [hprev]; exact hv
    have go : ∀ (out' : List (List S52)) (now' : List S52), out'.length ≤ i + 1 → (∀ x ∈ out', x.length ≤ 300) → 0 < now'.length → now'.length ≤ 9 * (i + 1) → ∃ r, Ev (fun k => spec_FlatOf.l0 k out' now' (wrap64 (n + needB l[i])) (wrap64 ((i : Int) + 1)) l pts) r ∧ flatGood r := by
      intro out' now' q1 q2 q3 q4
      rw [hstep, hnn]
      exact ih (i + 1) (n + needB l[i]) out' now' (by omega) (by omega) hv2 (fun _ => q3) q1 q4 q2
    have h5 : l[i] = 1 ∨ l[i] = 2 ∨ l[i] = 3 ∨ l[i] = 4 ∨ l[i] = 5 := by
      unfold needB at hneg
      repeat' split at hneg
      all_goals omega
    have hi0 : l[i] ≠ 1 → 0 < i := by
      intro h
      cases i with
      | zero => exact absurd ⟨rfl, h⟩ hfirst
      | succ j => omega
    have hlast : 0 < i → wrap64 ((now.length : Int) - 1) = (now.length : Int) - 1 := fun _ => w64 (by omega) (by omega)
    rcases h5 with e | e | e | e | e
    · have hd1 : needB l[i] = 1 := by rw [e]; rfl
      rw [hd1] at hle
      by_cases hz : (i : Int) > 0
      · obtain ⟨r, k1, k2⟩ := go (out ++ [now]) [⟨(rd_T52 pts n).f0, (rd_T52 pts n).f1⟩] (by simp; omega) (by
          intro x hx2
          rcases List.mem_append.mp hx2 with h | h
          · exact hx x h
          · obtain rfl := List.mem_singleton.mp h
            omega) (by simp) (by simp; omega)
        refine ⟨r, Ev.step (fun k => ?_) k1, k2⟩
        simp only [spec_FlatOf.l0, rd_int _ _ hi2, spec_NeedOf_v, Option.bind_some]
        rw [if_pos (by omega), if_pos (by omega), if_pos e, if_pos hz, if_pos (by omega), if_pos h0, if_pos (by omega)]
      · obtain ⟨r, k1, k2⟩ := go out [⟨(rd_T52 pts n).f0, (rd_T52 pts n).f1⟩] (by omega) hx (by simp) (by simp; omega)
        refine ⟨r, Ev.step (fun k => ?_) k1, k2⟩
        simp only [spec_FlatOf.l0, rd_int _ _ hi2, spec_NeedOf_v, Option.bind_some]
        rw [if_pos (by omega), if_pos (by omega), if_pos e, if_neg hz, if_pos h0, if_pos (by omega)]
    · have hd1 : needB l[i] = 1 := by rw [e]; rfl
      rw [hd1] at hle
      obtain ⟨r, k1, k2⟩ := go out (now ++ [⟨(rd_T52 pts n).f0, (rd_T52 pts n).f1⟩]) (by omega) hx (by simp) (by simp; omega)
      refine ⟨r, Ev.step (fun k => ?_) k1, k2⟩
      simp only [spec_FlatOf.l0, rd_int _ _ hi2, spec_NeedOf_v, Option.bind_some]
      rw [if_pos (by omega), if_pos (by omega), if_neg (by omega), if_pos e, if_pos h0, if_pos (by omega), if_pos (by omega)]
    · have hd1 : needB l[i] = 2 := by rw [e]; rfl
      have hip := hi0 (by omega)
      have hwl := hw hip
      obtain ⟨r, k1, k2⟩ := flat_quad l pts hn hp out i hi2 n (rd_T52 now ((now.length : Int) - 1)).f0 (rd_T52 now ((now.length : Int) - 1)).f1 h0 (by omega) (needB l[i]) rfl (fun now' q1 q2 => go out now' (by omega) hx q1 q2) 4 1 now (by omega) (by omega) hwl (by omega)
      refine ⟨r, Ev.step (fun k => ?_) k1, k2⟩
      simp only [spec_FlatOf.l0, rd_int _ _ hi2, hlast hip]
      rw [if_pos (by omega), if_pos (by omega), if_neg (by omega), if_neg (by omega), if_pos e, if_pos (by omega), if_pos (by omega)]
    · have hd1 : needB l[i] = 3 := by rw [e]; rfl
      have hip := hi0 (by omega)
      have hwl := hw hip
      obtain ⟨r, k1, k2⟩ := flat_cubic l pts hn hp out i hi2 n (rd_T52 now ((now.length : Int) - 1)).f0 (rd_T52 now ((now.length : Int) - 1)).f1 h0 (by omega) (needB l[i]) rfl (fun now' q1 q2 => go out now' (by omega) hx q1 q2) 8 1 now (by omega) (by omega) hwl (by omega)
      refine ⟨r, Ev.step (fun k => ?_) k1, k2⟩
      simp only [spec_FlatOf.l0, rd_int _ _ hi2, hlast hip]
      rw [if_pos (by omega), if_pos (by omega), if_neg (by omega), if_neg (by omega), if_neg (by omega), if_pos e, if_pos (by omega), if_pos (by omega)]
    · have hip := hi0 (by omega)
      have hwl := hw hip
      by_cases hc : (!(((rd_T52 now 0).f0) == ((rd_T52 now ((now.length : Int) - 1)).f0)) || (!(((rd_T52 now 0).f1) == ((rd_T52 now ((now.length : Int) - 1)).f1)))) = true
      · obtain ⟨r, k1, k2⟩ := go out (now ++ [⟨(rd_T52 now 0).f0, (rd_T52 now 0).f1⟩]) (by omega) hx (by simp) (by simp; omega)
        refine ⟨r, Ev.step (fun k => ?_) k1, k2⟩
        simp only [spec_FlatOf.l0, rd_int _ _ hi2, hlast hip, spec_NeedOf_v, Option.bind_some]
        rw [if_pos (by omega), if_pos (by omega), if_neg (by omega), if_neg (by omega), if_neg (by omega), if_neg (by omega), if_pos e, if_pos (by omega), if_pos (by omega), if_pos (by omega), if_pos hc, if_pos (by omega)]
      · obtain ⟨r, k1, k2⟩ := go out now (by omega) hx hwl (by omega)
        refine ⟨r, Ev.step (fun k => ?_) k1, k2⟩
        simp only [spec_FlatOf.l0, rd_int _ _ hi2, hlast hip, spec_NeedOf_v, Option.bind_some]
        rw [if_pos (by omega), if_pos (by omega), if_neg (by omega), if_neg (by omega), if_neg (by omega), if_neg (by omega), if_pos e, if_pos (by omega), if_pos (by omega), if_pos (by omega), if_neg hc]
end
theorem FlatOf_v (l : List Int) (pts : List S52) : ∃ r, Ev (fun k => spec_FlatOf.f k l pts) r ∧ flatGood r := by
  unfold spec_FlatOf.f
  simp only [Option.bind_some]
  have hp := spec_PathOk_v l pts
  cases hB : pathB l pts with
  | false =>
    rw [hB] at hp
    refine ⟨[], Ev.bind hp ?_, by simp [flatGood]⟩
    exact Ev.now _
  | true =>
    rw [hB] at hp
    unfold pathB at hB
    simp only [Bool.and_eq_true, decide_eq_true_eq] at hB
    obtain ⟨b1, b2, _, b3⟩ := hB
    have hv : verbsB 5 l 0 = some (pts.length : Int) := by
      cases hq : verbsB 5 l 0 with
      | none => rw [hq] at b3; simp [endB] at b3
      | some m => rw [hq] at b3; simp [endB] at b3; rw [b3]
    obtain ⟨r, k1, k2⟩ := flat_l l pts b2 b1 l.length 0 0 [] [] (by omega) (by omega) hv (fun h => absurd h (by omega)) (by simp) (by simp) (by simp)
    refine ⟨r, Ev.bind hp ?_, k2⟩
    exact k1

/-! rd_impl_PointSS -/
theorem rd_impl_PointSS (xs : List (List S52)) (i : Nat) (h : i < xs.length) : rd_L3 xs (i : Int) = xs[i] := by
  unfold rd_L3
  simp [h]

/-! nearP -/
def nearP (a b : Int) : Prop := (-33554432 ≤ a ∧ a ≤ 33554432) ∧ (-33554432 ≤ b ∧ b ≤ 33554432)
instance (a b : Int) : Decidable (nearP a b) := by unfold nearP; infer_instance

/-! windV -/
def edgeV (ax ay bx by_ px py : Int) : Int :=
  if ay ≤ py ∧ py < by_ ∧ (bx - ax) * (py - ay) - (px - ax) * (by_ - ay) > 0 then 1
  else if by_ ≤ py ∧ py < ay ∧ (bx - ax) * (py - ay) - (px - ax) * (by_ - ay) < 0 then -1 else 0
theorem edgeV_bd (ax ay bx by_ px py : Int) : -1 ≤ edgeV ax ay bx by_ px py ∧ edgeV ax ay bx by_ px py ≤ 1 := by
  unfold edgeV
  split
  · omega
  · split <;> omega
def ptAt (l : List S52) (i : Nat) : S52 := l.getD i z52
def windFrom (l : List S52) (px py : Int) : Nat → Nat → Int
  | 0, _ => 0
  | d + 1, i => edgeV (ptAt l i).f0 (ptAt l i).f1 (ptAt l ((i + 1) % l.length)).f0 (ptAt l ((i + 1) % l.length)).f1 px py + windFrom l px py d (i + 1)
theorem windFrom_bd (l : List S52) (px py : Int) : ∀ (d i : Nat), -(d : Int) ≤ windFrom l px py d i ∧ windFrom l px py d i ≤ d
  | 0, _ => by simp [windFrom]
  | d + 1, i => by
    have h := windFrom_bd l px py d (i + 1)
    have e := edgeV_bd (ptAt l i).f0 (ptAt l i).f1 (ptAt l ((i + 1) % l.length)).f0 (ptAt l ((i + 1) % l.length)).f1 px py
    rw [windFrom]
    omega
def allNear (l : List S52) : Prop := ∀ i, i < l.length → nearP (ptAt l i).f0 (ptAt l i).f1
instance (l : List S52) : Decidable (allNear l) := by unfold allNear; infer_instance
def windV (l : List S52) (px py : Int) : Int := if nearP px py ∧ allNear l then windFrom l px py l.length 0 else 0
theorem rd_ptAt (l : List S52) (i : Nat) : rd_T52 l (i : Int) = ptAt l i := rfl
theorem mul_bd {x y : Int} (hx : -67108864 ≤ x) (hx2 : x ≤ 67108864) (hy : -67108864 ≤ y) (hy2 : y ≤ 67108864) : -4503599627370496 ≤ x * y ∧ x * y ≤ 4503599627370496 := by
  have h1 : 0 ≤ (67108864 - x) * (67108864 + y) := Int.mul_nonneg (by omega) (by omega)
  have h2 : 0 ≤ (67108864 + x) * (67108864 - y) := Int.mul_nonneg (by omega) (by omega)
  have h3 : 0 ≤ (67108864 - x) * (67108864 - y) := Int.mul_nonneg (by omega) (by omega)
  have h4 : 0 ≤ (67108864 + x) * (67108864 + y) := Int.mul_nonneg (by omega) (by omega)
  simp only [Int.sub_mul, Int.mul_sub, Int.add_mul, Int.mul_add] at h1 h2 h3 h4
  omega
/-- What both compute as the side of an edge, without wraps. -/
theorem sideW {ax ay bx by_ px py : Int} (ha : nearP ax ay) (hb : nearP bx by_) (hp : nearP px py) :
    wrap64 ((wrap64 ((wrap64 (bx - ax)) * (wrap64 (py - ay)))) - (wrap64 ((wrap64 (px - ax)) * (wrap64 (by_ - ay))))) = (bx - ax) * (py - ay) - (px - ax) * (by_ - ay) := by
  obtain ⟨⟨a1, a2⟩, a3, a4⟩ := ha
  obtain ⟨⟨b1, b2⟩, b3, b4⟩ := hb
  obtain ⟨⟨p1, p2⟩, p3, p4⟩ := hp
  have m1 := mul_bd (x := bx - ax) (y := py - ay) (by omega) (by omega) (by omega) (by omega)
  have m2 := mul_bd (x := px - ax) (y := by_ - ay) (by omega) (by omega) (by omega) (by omega)
  rw [w64 (x := bx - ax) (by omega) (by omega), w64 (x := py - ay) (by omega) (by omega), w64 (x := px - ax) (by omega) (by omega), w64 (x := by_ - ay) (by omega) (by omega)]
  rw [w64 (x := (bx - ax) * (py - ay)) (by omega) (by omega), w64 (x := (px - ax) * (by_ - ay)) (by omega) (by omega), w64 (by omega) (by omega)]
/-- The next place, around the list. -/
theorem nextW {i n : Nat} (h : i < n) (hn : n ≤ 4611686018427387904) : Int.tmod (wrap64 ((i : Int) + 1)) (n : Int) = (((i + 1) % n : Nat) : Int) := by
  rw [step64 h hn, Int.tmod_eq_emod_of_nonneg (by omega)]
  omega
theorem cnt_up {n i d e s : Int} (hn : -i ≤ n) (hn2 : n ≤ i) (hi : 0 ≤ i) (hi2 : i ≤ 1048576) : wrap64 (n + 1) = n + 1 ∧ wrap64 (n - 1) = n - 1 ∧ wrap64 (n + 1 - 1) = n := ⟨w64 (by omega) (by omega), w64 (by omega) (by omega), by rw [show n + 1 - 1 = n by omega]; exact w64 (by omega) (by omega)⟩
theorem not_allNear {x0 : List S52} (h : ¬ allNear x0) : ∃ j, 0 ≤ j ∧ j < x0.length ∧ ¬ nearP (ptAt x0 j).f0 (ptAt x0 j).f1 := by
  apply Classical.byContradiction
  intro hc
  apply h
  intro i hi
  apply Classical.byContradiction
  intro hn
  exact hc ⟨i, Nat.zero_le _, hi, hn⟩

/-! Covers_b -/
def windSum (px py : Int) : List (List S52) → Int
  | [] => 0
  | x :: xs => windV x px py + windSum px py xs
theorem windV_bd (x : List S52) (px py : Int) (h : x.length ≤ 1048576) : -1048576 ≤ windV x px py ∧ windV x px py ≤ 1048576 := by
  unfold windV
  split
  · have := windFrom_bd x px py x.length 0
    omega
  · omega
theorem windSum_bd (px py : Int) : ∀ (l : List (List S52)), (∀ x ∈ l, x.length ≤ 1048576) → -(1048576 * (l.length : Int)) ≤ windSum px py l ∧ windSum px py l ≤ 1048576 * (l.length : Int)
  | [], _ => by simp [windSum]
  | x :: xs, h => by
    have h1 := windSum_bd px py xs (fun y hy => h y (List.mem_cons_of_mem _ hy))
    have h2 := windV_bd x px py (h x List.mem_cons_self)
    rw [windSum, List.length_cons]
    omega
def coversB (l : List (List S52)) (even : Bool) (px py : Int) : Bool := if even = true then (Int.tmod (windSum px py l) 2) != 0 else windSum px py l != 0

/-! spec_l10Near -/
theorem spec_l10Near_v (a b : Int) : spec_l10Near.f a b = some (decide (nearP a b)) := by
  unfold spec_l10Near.f nearP
  simp only [spec_l01In_v, Option.bind_some, decide_eq_true_eq]
  repeat' split
  all_goals first | (refine congrArg some (decide_eq_decide.mpr ?_); omega) | (refine congrArg some (Eq.symm (decide_eq_false ?_)); omega)

/-! spec_WindOf -/
theorem spec_WindOf_j2 {x0 : List S52} {n i s px py ax ay bx by_ r : Int} {c : Bool}
    (h : Ev (fun k => spec_WindOf.l0 k x0 (if c = true then (if by_ ≤ py ∧ py < ay ∧ s < 0 then wrap64 (wrap64 (n + 1) - 1) else wrap64 (n + 1)) else (if by_ ≤ py ∧ py < ay ∧ s < 0 then wrap64 (n - 1) else n)) (wrap64 (i + 1)) px py) r) :
    Ev (fun k => spec_WindOf.j2 k x0 n i s c px py ax ay bx by_) r := by
  refine Ev.step (fun k => ?_) h
  simp only [spec_WindOf.j2]
  by_cases h1 : c = true <;> by_cases h2 : by_ ≤ py <;> by_cases h3 : py < ay <;> by_cases h4 : s < 0 <;> simp [h1, h2, h3, h4]
theorem spec_WindOf_j1 {x0 : List S52} {n px py ax ay bx by_ r : Int} {i : Nat} (ha : nearP ax ay) (hb : nearP bx by_) (hp : nearP px py) (hn : -(i : Int) ≤ n) (hn2 : n ≤ i) (hi : i < x0.length) (hl : x0.length ≤ 1048576)
    (h : Ev (fun k => spec_WindOf.l0 k x0 (n + edgeV ax ay bx by_ px py) ((i + 1 : Nat) : Int) px py) r) :
    Ev (fun k => spec_WindOf.j1 k x0 n (i : Int) false px py ax ay bx by_) r := by
  obtain ⟨u1, u2, u3⟩ := cnt_up (d := 0) (e := 0) (s := 0) hn hn2 (by omega) (by omega)
  have key : ∀ c : Bool, (c = true ↔ ay ≤ py ∧ py < by_ ∧ (bx - ax) * (py - ay) - (px - ax) * (by_ - ay) > 0) →
      Ev (fun k => spec_WindOf.j2 k x0 n (i : Int) ((bx - ax) * (py - ay) - (px - ax) * (by_ - ay)) c px py ax ay bx by_) r := by
    intro c hc
    refine spec_WindOf_j2 ?_
    rw [step64 hi (by omega)]
    have e : (if c = true then (if by_ ≤ py ∧ py < ay ∧ (bx - ax) * (py - ay) - (px - ax) * (by_ - ay) < 0 then wrap64 (wrap64 (n + 1) - 1) else wrap64 (n + 1)) else (if by_ ≤ py ∧ py < ay ∧ (bx - ax) * (py - ay) - (px - ax) * (by_ - ay) < 0 then wrap64 (n - 1) else n)) = n + edgeV ax ay bx by_ px py := by
      rw [u1, u2, u3]
      unfold edgeV
      by_cases q : c = true
      · rw [if_pos q, if_pos (hc.mp q), if_neg (by have := hc.mp q; omega)]
      · rw [if_neg q, if_neg (fun z => q (hc.mpr z))]
        split <;> omega
    rw [e]
    exact h
  by_cases h1 : ay ≤ py
  · by_cases h2 : py < by_
    · refine Ev.step (fun k => ?_) (key (decide ((bx - ax) * (py - ay) - (px - ax) * (by_ - ay) > 0)) (by simp [h1, h2]))
      simp only [spec_WindOf.j1]
      rw [if_neg (by decide), if_pos h1, if_pos h2, sideW ha hb hp]
    · refine Ev.step (fun k => ?_) (key false (by simp [h2]))
      simp only [spec_WindOf.j1]
      rw [if_neg (by decide), if_pos h1, if_neg h2, sideW ha hb hp]
  · refine Ev.step (fun k => ?_) (key false (by simp [h1]))
    simp only [spec_WindOf.j1]
    rw [if_neg (by decide), if_neg h1, sideW ha hb hp]
theorem spec_WindOf_l {x0 : List S52} {px py : Int} (hp : nearP px py) (hl : x0.length ≤ 1048576) (hN : allNear x0) : ∀ (d i : Nat) (n : Int), i + d = x0.length → -(i : Int) ≤ n → n ≤ i →
    Ev (fun k => spec_WindOf.l0 k x0 n (i : Int) px py) (n + windFrom x0 px py d i) := by
  intro d
  induction d with
  | zero =>
    intro i n hi h1 h2
    refine ev_done (fun k => ?_)
    simp only [spec_WindOf.l0]
    rw [if_neg (by omega)]
    simp [windFrom]
  | succ d ih =>
    intro i n hi h1 h2
    have hi2 : i < x0.length := by omega
    have hm : (i + 1) % x0.length < x0.length := Nat.mod_lt _ (by omega)
    have ha := hN i hi2
    have hb := hN _ hm
    have e := edgeV_bd (ptAt x0 i).f0 (ptAt x0 i).f1 (ptAt x0 ((i + 1) % x0.length)).f0 (ptAt x0 ((i + 1) % x0.length)).f1 px py
    have h := ih (i + 1) (n + edgeV (ptAt x0 i).f0 (ptAt x0 i).f1 (ptAt x0 ((i + 1) % x0.length)).f0 (ptAt x0 ((i + 1) % x0.length)).f1 px py) (by omega) (by omega) (by omega)
    rw [Int.add_assoc] at h
    refine Ev.step (fun k => ?_) (spec_WindOf_j1 ha hb hp h1 h2 hi2 hl h)
    simp only [spec_WindOf.l0]
    rw [if_pos (by omega), if_pos (by omega), if_neg (by omega), nextW hi2 (by omega), if_pos (by omega), if_pos (by omega), rd_ptAt, rd_ptAt]
    simp only [spec_l10Near_v, Option.bind_some]
    rw [if_pos (decide_eq_true ha), decide_eq_true hb]
    rfl
theorem spec_WindOf_bad {x0 : List S52} {px py : Int} (hp : nearP px py) (hl : x0.length ≤ 1048576) : ∀ (d i : Nat) (n : Int), i + d = x0.length → -(i : Int) ≤ n → n ≤ i → (∃ j, i ≤ j ∧ j < x0.length ∧ ¬ nearP (ptAt x0 j).f0 (ptAt x0 j).f1) →
    Ev (fun k => spec_WindOf.l0 k x0 n (i : Int) px py) 0 := by
  intro d
  induction d with
  | zero =>
    intro i n hi h1 h2 hj
    obtain ⟨j, hj⟩ := hj
    omega
  | succ d ih =>
    intro i n hi h1 h2 hj
    have hi2 : i < x0.length := by omega
    by_cases ha : nearP (ptAt x0 i).f0 (ptAt x0 i).f1
    · by_cases hb : nearP (ptAt x0 ((i + 1) % x0.length)).f0 (ptAt x0 ((i + 1) % x0.length)).f1
      · have e := edgeV_bd (ptAt x0 i).f0 (ptAt x0 i).f1 (ptAt x0 ((i + 1) % x0.length)).f0 (ptAt x0 ((i + 1) % x0.length)).f1 px py
        have h := ih (i + 1) (n + edgeV (ptAt x0 i).f0 (ptAt x0 i).f1 (ptAt x0 ((i + 1) % x0.length)).f0 (ptAt x0 ((i + 1) % x0.length)).f1 px py) (by omega) (by omega) (by omega) (by
          obtain ⟨j, j1, j2, j3⟩ := hj
          refine ⟨j, ?_, j2, j3⟩
          rcases Nat.lt_or_ge i j with q | q
          · omega
          · obtain rfl : i = j := by omega
            exact absurd ha j3)
        refine Ev.step (fun k => ?_) (spec_WindOf_j1 ha hb hp h1 h2 hi2 hl h)
        simp only [spec_WindOf.l0]
        rw [if_pos (by omega), if_pos (by omega), if_neg (by omega), nextW hi2 (by omega), if_pos (by omega), if_pos (by have := Nat.mod_lt (i + 1) (y := x0.length) (by omega); omega), rd_ptAt, rd_ptAt]
        simp only [spec_l10Near_v, Option.bind_some]
        rw [if_pos (decide_eq_true ha), decide_eq_true hb]
        rfl
      · refine Ev.step (f := fun k => spec_WindOf.j1 k x0 n (i : Int) true px py (ptAt x0 i).f0 (ptAt x0 i).f1 (ptAt x0 ((i + 1) % x0.length)).f0 (ptAt x0 ((i + 1) % x0.length)).f1) (fun k => ?_) (ev_done (fun k => by simp only [spec_WindOf.j1, if_true]))
        simp only [spec_WindOf.l0]
        rw [if_pos (by omega), if_pos (by omega), if_neg (by omega), nextW hi2 (by omega), if_pos (by omega), if_pos (by have := Nat.mod_lt (i + 1) (y := x0.length) (by omega); omega), rd_ptAt, rd_ptAt]
        simp only [spec_l10Near_v, Option.bind_some]
        rw [if_pos (decide_eq_true ha), decide_eq_false hb]
        rfl
    · refine Ev.step (f := fun k => spec_WindOf.j1 k x0 n (i : Int) true px py (ptAt x0 i).f0 (ptAt x0 i).f1 (ptAt x0 ((i + 1) % x0.length)).f0 (ptAt x0 ((i + 1) % x0.length)).f1) (fun k => ?_) (ev_done (fun k => by simp only [spec_WindOf.j1, if_true]))
      simp only [spec_WindOf.l0]
      rw [if_pos (by omega), if_pos (by omega), if_neg (by omega), nextW hi2 (by omega), if_pos (by omega), if_pos (by have := Nat.mod_lt (i + 1) (y := x0.length) (by omega); omega), rd_ptAt, rd_ptAt]
      simp only [spec_l10Near_v, Option.bind_some]
      rw [if_neg (by simpa using ha)]
theorem spec_WindOf_v (x0 : List S52) (px py : Int) (hl : x0.length ≤ 1048576) : Ev (fun k => spec_WindOf.f k x0 px py) (windV x0 px py) := by
  unfold windV
  by_cases hp : nearP px py
  · have e : ∀ k, spec_WindOf.f k x0 px py = spec_WindOf.l0 k x0 0 ((0 : Nat) : Int) px py := fun k => by
      unfold spec_WindOf.f
      rw [spec_l10Near_v, Option.bind_some, if_pos (decide_eq_true hp)]
      rfl
    by_cases hN : allNear x0
    · rw [if_pos ⟨hp, hN⟩]
      have h := spec_WindOf_l hp hl hN x0.length 0 0 (by omega) (by omega) (by omega)
      rw [Int.zero_add] at h
      exact Ev.congr e h
    · rw [if_neg (fun z => hN z.2)]
      exact Ev.congr e (spec_WindOf_bad hp hl x0.length 0 0 (by omega) (by omega) (by omega) (not_allNear hN))
  · rw [if_neg (fun z => hp z.1)]
    refine Ev.congr (fun k => ?_) (Ev.now 0)
    unfold spec_WindOf.f
    rw [spec_l10Near_v, Option.bind_some, if_neg (by simpa using hp)]

/-! Covers_s -/
theorem spec_Covers_l (x0 : List (List S52)) (even : Bool) (px py : Int) (hn : x0.length ≤ 1048576) (hm : ∀ x ∈ x0, x.length ≤ 1048576) : ∀ (d i : Nat) (n : Int), i + d = x0.length → -(1048576 * (i : Int)) ≤ n → n ≤ 1048576 * (i : Int) →
    Ev (fun k => spec_Covers.l0 k x0 even n (i : Int) px py) (if even = true then (Int.tmod (n + windSum px py (x0.drop i)) 2) != 0 else (n + windSum px py (x0.drop i)) != 0) := by
  intro d
  induction d with
  | zero =>
    intro i n hi h1 h2
    refine ev_done (fun k => ?_)
    simp only [spec_Covers.l0]
    rw [if_neg (by omega), List.drop_of_length_le (by omega), windSum, Int.add_zero]
    split <;> rfl
  | succ d ih =>
    intro i n hi h1 h2
    have hi2 : i < x0.length := by omega
    have hb := windV_bd x0[i] px py (hm _ (List.getElem_mem hi2))
    rw [List.drop_eq_getElem_cons hi2, windSum]
    have q := ih (i + 1) (n + windV x0[i] px py) (by omega) (by omega) (by omega)
    rw [Int.add_assoc] at q
    refine Ev.step (f := fun k => (spec_WindOf.f k x0[i] px py).bind fun t => spec_Covers.l0 k x0 even (wrap64 (n + t)) ((i + 1 : Nat) : Int) px py) (fun k => ?_) (Ev.bind (spec_WindOf_v _ px py (hm _ (List.getElem_mem hi2))) ?_)
    · simp only [spec_Covers.l0]
      rw [if_pos (by omega), if_pos (by omega), step64 hi2 (by omega), rd_impl_PointSS _ _ hi2]
    · simp only [w64 (x := n + windV x0[i] px py) (by omega) (by omega)]
      exact q
theorem spec_Covers_v (x0 : List (List S52)) (even : Bool) (px py : Int) (hn : x0.length ≤ 1048576) (hm : ∀ x ∈ x0, x.length ≤ 1048576) : Ev (fun k => spec_Covers.f k x0 even px py) (coversB x0 even px py) := by
  have q := spec_Covers_l x0 even px py hn hm x0.length 0 0 (by omega) (by omega) (by omega)
  rw [Int.zero_add] at q
  exact q

/-! MaskN -/
def maskN (b0 b1 b2 b3 : Bool) : Int := if b3 = true then (if b2 = true then (if b1 = true then (if b0 = true then 0 + 1 else 0) + 2 else (if b0 = true then 0 + 1 else 0)) + 4 else (if b1 = true then (if b0 = true then 0 + 1 else 0) + 2 else (if b0 = true then 0 + 1 else 0))) + 8 else (if b2 = true then (if b1 = true then (if b0 = true then 0 + 1 else 0) + 2 else (if b0 = true then 0 + 1 else 0)) + 4 else (if b1 = true then (if b0 = true then 0 + 1 else 0) + 2 else (if b0 = true then 0 + 1 else 0)))
theorem maskN_bd (b0 b1 b2 b3 : Bool) : 0 ≤ maskN b0 b1 b2 b3 ∧ maskN b0 b1 b2 b3 ≤ 15 := by
  cases b0 <;> cases b1 <;> cases b2 <;> cases b3 <;> decide +kernel

/-! MaskAtS -/
section
variable (ls : List (List S52)) (e : Bool) (hn : ls.length ≤ 1048576) (hm : ∀ x ∈ ls, x.length ≤ 1048576)
include hn hm
theorem spec_mask_s (x y n i v px py : Int) (b : Bool) (h0 : 0 ≤ i) (h1 : i < 4) (hpx : wrap64 ((wrap64 ((wrap64 (256 * x)) + 64)) + (wrap64 (128 * (Int.tmod i 2)))) = px) (hpy : wrap64 ((wrap64 ((wrap64 (256 * y)) + 64)) + (wrap64 (128 * (wrap64 (Int.tdiv i 2))))) = py)
    (hv : rd [1, 2, 4, 8] i = v) (hb : coversB ls e px py = b) (hw : wrap64 (n + v) = n + v) {r : Int} (h : Ev (fun k => spec_MaskAt.l0 k ls e x y (if b = true then n + v else n) (i + 1)) r) : Ev (fun k => spec_MaskAt.l0 k ls e x y n i) r := by
  refine Ev.step (fun k => rfl) ?_
  simp only [spec_MaskAt.l0, if_pos h1, hpx, hpy]
  refine Ev.bind (spec_Covers_v ls e px py hn hm) ?_
  rw [hb]
  cases b with
  | true =>
    simp only [if_true, Option.bind_some, hv, hw, w64 (x := i + 1) (by omega) (by omega)]
    simp only [if_true] at h
    simp only [if_pos h0, if_pos (show i < (([1, 2, 4, 8] : List Int).length : Int) from h1)]
    exact h
  | false =>
    simp only [Bool.false_eq_true, if_false, w64 (x := i + 1) (by omega) (by omega)]
    simp only [Bool.false_eq_true, if_false] at h
    exact h
theorem spec_mask_val (x y : Int) (hx : -2000 ≤ x ∧ x ≤ 2000) (hy : -2000 ≤ y ∧ y ≤ 2000) : Ev (fun k => spec_MaskAt.l0 k ls e x y 0 0) (maskN (coversB ls e (256 * x + 64) (256 * y + 64)) (coversB ls e (256 * x + 64 + 128) (256 * y + 64)) (coversB ls e (256 * x + 64) (256 * y + 64 + 128)) (coversB ls e (256 * x + 64 + 128) (256 * y + 64 + 128))) := by
  have e1 : wrap64 (256 * x) = 256 * x := w64 (by omega) (by omega)
  have e2 : wrap64 (256 * x + 64) = 256 * x + 64 := w64 (by omega) (by omega)
  have e3 : wrap64 (256 * x + 64 + 128) = 256 * x + 64 + 128 := w64 (by omega) (by omega)
  have f1 : wrap64 (256 * y) = 256 * y := w64 (by omega) (by omega)
  have f2 : wrap64 (256 * y + 64) = 256 * y + 64 := w64 (by omega) (by omega)
  have f3 : wrap64 (256 * y + 64 + 128) = 256 * y + 64 + 128 := w64 (by omega) (by omega)
  have x0 : ∀ z : Int, wrap64 (128 * z) = 0 → wrap64 ((wrap64 ((wrap64 (256 * x)) + 64)) + (wrap64 (128 * z))) = 256 * x + 64 := fun z hz => by rw [hz, e1, e2, Int.add_zero, e2]
  have x1 : ∀ z : Int, wrap64 (128 * z) = 128 → wrap64 ((wrap64 ((wrap64 (256 * x)) + 64)) + (wrap64 (128 * z))) = 256 * x + 64 + 128 := fun z hz => by rw [hz, e1, e2, e3]
  have y0 : ∀ z : Int, wrap64 (128 * z) = 0 → wrap64 ((wrap64 ((wrap64 (256 * y)) + 64)) + (wrap64 (128 * z))) = 256 * y + 64 := fun z hz => by rw [hz, f1, f2, Int.add_zero, f2]
  have y1 : ∀ z : Int, wrap64 (128 * z) = 128 → wrap64 ((wrap64 ((wrap64 (256 * y)) + 64)) + (wrap64 (128 * z))) = 256 * y + 64 + 128 := fun z hz => by rw [hz, f1, f2, f3]
  obtain ⟨b0, h0⟩ : ∃ b, coversB ls e (256 * x + 64) (256 * y + 64) = b := ⟨_, rfl⟩
  obtain ⟨b1, h1⟩ : ∃ b, coversB ls e (256 * x + 64 + 128) (256 * y + 64) = b := ⟨_, rfl⟩
  obtain ⟨b2, h2⟩ : ∃ b, coversB ls e (256 * x + 64) (256 * y + 64 + 128) = b := ⟨_, rfl⟩
  obtain ⟨b3, h3⟩ : ∃ b, coversB ls e (256 * x + 64 + 128) (256 * y + 64 + 128) = b := ⟨_, rfl⟩
  have fin_s : ∀ n : Int, Ev (fun k => spec_MaskAt.l0 k ls e x y n (3 + 1)) n := fun n => ev_done (fun k => by simp only [spec_MaskAt.l0]; rw [if_neg (by omega)])
  rw [h0, h1, h2, h3]
  unfold maskN
  refine spec_mask_s ls e hn hm x y 0 0 1 _ _ b0 (by omega) (by omega) (x0 _ (by decide +kernel)) (y0 _ (by decide +kernel)) rfl h0 (by decide +kernel) ?_
  refine spec_mask_s ls e hn hm x y _ (0 + 1) 2 _ _ b1 (by omega) (by omega) (x1 _ (by decide +kernel)) (y0 _ (by decide +kernel)) rfl h1 (by cases b0 <;> decide +kernel) ?_
  refine spec_mask_s ls e hn hm x y _ (0 + 1 + 1) 4 _ _ b2 (by omega) (by omega) (x0 _ (by decide +kernel)) (y1 _ (by decide +kernel)) rfl h2 (by cases b0 <;> cases b1 <;> decide +kernel) ?_
  refine spec_mask_s ls e hn hm x y _ (0 + 1 + 1 + 1) 8 _ _ b3 (by omega) (by omega) (x1 _ (by decide +kernel)) (y1 _ (by decide +kernel)) rfl h3 (by cases b0 <;> cases b1 <;> cases b2 <;> decide +kernel) ?_
  exact fin_s _
theorem MaskAt_s (x y : Int) : ∃ r : Int, 0 ≤ r ∧ r ≤ 15 ∧ Ev (fun k => spec_MaskAt.f k ls e x y) r := by
  unfold spec_MaskAt.f
  simp only [spec_l01In_v, Option.bind_some]
  have hno : Ev (fun k => spec_MaskAt.j0 k ls e x y true) 0 := ev_done (fun k => rfl)
  by_cases hx : -2000 ≤ x ∧ x ≤ 2000
  · rw [decide_eq_true hx]
    simp only [if_true]
    by_cases hy : -2000 ≤ y ∧ y ≤ 2000
    · rw [decide_eq_true hy]
      have hb := maskN_bd (coversB ls e (256 * x + 64) (256 * y + 64)) (coversB ls e (256 * x + 64 + 128) (256 * y + 64)) (coversB ls e (256 * x + 64) (256 * y + 64 + 128)) (coversB ls e (256 * x + 64 + 128) (256 * y + 64 + 128))
      exact ⟨_, hb.1, hb.2, Ev.step (fun k => rfl) (spec_mask_val ls e hn hm x y hx hy)⟩
    · rw [decide_eq_false hy]
      exact ⟨0, by omega, by omega, hno⟩
  · rw [decide_eq_false hx]
    exact ⟨0, by omega, by omega, hno⟩
end

/-! DrawMask -/
section
variable (ls : List (List S52)) (e : Bool) (B : Int → Int → Int) (hB : ∀ x y, Ev (fun k => spec_MaskAt.f k ls e x y) (B x y) ∧ 0 ≤ B x y ∧ B x y ≤ 15)
include hB
theorem maskS_cols (a b c d y : Int) (hc : c ≤ 2000) {R : Int × Int × Int × Int × List Int} : ∀ (n : Nat) (x : Int) (out : List Int), -2000 ≤ x → x + n = c → out.length + n ≤ 100000 →
    Ev (fun k => spec_MaskOf.l0 k ls e (wrap64 (y + 1)) a b c d a b c d (out ++ rowL B y x n)) R → Ev (fun k => spec_MaskOf.l1 k ls e y x a b c d a b c d out) R := by
  intro n
  induction n with
  | zero =>
    intro x out h0 hx ho h
    simp only [rowL, List.append_nil] at h
    refine Ev.step (fun k => ?_) h
    simp only [spec_MaskOf.l1]
    rw [if_neg (by omega)]
  | succ n ih =>
    intro x out h0 hx ho h
    have e1 : out ++ rowL B y x (n + 1) = (out ++ [B x y]) ++ rowL B y (x + 1) n := by rw [rowL, List.append_assoc]; rfl
    rw [e1] at h
    refine Ev.step (fun k => rfl) ?_
    simp only [spec_MaskOf.l1, if_pos (show x < c by omega)]
    refine Ev.bind (hB x y).1 ?_
    simp only [if_pos (show out.length < 17592186044416 by omega), w64 (x := x + 1) (by omega) (by omega)]
    exact ih (x + 1) (out ++ [B x y]) (by omega) (by omega) (by simp; omega) h
theorem maskS_rows (a b c d : Int) (w : Nat) (ha : -2000 ≤ a) (hc : c ≤ 2000) (hd : d ≤ 2000) (hw : (w : Int) = c - a) (hw60 : w ≤ 60) : ∀ (m : Nat) (y : Int) (out : List Int), -2000 ≤ y → y + m = d → out.length + 60 * m ≤ 100000 →
    Ev (fun k => spec_MaskOf.l0 k ls e y a b c d a b c d out) (a, b, c, d, out ++ gridL B a w y m) := by
  intro m
  induction m with
  | zero =>
    intro y out h0 hy ho
    simp only [gridL, List.append_nil]
    refine ev_done (fun k => ?_)
    simp only [spec_MaskOf.l0]
    rw [if_neg (by omega)]
  | succ m ih =>
    intro y out h0 hy ho
    have e1 : wrap64 (y + 1) = y + 1 := w64 (by omega) (by omega)
    have e2 : out ++ gridL B a w y (m + 1) = (out ++ rowL B y a w) ++ gridL B a w (y + 1) m := by rw [gridL, List.append_assoc]
    have i1 := ih (y + 1) (out ++ rowL B y a w) (by omega) (by omega) (by rw [List.length_append, rowL_len]; omega)
    rw [← e2, ← e1] at i1
    refine Ev.step (fun k => ?_) (maskS_cols ls e B hB a b c d y hc (R := (a, b, c, d, out ++ gridL B a w y (m + 1))) w a out ha (by omega) (by omega) i1)
    simp only [spec_MaskOf.l0]
    rw [if_pos (by omega)]
end
def drawnM (a b c d : Int) (L : List Int) : Prop := maskBoxP a b c d ∧ (L.length : Int) = (c - a) * (d - b) ∧ allBits L = true ∧ (-2 ≤ a ∧ -2 ≤ b ∧ c ≤ 11 ∧ d ≤ 11)
theorem bits_of {L : List Int} (h : ∀ x ∈ L, 0 ≤ x ∧ x ≤ 15) : allBits L = true := by
  unfold allBits
  exact List.all_eq_true.mpr (fun x hx => by simpa using h x hx)
theorem bits_mem {L : List Int} (h : allBits L = true) : ∀ x ∈ L, 0 ≤ x ∧ x ≤ 15 := by
  intro x hx
  unfold allBits at h
  simpa using List.all_eq_true.mp h x hx
section
variable (l : List Int) (hn : l.length ≤ 1048576)
include hn
theorem fill_l (a b c d : Int) : ∀ (n i : Nat) (L : List Int) (p s : Int), i + n = L.length → L.length ≤ 3600 → allBits L = true → 0 ≤ p → p ≤ l.length → ∃ L' q t, Ev (fun k => spec_l11Mask.l0 k (i : Int) l p s a b c d L) (a, b, c, d, L', q, t) ∧ L'.length = L.length ∧ allBits L' = true ∧ 0 ≤ q ∧ q ≤ l.length := by
  intro n
  induction n with
  | zero =>
    intro i L p s hi hl hA hp hq
    refine ⟨L, p, s, ev_done (fun k => ?_), rfl, hA, hp, hq⟩
    simp only [spec_l11Mask.l0]
    rw [if_neg (by omega)]
  | succ n ih =>
    intro i L p s hi hl hA hp hq
    have hi2 : i < L.length := by omega
    obtain ⟨j, q, t, e, hj, v, w⟩ := pick_r l p s [0, 0, 15, 15, 3, 8] hp hq hn (by simp) (by simp)
    have hv : 0 ≤ rd [0, 0, 15, 15, 3, 8] (j : Int) ∧ rd [0, 0, 15, 15, 3, 8] (j : Int) ≤ 15 := by
      rw [rd_int _ _ hj]
      have h : ∀ x ∈ ([0, 0, 15, 15, 3, 8] : List Int), 0 ≤ x ∧ x ≤ 15 := by decide
      exact h _ (List.getElem_mem hj)
    obtain ⟨L', q', t', k1, k2, k3, k4⟩ := ih (i + 1) (L.set i (rd [0, 0, 15, 15, 3, 8] (j : Int))) q t (by rw [List.length_set]; omega) (by rw [List.length_set]; exact hl) (bits_of (fun x hx => by
      rcases List.mem_or_eq_of_mem_set hx with h | rfl
      · exact bits_mem hA x h
      · exact hv)) v w
    refine ⟨L', q', t', Ev.step (fun k => ?_) k1, by rw [k2, List.length_set], k3, k4⟩
    simp only [spec_l11Mask.l0, e, Option.bind_some, step64 hi2 (by omega), Int.toNat_natCast]
    rw [if_pos (by omega), if_pos (by omega)]
/-- A drawn mask is right, and small. -/
theorem Mask_v (p s : Int) (hp : 0 ≤ p) (hq : p ≤ l.length) : ∃ a b c d L q t, Ev (fun k => spec_l11Mask.f k l p s) (a, b, c, d, L, q, t) ∧ drawnM a b c d L ∧ 0 ≤ q ∧ q ≤ l.length := by
  obtain ⟨b1, q1, t1, e1, l1, u1, v1, w1⟩ := below_r l p s 8 hp hq hn (by omega) (by omega)
  obtain ⟨b2, q2, t2, e2, l2, u2, v2, w2⟩ := below_r l q1 t1 8 v1 w1 hn (by omega) (by omega)
  obtain ⟨b3, q3, t3, e3, l3, u3, v3, w3⟩ := below_r l q2 t2 6 v2 w2 hn (by omega) (by omega)
  obtain ⟨b4, q4, t4, e4, l4, u4, v4, w4⟩ := below_r l q3 t3 6 v3 w3 hn (by omega) (by omega)
  obtain ⟨vs, ps, q5, t5, k5, f5, v5, w5⟩ := Path_v l hn q4 t4 v4 w4
  obtain ⟨fl, k6, g6⟩ := FlatOf_v vs ps
  have hfn : fl.length ≤ 1048576 := by have := g6.1; omega
  have hfm : ∀ x ∈ fl, x.length ≤ 1048576 := fun x hx => by have := g6.2 x hx; omega
  let B : Int → Int → Int := fun x y => Classical.choose (MaskAt_s fl false hfn hfm x y)
  have hB : ∀ x y, Ev (fun k => spec_MaskAt.f k fl false x y) (B x y) ∧ 0 ≤ B x y ∧ B x y ≤ 15 := fun x y => by
    obtain ⟨r0, r1, r2⟩ := Classical.choose_spec (MaskAt_s fl false hfn hfm x y)
    exact ⟨r2, r0, r1⟩
  have ea : wrap64 (b1 - 2) = b1 - 2 := w64 (by omega) (by omega)
  have eb : wrap64 (b2 - 2) = b2 - 2 := w64 (by omega) (by omega)
  have ec : wrap64 ((wrap64 ((b1 - 2) + 1)) + b3) = b1 - 2 + 1 + b3 := by rw [w64 (x := b1 - 2 + 1) (by omega) (by omega), w64 (by omega) (by omega)]
  have ed : wrap64 ((wrap64 ((b2 - 2) + 1)) + b4) = b2 - 2 + 1 + b4 := by rw [w64 (x := b2 - 2 + 1) (by omega) (by omega), w64 (by omega) (by omega)]
  generalize ha : b1 - 2 = a at ea ec
  generalize hb : b2 - 2 = b at eb ed
  generalize hc : a + 1 + b3 = c at ec
  generalize hd : b + 1 + b4 = d at ed
  have hbx : maskBoxP a b c d := ⟨by omega, by omega, by omega, by omega, by omega, by omega, by omega, by omega⟩
  obtain ⟨w, hw⟩ : ∃ w : Nat, (w : Int) = c - a := ⟨(c - a).toNat, by omega⟩
  obtain ⟨m, hm⟩ : ∃ m : Nat, (m : Int) = d - b := ⟨(d - b).toNat, by omega⟩
  have g := maskS_rows fl false B hB a b c d w (by omega) (by omega) (by omega) hw (by omega) m b [] (by omega) (by omega) (by simp; omega)
  rw [List.nil_append] at g
  have q := area_bd hbx
  have hL : ((gridL B a w b m).length : Int) = (c - a) * (d - b) := by
    rw [gridL_len, Int.natCast_mul, hw, hm, Int.mul_comm]
  have hA : allBits (gridL B a w b m) = true := bits_of (gridL_mem B (fun x y => (hB x y).2) a w m b)
  generalize gridL B a w b m = L at g hL hA
  have hM : Ev (fun k => spec_MaskOf.f k fl false a b c d) (a, b, c, d, L) := by
    simp only [spec_MaskOf.f, spec_l11Box_v, decide_eq_true hbx, Option.bind_some, if_true]
    exact g
  obtain ⟨o, q7, t7, e7, v7, w7⟩ := once_r l q5 t5 3 v5 w5 hn (by omega) (by omega)
  have hbd : -2 ≤ a ∧ -2 ≤ b ∧ c ≤ 11 ∧ d ≤ 11 := by omega
  unfold spec_l11Mask.f
  simp only [e1, e2, e3, e4, Option.bind_some, ha, hb, ea, eb, ec, ed]
  cases o with
  | true =>
    obtain ⟨L', q8, t8, k8, k9, k10, v8, w8⟩ := fill_l l hn a b c d L.length 0 L q7 t7 (by omega) (by omega) hA v7 w7
    refine ⟨a, b, c, d, L', q8, t8, ?_, ⟨hbx, by omega, k10, hbd⟩, v8, w8⟩
    refine Ev.bind k5 (Ev.bind k6 (Ev.bind hM ?_))
    simp only [e7, Option.bind_some, if_true]
    exact k8
  | false =>
    refine ⟨a, b, c, d, L, q7, t7, ?_, ⟨hbx, hL, hA, hbd⟩, v7, w7⟩
    refine Ev.bind k5 (Ev.bind k6 (Ev.bind hM ?_))
    simp only [e7, Option.bind_some, Bool.false_eq_true, if_false]
    exact Ev.now _
/-- Two drawn masks. -/
theorem DrawMasks_v : ∃ a b c d L a' b' c' d' L', Ev (fun k => spec_DrawMasks.f k l) (a, b, c, d, L, a', b', c', d', L') ∧ drawnM a b c d L ∧ drawnM a' b' c' d' L' := by
  obtain ⟨s, hs⟩ := new_v l hn
  obtain ⟨a, b, c, d, L, q1, t1, k1, g1, v1, w1⟩ := Mask_v l hn 0 s (by omega) (by omega)
  obtain ⟨a', b', c', d', L', q2, t2, k2, g2, v2, w2⟩ := Mask_v l hn q1 t1 v1 w1
  refine ⟨a, b, c, d, L, a', b', c', d', L', ?_, g1, g2⟩
  unfold spec_DrawMasks.f
  refine Ev.bind hs (Ev.bind k1 (Ev.bind k2 ?_))
  exact Ev.now _
end

/-! law_FnMeets -/
def meetOk (p q r v : Int) : Prop := (if (Int.tmod (wrap64 (Int.tdiv p v)) 2) = 1 then ((Int.tmod (wrap64 (Int.tdiv r v)) 2) == 1) != ((Int.tmod (wrap64 (Int.tdiv q v)) 2) == 1) else ((Int.tmod (wrap64 (Int.tdiv r v)) 2) == 1) != false) = false
instance (p q r v : Int) : Decidable (meetOk p q r v) := by unfold meetOk; infer_instance
theorem meet_ok : ∀ u v : Fin 16, meetOk (u.val : Int) (v.val : Int) (Go.bits .and .i64 (u.val : Int) (v.val : Int)) 1 ∧ meetOk (u.val : Int) (v.val : Int) (Go.bits .and .i64 (u.val : Int) (v.val : Int)) 2 ∧ meetOk (u.val : Int) (v.val : Int) (Go.bits .and .i64 (u.val : Int) (v.val : Int)) 4 ∧ meetOk (u.val : Int) (v.val : Int) (Go.bits .and .i64 (u.val : Int) (v.val : Int)) 8 := by decide +kernel
theorem and_zero : ∀ u : Fin 16, Go.bits .and .i64 (u.val : Int) 0 = 0 ∧ Go.bits .and .i64 0 (u.val : Int) = 0 := by decide +kernel
theorem and_self : ∀ u : Fin 16, Go.bits .and .i64 (u.val : Int) (u.val : Int) = (u.val : Int) := by decide +kernel
theorem meets_w (u v : Int) (hu : 0 ≤ u ∧ u ≤ 15) (hv : 0 ≤ v ∧ v ≤ 15) : meetOk u v (Go.bits .and .i64 u v) 1 ∧ meetOk u v (Go.bits .and .i64 u v) 2 ∧ meetOk u v (Go.bits .and .i64 u v) 4 ∧ meetOk u v (Go.bits .and .i64 u v) 8 := by
  have h := meet_ok ⟨u.toNat, by omega⟩ ⟨v.toNat, by omega⟩
  have eu : ((u.toNat : Nat) : Int) = u := by omega
  have ev : ((v.toNat : Nat) : Int) = v := by omega
  simp only [eu, ev] at h
  exact h
theorem zero_w (u : Int) (hu : 0 ≤ u ∧ u ≤ 15) : Go.bits .and .i64 u 0 = 0 ∧ Go.bits .and .i64 0 u = 0 := by
  have h := and_zero ⟨u.toNat, by omega⟩
  have eu : ((u.toNat : Nat) : Int) = u := by omega
  simp only [eu] at h
  exact h
theorem self_w (u : Int) (hu : 0 ≤ u ∧ u ≤ 15) : Go.bits .and .i64 u u = u := by
  have h := and_self ⟨u.toNat, by omega⟩
  have eu : ((u.toNat : Nat) : Int) = u := by omega
  simp only [eu] at h
  exact h
theorem sameInts_l (x0 : List Int) (hn : x0.length ≤ 1048576) : ∀ (d i : Nat), i + d = x0.length → Ev (fun k => laws_sameInts.l0 k x0 x0 (i : Int)) true := by
  intro d
  induction d with
  | zero =>
    intro i hi
    refine ev_done (fun k => ?_)
    simp only [laws_sameInts.l0]
    rw [if_neg (by omega)]
  | succ d ih =>
    intro i hi
    have hi2 : i < x0.length := by omega
    refine Ev.step (fun k => ?_) (ih (i + 1) (by omega))
    simp only [laws_sameInts.l0]
    rw [if_pos (by omega), if_pos (by omega), if_pos (by omega), step64 hi2 (by omega)]
    simp
theorem sameMask_v (a b c d : Int) (L : List Int) (hn : L.length ≤ 1048576) : Ev (fun k => laws_sameMask.f k a b c d L a b c d L) true := by
  unfold laws_sameMask.f laws_sameInts.f
  simp only [beq_self_eq_true, Bool.and_self, if_true]
  refine Ev.bind (sameInts_l L hn L.length 0 (by omega)) ?_
  exact Ev.now _
theorem gridL_congr (B C : Int → Int → Int) (h : ∀ x y, B x y = C x y) (a : Int) (w : Nat) (m : Nat) (y : Int) : gridL B a w y m = gridL C a w y m := by
  have e : B = C := funext fun x => funext fun y => h x y
  rw [e]
/-- A right mask's bits at a square. -/
theorem BitsAt_v {a b c d : Int} {L : List Int} (hb : maskBoxP a b c d) (hl : (L.length : Int) = (c - a) * (d - b)) (hA : allBits L = true) (x y : Int) : Ev (fun k => impl_BitsAt.f k a b c d L x y) (bitsP a b c d L x y) := by
  have q := area_bd hb
  obtain ⟨p1, p2, p3, p4, p5, p6, p7, p8⟩ := id hb
  have hok : maskOkB a b c d L = true := by
    unfold maskOkB
    rw [if_neg (by omega), decide_eq_true hb, decide_eq_true hl, hA]
    rfl
  have hm := impl_MaskOk_v (a := a) (b := b) (c := c) (d := d) L (by omega) (by omega) (by omega) (by omega) (by omega)
  rw [hok] at hm
  unfold impl_BitsAt.f
  refine Ev.bind hm ?_
  simp only [if_true, impl_bitsAt_v x y hb hl, Option.bind_some]
  exact Ev.now _
theorem BitsAt_none (x y : Int) : Ev (fun k => impl_BitsAt.f k 0 0 0 0 [] x y) 0 := by
  have hm := impl_MaskOk_v (a := 0) (b := 0) (c := 0) (d := 0) [] (by simp) (by omega) (by omega) (by omega) (by omega)
  rw [show maskOkB 0 0 0 0 [] = true by decide] at hm
  unfold impl_BitsAt.f
  refine Ev.bind hm ?_
  simp only [if_true, (bits_none x y).2, Option.bind_some]
  exact Ev.now _
section
variable {a b c d a' b' c' d' p q r s : Int} {L L' M : List Int} (P Q : Int → Int → Int) (hP : ∀ x y, Ev (fun k => impl_BitsAt.f k a b c d L x y) (P x y) ∧ 0 ≤ P x y ∧ P x y ≤ 15) (hQ : ∀ x y, Ev (fun k => impl_BitsAt.f k a' b' c' d' L' x y) (Q x y) ∧ 0 ≤ Q x y ∧ Q x y ≤ 15)
  (hR : ∀ x y, Ev (fun k => impl_BitsAt.f k p q r s M x y) (Go.bits .and .i64 (P x y) (Q x y))) (hS : Ev (fun k => impl_MeetMask.f k a b c d L a b c d L) (a, b, c, d, L)) (hn : L.length ≤ 3600)
include hP hQ hR hS hn
omit hP hQ hR hS hn in
theorem meets_bit (y x v : Int) (hv0 : 0 < v) (hv : v ≤ 8) {u w t : Int} (h : meetOk u w t v) (k1 : Ev (fun k => laws_FnMeets.l2 k y x u w t (2 * v) a b c d L a' b' c' d' L' p q r s M) true) : Ev (fun k => laws_FnMeets.l2 k y x u w t v a b c d L a' b' c' d' L' p q r s M) true := by
  refine Ev.step (fun k => ?_) k1
  unfold meetOk at h
  simp only [laws_FnMeets.l2, if_pos hv, if_neg (show ¬ v = 0 by omega), w64 (x := 2 * v) (by omega) (by omega)]
  by_cases q1 : (Int.tmod (wrap64 (Int.tdiv u v)) 2) = 1
  · rw [if_pos q1] at h ⊢
    rw [if_neg (by rw [h]; simp)]
  · rw [if_neg q1] at h ⊢
    rw [if_neg (by rw [h]; simp)]
omit hS hn in
theorem meets_cols (y : Int) (k0 : Ev (fun k => laws_FnMeets.l0 k (wrap64 (y + 1)) a b c d L a' b' c' d' L' p q r s M) true) : ∀ (n : Nat) (x : Int), x + n = 16 → -3 ≤ x → Ev (fun k => laws_FnMeets.l1 k y x a b c d L a' b' c' d' L' p q r s M) true := by
  intro n
  induction n with
  | zero =>
    intro x hx h0
    refine Ev.step (fun k => ?_) k0
    simp only [laws_FnMeets.l1]
    rw [if_neg (by omega)]
  | succ n ih =>
    intro x hx h0
    have h := ih (x + 1) (by omega) (by omega)
    obtain ⟨m1, m2, m3, m4⟩ := meets_w (P x y) (Q x y) (hP x y).2 (hQ x y).2
    refine Ev.step (fun k => rfl) ?_
    simp only [laws_FnMeets.l1, if_pos (show x < 16 by omega)]
    refine Ev.bind (hP x y).1 (Ev.bind (hQ x y).1 (Ev.bind (hR x y) ?_))
    refine meets_bit y x 1 (by omega) (by omega) m1 (meets_bit y x (2 * 1) (by omega) (by omega) m2 (meets_bit y x (2 * (2 * 1)) (by omega) (by omega) m3 (meets_bit y x (2 * (2 * (2 * 1))) (by omega) (by omega) m4 ?_)))
    refine Ev.step (fun k => ?_) h
    simp only [laws_FnMeets.l2]
    rw [if_neg (by omega), w64 (x := x + 1) (by omega) (by omega)]
theorem meets_rows : ∀ (n : Nat) (y : Int), y + n = 16 → -3 ≤ y → Ev (fun k => laws_FnMeets.l0 k y a b c d L a' b' c' d' L' p q r s M) true := by
  intro n
  induction n with
  | zero =>
    intro y hy h0
    refine Ev.step (fun k => rfl) ?_
    simp only [laws_FnMeets.l0, if_neg (show ¬ y < 16 by omega)]
    refine Ev.bind hS ?_
    refine Ev.bind (sameMask_v a b c d L (by omega)) ?_
    exact Ev.now _
  | succ n ih =>
    intro y hy h0
    have h := ih (y + 1) (by omega) (by omega)
    rw [← w64 (x := y + 1) (by omega) (by omega)] at h
    refine Ev.step (fun k => ?_) (meets_cols P Q hP hQ hR y h 19 (-3) (by omega) (by omega))
    simp only [laws_FnMeets.l0]
    rw [if_pos (by omega)]
end
theorem FnMeets : laws_FnMeets.Pure := by
  intro l hl _ _
  refine Ev.rounds ?_
  unfold laws_FnMeets.f laws_big.f
  simp only [Option.bind_some, decide_eq_true_eq]
  by_cases hbig : (l.length : Int) > 1048576
  · simp only [if_pos hbig]
    exact Ev.now true
  simp only [if_neg hbig]
  obtain ⟨a, b, c, d, L, a', b', c', d', L', k1, ⟨g1, g2, g3, g4⟩, h1, h2, h3, h4⟩ := DrawMasks_v l (by omega)
  have q1 := area_bd g1
  have q2 := area_bd h1
  obtain ⟨p, q, r, s, M, m1, m2, m3, m4, m5⟩ := MeetMask_g g1 g2 g3 h1 h2 h3
  obtain ⟨p', q', r', s', M', z1, z2, z3, z4, z5⟩ := MeetMask_g g1 g2 g3 g1 g2 g3
  have hpr : -9223372036854775808 ≤ p ∧ p ≤ 9223372036854775807 ∧ -9223372036854775808 ≤ q ∧ q ≤ 9223372036854775807 ∧ -9223372036854775808 ≤ r ∧ r ≤ 9223372036854775807 ∧ -9223372036854775808 ≤ s ∧ s ≤ 9223372036854775807 := by
    rcases m5 with ⟨rfl, rfl, rfl, rfl, _⟩ | ⟨⟨e1, e2, e3, e4, e5, e6, e7, e8⟩, _⟩
    · omega
    · omega
  have hok := impl_MaskOk_v (a := p) (b := q) (c := r) (d := s) M (by omega) (by omega) (by omega) (by omega) (by omega)
  rw [m4] at hok
  have hS : Ev (fun k => impl_MeetMask.f k a b c d L a b c d L) (a, b, c, d, L) := by
    have ea : mx a a = a := by rw [mx_v]; simp
    have eb : mx b b = b := by rw [mx_v]; simp
    have ec : mn c c = c := by rw [mn_v]; simp
    have ed : mn d d = d := by rw [mn_v]; simp
    rw [ea, eb, ec, ed] at z5
    rcases z5 with ⟨_, _, _, _, _, hno⟩ | ⟨hbx, rfl, rfl, rfl, rfl, w, m, hw, hm, rfl⟩
    · obtain ⟨e1, e2, _⟩ := g1
      simp only [noBoxB, Bool.or_eq_true, decide_eq_true_eq] at hno
      omega
    · have e := gridL_congr (andB p' q' r' s' L p' q' r' s' L) (bitsP p' q' r' s' L) (fun x y => self_w _ (bitsP_bd' g3 x y)) p' w m q'
      rw [e, grid_self g2 w m hw hm] at z2
      exact z2
  have hP : ∀ x y, Ev (fun k => impl_BitsAt.f k a b c d L x y) (bitsP a b c d L x y) ∧ 0 ≤ bitsP a b c d L x y ∧ bitsP a b c d L x y ≤ 15 := fun x y => ⟨BitsAt_v g1 g2 g3 x y, bitsP_bd' g3 x y⟩
  have hQ : ∀ x y, Ev (fun k => impl_BitsAt.f k a' b' c' d' L' x y) (bitsP a' b' c' d' L' x y) ∧ 0 ≤ bitsP a' b' c' d' L' x y ∧ bitsP a' b' c' d' L' x y ≤ 15 := fun x y => ⟨BitsAt_v h1 h2 h3 x y, bitsP_bd' h3 x y⟩
  have hR : ∀ x y, Ev (fun k => impl_BitsAt.f k p q r s M x y) (Go.bits .and .i64 (bitsP a b c d L x y) (bitsP a' b' c' d' L' x y)) := by
    intro x y
    have e1 := mx_v a a'
    have e2 := mx_v b b'
    have e3 := mn_v c c'
    have e4 := mn_v d d'
    have zu := zero_w _ (bitsP_bd' (a := a) (b := b) (c := c) (d := d) g3 x y)
    have zv := zero_w _ (bitsP_bd' (a := a') (b := b') (c := c') (d := d') h3 x y)
    have hout : ¬ (mx a a' ≤ x ∧ x < mn c c' ∧ mx b b' ≤ y ∧ y < mn d d') → Go.bits .and .i64 (bitsP a b c d L x y) (bitsP a' b' c' d' L' x y) = 0 := by
      intro h
      by_cases ha : a ≤ x ∧ x < c ∧ b ≤ y ∧ y < d
      · have hb : ¬ (a' ≤ x ∧ x < c' ∧ b' ≤ y ∧ y < d') := by
          intro hb
          apply h
          refine ⟨?_, ?_, ?_, ?_⟩
          · rw [e1]; split <;> omega
          · rw [e3]; split <;> omega
          · rw [e2]; split <;> omega
          · rw [e4]; split <;> omega
        rw [show bitsP a' b' c' d' L' x y = 0 by unfold bitsP; rw [if_neg hb]]
        exact zu.1
      · rw [show bitsP a b c d L x y = 0 by unfold bitsP; rw [if_neg ha]]
        exact zv.2
    rcases m5 with ⟨rfl, rfl, rfl, rfl, rfl, hno⟩ | ⟨hbx, rfl, rfl, rfl, rfl, w, m, hw, hm, rfl⟩
    · rw [hout (by
        simp only [noBoxB, Bool.or_eq_true, decide_eq_true_eq] at hno
        omega)]
      exact BitsAt_none x y
    · rcases maskOk_cases m4 with ⟨e5, _, e7, _, _⟩ | ⟨_, hl2, hA2⟩
      · have := hbx.1
        omega
      · have h := BitsAt_v hbx hl2 hA2 x y
        by_cases hin : mx a a' ≤ x ∧ x < mn c c' ∧ mx b b' ≤ y ∧ y < mn d d'
        · rw [grid_bits _ w m hw hm x y hin] at h
          exact h
        · rw [hout hin]
          unfold bitsP at h
          rw [if_neg hin] at h
          exact h
  refine Ev.bind k1 (Ev.bind m2 (Ev.bind hok ?_))
  simp only [if_true]
  refine Ev.bind m1 (Ev.bind (sameMask_v p q r s M (by omega)) ?_)
  refine Ev.step (fun k => rfl) ?_
  simp only [laws_FnMeets.j0, Bool.not_true, Bool.false_eq_true, if_false]
  exact meets_rows _ _ hP hQ hR hS (by omega) 19 (-3) (by omega) (by omega)

end Go.Proofs.Ytghbenapnhcllaa.Pure
