/- The pure statement of the law FnMasks, for every input: what the printed functions compute makes the law answer true. No conditions beyond what the row reads. -/
import Derived.Test.YtghbenapnhcllaaMFnMasksx21
namespace Go.Proofs.Ytghbenapnhcllaa.Pure
open Go.RowKit Go.Proofs.Ytghbenapnhcllaa.MFnMasks Go.Proofs.YtghbenapnhcllaaW.PrintWords Go.Proofs.YtghbenapnhcllaaW.PrintLast
set_option linter.unusedVariables false
set_option linter.unusedSimpArgs false

/-! base -/
theorem w64 {x : Int} (h1 : -9223372036854775808 ≤ x) (h2 : x ≤ 9223372036854775807) : wrap64 x = x := by
 unfold wrap64
 omega

theorem wf64 {x : Int} (h : (Lit.int .i64 x).wf = true) : -9223372036854775808 ≤ x ∧ x ≤ 9223372036854775807 := by
 have h2 : (decide (IntKind.i64.min ≤ x) && decide (x ≤ IntKind.i64.max)) = true := h
 rw [Bool.and_eq_true, decide_eq_true_eq, decide_eq_true_eq] at h2
 exact ⟨h2.1, h2.2⟩

theorem take_set_succ {α : Type} (xs : List α) (i : Nat) (v : α) (h : i < xs.length) : (xs.set i v).take (i + 1) = xs.take i ++ [v] := by
 rw [List.take_succ_eq_append_getElem (by simpa using h), List.take_set_of_le (Nat.le_refl i), List.getElem_set_self]

theorem step64 {i n : Nat} (h : i < n) (hn : n ≤ 4611686018427387904) : wrap64 ((i : Int) + 1) = ((i + 1 : Nat) : Int) := by
 rw [w64 (by omega) (by omega)]
 omega

theorem ev_done {α : Type} {g : Nat → Option α} {r : α} (h : ∀ k, g (k + 1) = some r) : Ev g r := Ev.step (f := fun _ => some r) h (Ev.now r)

theorem ev_const {α : Type} {o : Option α} {r : α} (h : o = some r) : Ev (fun _ => o) r := by
 subst h
 exact Ev.now r

/-! spec_l01In -/
theorem spec_l01In_v (a b c : Int) : spec_l01In.f a b c = some (decide (b ≤ a ∧ a ≤ c)) := by
 unfold spec_l01In.f
 by_cases h : a ≥ b
 ·rw [if_pos h]
  simp [h]
 ·rw [if_neg h]
  simp
  omega

/-! impl_inRange -/
theorem impl_inRange_v (a b c : Int) : impl_inRange.f a b c = some (decide (b ≤ a ∧ a ≤ c)) := by
 unfold impl_inRange.f
 by_cases h : a ≥ b
 ·rw [if_pos h]
  simp [h]
 ·rw [if_neg h]
  simp
  omega

/-! rd_int -/
theorem rd_int (xs : List Int) (i : Nat) (h : i < xs.length) : rd xs (i : Int) = xs[i] := by
 unfold rd
 simp [h]

/-! MaskB -/
def maskBoxP (a b c d : Int) : Prop := a < c ∧ b < d ∧ -2000 ≤ a ∧ -2000 ≤ b ∧ c ≤ 2000 ∧ d ≤ 2000 ∧ c - a ≤ 60 ∧ d - b ≤ 60
instance (a b c d : Int) : Decidable (maskBoxP a b c d) := by unfold maskBoxP; infer_instance
def allBits (l : List Int) : Bool := l.all (fun x => decide (0 ≤ x ∧ x ≤ 15))
def maskOkB (a b c d : Int) (l : List Int) : Bool := if a = 0 ∧ b = 0 ∧ c = 0 ∧ d = 0 then decide (l.length = 0) else (decide (maskBoxP a b c d) && decide ((l.length : Int) = (c - a) * (d - b)) && allBits l)
theorem area_bd {a b c d : Int} (h : maskBoxP a b c d) : 1 ≤ (c - a) * (d - b) ∧ (c - a) * (d - b) ≤ 3600 := by
 obtain ⟨h1, h2, _, _, _, _, h3, h4⟩ := h
 have e1 : 1 * 1 ≤ (c - a) * (d - b) := Int.mul_le_mul (by omega) (by omega) (by omega) (by omega)
 have e2 : (c - a) * (d - b) ≤ 60 * 60 := Int.mul_le_mul (by omega) (by omega) (by omega) (by omega)
 omega
theorem area_w {a b c d : Int} (h : maskBoxP a b c d) : wrap64 ((wrap64 (c - a)) * (wrap64 (d - b))) = (c - a) * (d - b) := by
 have q := area_bd h
 obtain ⟨h1, h2, _, _, _, _, h3, h4⟩ := h
 rw [w64 (x := c - a) (by omega) (by omega), w64 (x := d - b) (by omega) (by omega), w64 (by omega) (by omega)]
theorem spec_l11Box_v (a b c d : Int) : spec_l11Box.f a b c d = some (decide (maskBoxP a b c d)) := by
 unfold spec_l11Box.f spec_Empty.f maskBoxP
 simp only [spec_l01In_v]
 by_cases h1 : a ≥ c
 ·rw [if_pos h1]
  simp only [Option.bind_some, if_true]
  refine congrArg some (Eq.symm (decide_eq_false ?_))
  omega
 ·rw [if_neg h1]
  simp only [Option.bind_some, decide_eq_true_eq]
  by_cases h2 : b ≥ d
  ·rw [if_pos h2]
   refine congrArg some (Eq.symm (decide_eq_false ?_))
   omega
  ·rw [if_neg h2]
   by_cases h3 : (-2000 ≤ a ∧ a ≤ 2000) ∧ (-2000 ≤ b ∧ b ≤ 2000) ∧ (-2000 ≤ c ∧ c ≤ 2000) ∧ (-2000 ≤ d ∧ d ≤ 2000)
   ·rw [if_pos h3.1, if_pos h3.2.1, if_pos h3.2.2.1, if_pos h3.2.2.2, w64 (by omega) (by omega), w64 (by omega) (by omega)]
    split
    ·refine congrArg some (decide_eq_decide.mpr ?_)
     omega
    ·refine congrArg some (Eq.symm (decide_eq_false ?_))
     omega
   ·repeat' split
    all_goals first | (exfalso; omega) | (refine congrArg some (Eq.symm (decide_eq_false ?_)); omega)
theorem impl_isMaskBox_v {a b c d : Int} (ha : -9223372036854775808 ≤ a ∧ a ≤ 9223372036854775807) (hb : -9223372036854775808 ≤ b ∧ b ≤ 9223372036854775807) (hc : -9223372036854775808 ≤ c ∧ c ≤ 9223372036854775807) (hd : -9223372036854775808 ≤ d ∧ d ≤ 9223372036854775807) :
  impl_isMaskBox.f a b c d = some (decide (maskBoxP a b c d)) := by
 unfold impl_isMaskBox.f impl_Empty.f maskBoxP
 by_cases h1 : a ≥ c
 ·rw [if_pos h1]
  simp only [Option.bind_some, if_true]
  refine congrArg some (Eq.symm (decide_eq_false ?_))
  omega
 ·rw [if_neg h1]
  simp only [Option.bind_some, decide_eq_true_eq]
  by_cases h2 : b ≥ d
  ·rw [if_pos h2]
   refine congrArg some (Eq.symm (decide_eq_false ?_))
   omega
  ·rw [if_neg h2]
   by_cases h3 : (-2000 ≤ a ∧ a ≤ 2000) ∧ (-2000 ≤ b ∧ b ≤ 2000) ∧ (-2000 ≤ c ∧ c ≤ 2000) ∧ (-2000 ≤ d ∧ d ≤ 2000)
   ·rw [if_neg (by omega), if_neg (by omega), if_neg (by omega), if_neg (by omega), w64 (by omega) (by omega), w64 (by omega) (by omega)]
    split
    ·refine congrArg some (decide_eq_decide.mpr ?_)
     omega
    ·refine congrArg some (Eq.symm (decide_eq_false ?_))
     omega
   ·repeat' split
    all_goals first | (exfalso; omega) | (refine congrArg some (Eq.symm (decide_eq_false ?_)); omega)

/-! MaskOk_s -/
theorem spec_MaskOk_l (a b c d : Int) (l : List Int) (hn : l.length ≤ 1048576) : ∀ (m i : Nat), i + m = l.length → Ev (fun k => spec_MaskOk.l0 k (i : Int) a b c d l) (allBits (l.drop i)) := by
 intro m
 induction m with
 | zero =>
  intro i hi
  refine ev_done (fun k => ?_)
  simp only [spec_MaskOk.l0]
  rw [if_neg (by omega), List.drop_of_length_le (by omega)]
  rfl
 | succ m ih =>
  intro i hi
  have hi2 : i < l.length := by omega
  rw [List.drop_eq_getElem_cons hi2, allBits, List.all_cons]
  by_cases hx : 0 ≤ l[i] ∧ l[i] ≤ 15
  ·rw [decide_eq_true hx, Bool.true_and]
   refine Ev.step (fun k => ?_) (ih (i + 1) (by omega))
   simp only [spec_MaskOk.l0, spec_l01In_v, Option.bind_some]
   rw [if_pos (by omega), if_pos (by omega), rd_int _ _ hi2, step64 hi2 (by omega), if_pos (by simpa using hx)]
  ·rw [decide_eq_false hx, Bool.false_and]
   refine ev_done (fun k => ?_)
   simp only [spec_MaskOk.l0, spec_l01In_v, Option.bind_some]
   rw [if_pos (by omega), if_pos (by omega), rd_int _ _ hi2, if_neg (by simpa using hx)]
theorem spec_MaskOk_v (a b c d : Int) (l : List Int) (hn : l.length ≤ 1048576) : Ev (fun k => spec_MaskOk.f k a b c d l) (maskOkB a b c d l) := by
 unfold spec_MaskOk.f maskOkB
 by_cases h0 : (l.length : Int) = 0
 ·simp only [if_pos h0]
  by_cases hz : a = 0 ∧ b = 0 ∧ c = 0 ∧ d = 0
  ·rw [if_pos hz]
   obtain ⟨rfl, rfl, rfl, rfl⟩ := hz
   refine ev_const (congrArg some ?_)
   simp
   exact List.length_eq_zero_iff.mp (by omega)
  ·rw [if_neg hz]
   refine ev_const (congrArg some ?_)
   have e : (decide (maskBoxP a b c d) && decide ((l.length : Int) = (c - a) * (d - b))) = false := by
    by_cases hb : maskBoxP a b c d
    ·have := area_bd hb
     rw [decide_eq_false (p := (l.length : Int) = (c - a) * (d - b)) (by omega)]
     simp
    ·rw [decide_eq_false hb]
     rfl
   rw [e]
   simp
   omega
 ·simp only [if_neg h0, spec_l11Box_v, Option.bind_some]
  by_cases hb : maskBoxP a b c d
  ·have hz : ¬ (a = 0 ∧ b = 0 ∧ c = 0 ∧ d = 0) := by have := hb.1; omega
   rw [if_neg hz, decide_eq_true hb]
   simp only [if_true, area_w hb]
   by_cases hl : (l.length : Int) = (c - a) * (d - b)
   ·rw [decide_eq_true hl]
    refine Ev.step (fun k => ?_) (spec_MaskOk_l a b c d l hn l.length 0 (by omega))
    simp only [spec_MaskOk.j0]
    rw [if_neg (by simp [hl])]
    rfl
   ·rw [decide_eq_false hl]
    refine ev_done (fun k => ?_)
    simp only [spec_MaskOk.j0]
    rw [if_pos (by simpa using hl)]
    rfl
  ·rw [decide_eq_false hb]
   have e : (if a = 0 ∧ b = 0 ∧ c = 0 ∧ d = 0 then decide (l.length = 0) else (false && decide ((l.length : Int) = (c - a) * (d - b)) && allBits l)) = false := by
    split
    ·exact decide_eq_false (by omega)
    ·rfl
   rw [e]
   simp only [Bool.false_eq_true, if_false]
   refine ev_done (fun k => ?_)
   simp only [spec_MaskOk.j0, if_true]

/-! MaskOk_i -/
theorem impl_MaskOk_l (l : List Int) (hn : l.length ≤ 1048576) : ∀ (m i : Nat), i + m = l.length → Ev (fun k => impl_MaskOk.l0 k l (l.length : Int) (i : Int)) (allBits (l.drop i)) := by
 intro m
 induction m with
 | zero =>
  intro i hi
  refine ev_done (fun k => ?_)
  simp only [impl_MaskOk.l0]
  rw [if_neg (by omega), List.drop_of_length_le (by omega)]
  rfl
 | succ m ih =>
  intro i hi
  have hi2 : i < l.length := by omega
  rw [List.drop_eq_getElem_cons hi2, allBits, List.all_cons]
  by_cases hx : 0 ≤ l[i] ∧ l[i] ≤ 15
  ·rw [decide_eq_true hx, Bool.true_and]
   refine Ev.step (fun k => ?_) (ih (i + 1) (by omega))
   simp only [impl_MaskOk.l0, impl_inRange_v, Option.bind_some]
   rw [if_pos (by omega), if_pos (by omega), if_pos (by omega), rd_int _ _ hi2, step64 hi2 (by omega), if_pos (by simpa using hx)]
  ·rw [decide_eq_false hx, Bool.false_and]
   refine ev_done (fun k => ?_)
   simp only [impl_MaskOk.l0, impl_inRange_v, Option.bind_some]
   rw [if_pos (by omega), if_pos (by omega), if_pos (by omega), rd_int _ _ hi2, if_neg (by simpa using hx)]
theorem impl_MaskOk_v {a b c d : Int} (l : List Int) (hn : l.length ≤ 1048576) (ha : -9223372036854775808 ≤ a ∧ a ≤ 9223372036854775807) (hb : -9223372036854775808 ≤ b ∧ b ≤ 9223372036854775807) (hc : -9223372036854775808 ≤ c ∧ c ≤ 9223372036854775807) (hd : -9223372036854775808 ≤ d ∧ d ≤ 9223372036854775807) :
  Ev (fun k => impl_MaskOk.f k a b c d l) (maskOkB a b c d l) := by
 unfold impl_MaskOk.f maskOkB
 by_cases hz : a = 0 ∧ b = 0 ∧ c = 0 ∧ d = 0
 ·rw [if_pos hz]
  obtain ⟨rfl, rfl, rfl, rfl⟩ := hz
  refine ev_const ?_
  refine congrArg some ?_
  rw [Bool.eq_iff_iff]
  simp
 ·rw [if_neg hz]
  have hz2 : ¬ (a == 0 && (b == 0 && (c == 0 && (d == 0)))) = true := by
   simp
   omega
  simp only [if_neg hz2, impl_isMaskBox_v ha hb hc hd, Option.bind_some]
  by_cases hb : maskBoxP a b c d
  ·rw [decide_eq_true hb]
   simp only [if_true, area_w hb]
   by_cases hl : (l.length : Int) = (c - a) * (d - b)
   ·rw [decide_eq_true hl]
    refine Ev.step (fun k => ?_) (impl_MaskOk_l l hn l.length 0 (by omega))
    simp only [impl_MaskOk.j0]
    rw [if_neg (by simp [hl])]
    rfl
   ·rw [decide_eq_false hl]
    refine ev_done (fun k => ?_)
    simp only [impl_MaskOk.j0]
    rw [if_pos (by simpa using hl)]
    rfl
  ·rw [decide_eq_false hb]
   simp only [Bool.false_eq_true, if_false]
   refine ev_done (fun k => ?_)
   simp only [impl_MaskOk.j0, if_true]
   rfl

/-! MaskOk -/

/-! BitsI -/
def bitsP (a b c d : Int) (l : List Int) (x y : Int) : Int := if a ≤ x ∧ x < c ∧ b ≤ y ∧ y < d then rd l ((y - b) * (c - a) + x - a) else 0
theorem place_bd {a b c d x y : Int} (hb : maskBoxP a b c d) (h : a ≤ x ∧ x < c ∧ b ≤ y ∧ y < d) :
  wrap64 ((wrap64 ((wrap64 ((wrap64 (y - b)) * (wrap64 (c - a)))) + x)) - a) = (y - b) * (c - a) + x - a ∧ 0 ≤ (y - b) * (c - a) + x - a ∧ (y - b) * (c - a) + x - a < (c - a) * (d - b) := by
 have q := area_bd hb
 obtain ⟨h1, h2, h3, h4, h5, h6, h7, h8⟩ := hb
 obtain ⟨g1, g2, g3, g4⟩ := h
 have m0 : 0 ≤ (y - b) * (c - a) := Int.mul_nonneg (by omega) (by omega)
 have m1 : (y - b) * (c - a) ≤ (d - b - 1) * (c - a) := Int.mul_le_mul_of_nonneg_right (by omega) (by omega)
 have m2 : (d - b - 1) * (c - a) = (c - a) * (d - b) - (c - a) := by rw [Int.sub_mul, Int.mul_comm (d - b) (c - a), Int.one_mul]
 refine ⟨?_, by omega, by omega⟩
 rw [w64 (x := y - b) (by omega) (by omega), w64 (x := c - a) (by omega) (by omega), w64 (x := (y - b) * (c - a)) (by omega) (by omega), w64 (x := (y - b) * (c - a) + x) (by omega) (by omega), w64 (by omega) (by omega)]
theorem impl_bitsAt_v {a b c d : Int} {l : List Int} (x y : Int) (hb : maskBoxP a b c d) (hl : (l.length : Int) = (c - a) * (d - b)) : impl_Mask_bitsAt.f a b c d l x y = some (bitsP a b c d l x y) := by
 unfold impl_Mask_bitsAt.f impl_InBox.f bitsP
 by_cases h : a ≤ x ∧ x < c ∧ b ≤ y ∧ y < d
 ·obtain ⟨e1, e2, e3⟩ := place_bd hb h
  rw [if_pos (show x ≥ a from h.1), if_pos h.2.1, if_pos (show y ≥ b from h.2.2.1), decide_eq_true h.2.2.2]
  simp only [Option.bind_some, if_true, e1]
  rw [if_pos e2, if_pos (by omega), if_pos h]
 ·rw [if_neg h]
  repeat' split
  all_goals simp
  all_goals omega
/-- A mask that is right: none at all, or one over a box. -/
theorem maskOk_cases {a b c d : Int} {l : List Int} (h : maskOkB a b c d l = true) : (a = 0 ∧ b = 0 ∧ c = 0 ∧ d = 0 ∧ l = []) ∨ (maskBoxP a b c d ∧ (l.length : Int) = (c - a) * (d - b) ∧ allBits l = true) := by
 unfold maskOkB at h
 split at h
 ·rename_i hz
  exact .inl ⟨hz.1, hz.2.1, hz.2.2.1, hz.2.2.2, List.length_eq_zero_iff.mp (of_decide_eq_true h)⟩
 ·simp only [Bool.and_eq_true, decide_eq_true_eq] at h
  exact .inr ⟨h.1.1, h.1.2, h.2⟩

/-! BitsAt -/
theorem spec_l11Bits_v {a b c d : Int} {l : List Int} (x y : Int) (hb : maskBoxP a b c d) (hl : (l.length : Int) = (c - a) * (d - b)) : spec_l11Bits.f a b c d l x y = some (bitsP a b c d l x y) := by
 unfold spec_l11Bits.f spec_InBox.f bitsP
 by_cases h : a ≤ x ∧ x < c ∧ b ≤ y ∧ y < d
 ·obtain ⟨e1, e2, e3⟩ := place_bd hb h
  rw [if_pos h.1, if_pos h.2.1, if_pos h.2.2.1, decide_eq_true h.2.2.2]
  simp only [Option.bind_some, if_true, e1]
  rw [if_pos e2, if_pos (by omega), if_pos h]
 ·rw [if_neg h]
  repeat' split
  all_goals simp
  all_goals omega
theorem bits_none (x y : Int) : spec_l11Bits.f 0 0 0 0 [] x y = some 0 ∧ impl_Mask_bitsAt.f 0 0 0 0 [] x y = some 0 := by
 constructor
 ·unfold spec_l11Bits.f spec_InBox.f
  repeat' split
  all_goals simp
  all_goals omega
 ·unfold impl_Mask_bitsAt.f impl_InBox.f
  repeat' split
  all_goals simp
  all_goals omega
theorem bits_ok {a b c d : Int} {l : List Int} (h : maskOkB a b c d l = true) (x y : Int) : ∃ r, spec_l11Bits.f a b c d l x y = some r ∧ impl_Mask_bitsAt.f a b c d l x y = some r := by
 rcases maskOk_cases h with ⟨rfl, rfl, rfl, rfl, rfl⟩ | ⟨h1, h2, h3⟩
 ·exact ⟨0, bits_none x y⟩
 ·exact ⟨_, spec_l11Bits_v x y h1 h2, impl_bitsAt_v x y h1 h2⟩

/-! RunsOf -/
theorem runs_cols (a b c d : Int) (l : List Int) (B : Int → Int → Int) (hs : ∀ x y, spec_l11Bits.f a b c d l x y = some (B x y)) (hi : ∀ x y, impl_Mask_bitsAt.f a b c d l x y = some (B x y))
  (hc0 : -2000 ≤ c) (hc1 : c ≤ 2000) (y : Int) (r : Nat)
  (H0 : ∀ out : List S95, out.length + 60 * r ≤ 100000 → ∃ R, Ev (fun k => spec_RunsOf.l0 k out (wrap64 (y + 1)) a b c d l) R ∧ Ev (fun k => impl_RunsOf.l0 k out (wrap64 (y + 1)) a b c d l) R ∧ R.length ≤ out.length + 60 * r) : ∀ m : Nat,
  (∀ (x : Int) (out : List S95), x + m = c → out.length + m + 60 * r ≤ 100000 → ∃ R, Ev (fun k => spec_RunsOf.l1 k out y x a b c d l) R ∧ Ev (fun k => impl_RunsOf.l1 k out y x a b c d l) R ∧ R.length ≤ out.length + m + 60 * r) ∧
  (∀ (e x0 v : Int) (out : List S95), v ≠ 0 → e + m = c → out.length + 1 + m + 60 * r ≤ 100000 → ∃ R, Ev (fun k => spec_RunsOf.l2 k out y x0 v e a b c d l) R ∧ Ev (fun k => impl_RunsOf.l2 k out y x0 v e a b c d l) R ∧ R.length ≤ out.length + 1 + m + 60 * r) ∧
  (∀ (e x0 : Int) (out : List S95), e + m = c → out.length + m + 60 * r ≤ 100000 → ∃ R, Ev (fun k => spec_RunsOf.l1 k out y e a b c d l) R ∧ Ev (fun k => impl_RunsOf.l2 k out y x0 0 e a b c d l) R ∧ R.length ≤ out.length + m + 60 * r) := by
 intro m
 induction m with
 | zero =>
  have P : ∀ (x : Int) (out : List S95), x + (0 : Nat) = c → out.length + 0 + 60 * r ≤ 100000 → ∃ R, Ev (fun k => spec_RunsOf.l1 k out y x a b c d l) R ∧ Ev (fun k => impl_RunsOf.l1 k out y x a b c d l) R ∧ R.length ≤ out.length + 0 + 60 * r := by
   intro x out hx hn
   obtain ⟨R, h1, h2, h3⟩ := H0 out (by omega)
   refine ⟨R, Ev.step (fun k => ?_) h1, Ev.step (fun k => ?_) h2, by omega⟩
   ·simp only [spec_RunsOf.l1]
    rw [if_neg (by omega)]
   ·simp only [impl_RunsOf.l1]
    rw [if_neg (by omega)]
  refine ⟨P, ?_, ?_⟩
  ·intro e x0 v out hv he hn
   obtain ⟨R, h1, h2, h3⟩ := P e (out ++ [⟨y, x0, e, v⟩]) he (by simp; omega)
   simp only [List.length_append, List.length_cons, List.length_nil] at h3
   refine ⟨R, Ev.step (fun k => ?_) h1, Ev.step (fun k => ?_) h2, by omega⟩
   ·simp only [spec_RunsOf.l2]
    rw [if_neg (by omega), if_pos (by omega), w64 (x := e - 1) (by omega) (by omega), w64 (x := e - 1 + 1) (by omega) (by omega), Int.sub_add_cancel]
   ·simp only [impl_RunsOf.l2]
    rw [if_neg (by omega), if_neg hv, if_pos (by omega)]
  ·intro e x0 out he hn
   obtain ⟨R, h1, h2, h3⟩ := P e out he hn
   refine ⟨R, h1, Ev.step (fun k => ?_) h2, h3⟩
   simp only [impl_RunsOf.l2, if_true]
   rw [if_neg (by omega)]
 | succ m ih =>
  obtain ⟨iP, iQ, iZ⟩ := ih
  have P : ∀ (x : Int) (out : List S95), x + (m + 1 : Nat) = c → out.length + (m + 1) + 60 * r ≤ 100000 → ∃ R, Ev (fun k => spec_RunsOf.l1 k out y x a b c d l) R ∧ Ev (fun k => impl_RunsOf.l1 k out y x a b c d l) R ∧ R.length ≤ out.length + (m + 1) + 60 * r := by
   intro x out hx hn
   have e1 : wrap64 (x + 1) = x + 1 := w64 (by omega) (by omega)
   by_cases hB : B x y = 0
   ·obtain ⟨R, h1, h2, h3⟩ := iZ (x + 1) x out (by omega) (by omega)
    refine ⟨R, Ev.step (fun k => ?_) h1, Ev.step (fun k => ?_) h2, by omega⟩
    ·simp only [spec_RunsOf.l1, hs, hB, Option.bind_some, if_true, e1]
     rw [if_pos (by omega)]
    ·simp only [impl_RunsOf.l1, hi, hB, Option.bind_some, e1]
     rw [if_pos (by omega)]
   ·obtain ⟨R, h1, h2, h3⟩ := iQ (x + 1) x (B x y) out hB (by omega) (by omega)
    refine ⟨R, Ev.step (fun k => ?_) h1, Ev.step (fun k => ?_) h2, by omega⟩
    ·simp only [spec_RunsOf.l1, hs, Option.bind_some, if_neg hB, e1]
     rw [if_pos (by omega)]
    ·simp only [impl_RunsOf.l1, hi, Option.bind_some, e1]
     rw [if_pos (by omega)]
  refine ⟨P, ?_, ?_⟩
  ·intro e x0 v out hv he hn
   have e1 : wrap64 (e + 1) = e + 1 := w64 (by omega) (by omega)
   by_cases hB : B e y = v
   ·obtain ⟨R, h1, h2, h3⟩ := iQ (e + 1) x0 v out hv (by omega) (by omega)
    refine ⟨R, Ev.step (fun k => ?_) h1, Ev.step (fun k => ?_) h2, by omega⟩
    ·simp only [spec_RunsOf.l2, hs, hB, Option.bind_some, if_true, e1]
     rw [if_pos (by omega)]
    ·simp only [impl_RunsOf.l2, hi, hB, Option.bind_some, if_true, e1]
     rw [if_pos (by omega)]
   ·obtain ⟨R, h1, h2, h3⟩ := P e (out ++ [⟨y, x0, e, v⟩]) he (by simp; omega)
    simp only [List.length_append, List.length_cons, List.length_nil] at h3
    refine ⟨R, Ev.step (fun k => ?_) h1, Ev.step (fun k => ?_) h2, by omega⟩
    ·simp only [spec_RunsOf.l2, hs, Option.bind_some, if_neg hB]
     rw [if_pos (by omega), if_pos (by omega), w64 (x := e - 1) (by omega) (by omega), w64 (x := e - 1 + 1) (by omega) (by omega), Int.sub_add_cancel]
    ·simp only [impl_RunsOf.l2, hi, Option.bind_some, if_neg hB, if_neg hv]
     rw [if_pos (by omega), if_pos (by omega)]
  ·intro e x0 out he hn
   have e1 : wrap64 (e + 1) = e + 1 := w64 (by omega) (by omega)
   by_cases hB : B e y = 0
   ·obtain ⟨R, h1, h2, h3⟩ := iZ (e + 1) x0 out (by omega) (by omega)
    refine ⟨R, Ev.step (fun k => ?_) h1, Ev.step (fun k => ?_) h2, by omega⟩
    ·simp only [spec_RunsOf.l1, hs, hB, Option.bind_some, if_true, e1]
     rw [if_pos (by omega)]
    ·simp only [impl_RunsOf.l2, hi, hB, Option.bind_some, if_true, e1]
     rw [if_pos (by omega)]
   ·obtain ⟨R, h1, h2, h3⟩ := P e out he hn
    refine ⟨R, h1, Ev.step (fun k => ?_) h2, h3⟩
    simp only [impl_RunsOf.l2, hi, Option.bind_some, if_neg hB, if_true]
    rw [if_pos (by omega)]
theorem runs_rows (a b c d : Int) (l : List Int) (B : Int → Int → Int) (hs : ∀ x y, spec_l11Bits.f a b c d l x y = some (B x y)) (hi : ∀ x y, impl_Mask_bitsAt.f a b c d l x y = some (B x y))
  (hc0 : -2000 ≤ c) (hc1 : c ≤ 2000) (hd0 : -2000 ≤ d) (hd1 : d ≤ 2000) (hac : a ≤ c) (hw : c - a ≤ 60) : ∀ (r : Nat) (y : Int) (out : List S95), y + r = d → out.length + 60 * r ≤ 100000 →
  ∃ R, Ev (fun k => spec_RunsOf.l0 k out y a b c d l) R ∧ Ev (fun k => impl_RunsOf.l0 k out y a b c d l) R ∧ R.length ≤ out.length + 60 * r := by
 intro r
 induction r with
 | zero =>
  intro y out hy hn
  refine ⟨out, ev_done (fun k => ?_), ev_done (fun k => ?_), by omega⟩
  ·simp only [spec_RunsOf.l0]
   rw [if_neg (by omega)]
  ·simp only [impl_RunsOf.l0]
   rw [if_neg (by omega)]
 | succ r ih =>
  intro y out hy hn
  have e1 : wrap64 (y + 1) = y + 1 := w64 (by omega) (by omega)
  obtain ⟨m, hm⟩ : ∃ m : Nat, (m : Int) = c - a := ⟨(c - a).toNat, by omega⟩
  obtain ⟨R, h1, h2, h3⟩ := (runs_cols a b c d l B hs hi hc0 hc1 y r (fun o ho => by rw [e1]; exact ih (y + 1) o (by omega) ho) m).1 a out (by omega) (by omega)
  refine ⟨R, Ev.step (fun k => ?_) h1, Ev.step (fun k => ?_) h2, by omega⟩
  ·simp only [spec_RunsOf.l0]
   rw [if_pos (by omega)]
  ·simp only [impl_RunsOf.l0]
   rw [if_pos (by omega)]
theorem RunsOf_v {a b c d : Int} (l : List Int) (hn : l.length ≤ 1048576) (ha : -9223372036854775808 ≤ a ∧ a ≤ 9223372036854775807) (hb : -9223372036854775808 ≤ b ∧ b ≤ 9223372036854775807) (hc : -9223372036854775808 ≤ c ∧ c ≤ 9223372036854775807) (hd : -9223372036854775808 ≤ d ∧ d ≤ 9223372036854775807) :
  ∃ R : List S95, Ev (fun k => spec_RunsOf.f k a b c d l) R ∧ Ev (fun k => impl_RunsOf.f k a b c d l) R ∧ R.length ≤ 3600 := by
 have hs := spec_MaskOk_v a b c d l hn
 have hi := impl_MaskOk_v l hn ha hb hc hd
 unfold spec_RunsOf.f impl_RunsOf.f
 simp only [Option.bind_some]
 cases hm : maskOkB a b c d l with
 | true =>
  rw [hm] at hs hi
  have key : ∃ R : List S95, Ev (fun k => spec_RunsOf.l0 k [] b a b c d l) R ∧ Ev (fun k => impl_RunsOf.l0 k [] b a b c d l) R ∧ R.length ≤ 3600 := by
   rcases maskOk_cases hm with ⟨rfl, rfl, rfl, rfl, rfl⟩ | ⟨h1, h2, h3⟩
   ·obtain ⟨R, g1, g2, g3⟩ := runs_rows 0 0 0 0 [] (fun _ _ => 0) (fun x y => (bits_none x y).1) (fun x y => (bits_none x y).2) (by omega) (by omega) (by omega) (by omega) (by omega) (by omega) 0 0 [] (by omega) (by simp)
    exact ⟨R, g1, g2, by simpa using Nat.le_trans g3 (by simp)⟩
   ·have hbx := h1
    obtain ⟨q1, q2, q3, q4, q5, q6, q7, q8⟩ := hbx
    obtain ⟨r, hr⟩ : ∃ r : Nat, (r : Int) = d - b := ⟨(d - b).toNat, by omega⟩
    obtain ⟨R, g1, g2, g3⟩ := runs_rows a b c d l (bitsP a b c d l) (fun x y => spec_l11Bits_v x y h1 h2) (fun x y => impl_bitsAt_v x y h1 h2) (by omega) (by omega) (by omega) (by omega) (by omega) (by omega) r b [] (by omega) (by simp; omega)
    exact ⟨R, g1, g2, by simp at g3; omega⟩
  obtain ⟨R, g1, g2, g3⟩ := key
  refine ⟨R, Ev.bind hs ?_, Ev.bind hi ?_, g3⟩
  ·simp only [if_true]
   exact g1
  ·simp only [if_true]
   exact g2
 | false =>
  rw [hm] at hs hi
  refine ⟨[], Ev.bind hs ?_, Ev.bind hi ?_, by simp⟩
  ·simp only [Bool.false_eq_true, if_false]
   exact Ev.now _
  ·simp only [Bool.false_eq_true, if_false]
   exact Ev.now _

/-! rd_impl_Run -/
theorem rd_impl_Run (xs : List S95) (i : Nat) (h : i < xs.length) : rd_T95 xs (i : Int) = xs[i] := by
 unfold rd_T95
 simp [h]

/-! MaskBy -/
def goodRun (r : S95) : Prop := r.f1 < r.f2 ∧ 1 ≤ r.f3 ∧ r.f3 ≤ 15
theorem runs_good {a b c d : Int} {l : List Int} (B : Int → Int → Int) (hB : ∀ x y, 0 ≤ B x y ∧ B x y ≤ 15) (hi : ∀ x y, impl_Mask_bitsAt.f a b c d l x y = some (B x y)) (hc : c ≤ 2000) (ha : -2000 ≤ a) : ∀ k : Nat,
  (∀ (out : List S95) (y : Int) (R : List S95), impl_RunsOf.l0 k out y a b c d l = some R → (∀ r ∈ out, goodRun r) → ∀ r ∈ R, goodRun r) ∧
  (∀ (out : List S95) (y x : Int) (R : List S95), -2000 ≤ x → impl_RunsOf.l1 k out y x a b c d l = some R → (∀ r ∈ out, goodRun r) → ∀ r ∈ R, goodRun r) ∧
  (∀ (out : List S95) (y x0 v e : Int) (R : List S95), -2000 ≤ x0 → x0 < e → 0 ≤ v → v ≤ 15 → impl_RunsOf.l2 k out y x0 v e a b c d l = some R → (∀ r ∈ out, goodRun r) → ∀ r ∈ R, goodRun r) := by
 intro k
 induction k with
 | zero => exact ⟨fun _ _ _ h => by simp [impl_RunsOf.l0] at h, fun _ _ _ _ _ h => by simp [impl_RunsOf.l1] at h, fun _ _ _ _ _ _ _ _ _ _ h => by simp [impl_RunsOf.l2] at h⟩
 | succ k ih =>
  obtain ⟨i0, i1, i2⟩ := ih
  have push : ∀ (out : List S95) (y x0 v e : Int), x0 < e → 0 ≤ v → v ≤ 15 → ¬ v = 0 → (∀ r ∈ out, goodRun r) → ∀ r ∈ out ++ [(⟨y, x0, e, v⟩ : S95)], goodRun r := by
   intro out y x0 v e h1 h2 h3 h4 ho r hr
   rcases List.mem_append.mp hr with hr | hr
   ·exact ho r hr
   ·obtain rfl := List.mem_singleton.mp hr
    exact ⟨h1, by show 1 ≤ v; omega, h3⟩
  refine ⟨?_, ?_, ?_⟩
  ·intro out y R h ho
   simp only [impl_RunsOf.l0] at h
   split at h
   ·exact i1 out y a R ha h ho
   ·obtain rfl := Option.some.inj h
    exact ho
  ·intro out y x R hx h ho
   simp only [impl_RunsOf.l1, hi, Option.bind_some] at h
   split at h
   ·rename_i hxc
    rw [w64 (x := x + 1) (by omega) (by omega)] at h
    exact i2 out y x (B x y) (x + 1) R hx (by omega) (hB x y).1 (hB x y).2 h ho
   ·exact i0 out _ R h ho
  ·intro out y x0 v e R h0 h1 h2 h3 h ho
   simp only [impl_RunsOf.l2, hi, Option.bind_some] at h
   split at h
   ·rename_i hec
    split at h
    ·rw [w64 (x := e + 1) (by omega) (by omega)] at h
     exact i2 out y x0 v (e + 1) R h0 (by omega) h2 h3 h ho
    ·split at h
     ·exact i1 out y e R (by omega) h ho
     ·rename_i hv
      split at h
      ·exact i1 _ y e R (by omega) h (push out y x0 v e h1 h2 h3 hv ho)
      ·cases h
   ·split at h
    ·exact i1 out y e R (by omega) h ho
    ·rename_i hv
     split at h
     ·exact i1 _ y e R (by omega) h (push out y x0 v e h1 h2 h3 hv ho)
     ·cases h
theorem allBits_mem {l : List Int} (h : allBits l = true) : ∀ x ∈ l, 0 ≤ x ∧ x ≤ 15 := by
 intro x hx
 unfold allBits at h
 simpa using List.all_eq_true.mp h x hx
theorem allBits_of {l : List Int} (h : ∀ x ∈ l, 0 ≤ x ∧ x ≤ 15) : allBits l = true := by
 unfold allBits
 exact List.all_eq_true.mpr (fun x hx => by simpa using h x hx)
theorem bitsP_bd {a b c d : Int} {l : List Int} (h : allBits l = true) (x y : Int) : 0 ≤ bitsP a b c d l x y ∧ bitsP a b c d l x y ≤ 15 := by
 unfold bitsP
 split
 ·unfold rd
  rw [List.getD_eq_getElem?_getD]
  cases hq : l[((y - b) * (c - a) + x - a).toNat]? with
  | none => simp
  | some v => exact allBits_mem h v (List.mem_of_getElem? hq)
 ·omega
theorem RunsOf_g {a b c d : Int} {l : List Int} (hb : maskBoxP a b c d) (hl : (l.length : Int) = (c - a) * (d - b)) (hA : allBits l = true) :
  ∃ R : List S95, Ev (fun k => spec_RunsOf.f k a b c d l) R ∧ Ev (fun k => impl_RunsOf.f k a b c d l) R ∧ R.length ≤ 3600 ∧ ∀ r ∈ R, goodRun r := by
 have q := area_bd hb
 obtain ⟨g1, g2, g3, g4, g5, g6, g7, g8⟩ := id hb
 obtain ⟨R, h1, h2, h3⟩ := RunsOf_v (a := a) (b := b) (c := c) (d := d) l (by omega) (by omega) (by omega) (by omega) (by omega)
 refine ⟨R, h1, h2, h3, ?_⟩
 obtain ⟨k, hk⟩ := Ev.rounds h2
 simp only [impl_RunsOf.f] at hk
 obtain ⟨t, _, hk⟩ := Option.bind_eq_some_iff.mp hk
 split at hk
 ·exact (runs_good (bitsP a b c d l) (fun x y => bitsP_bd hA x y) (fun x y => impl_bitsAt_v x y hb hl) (by omega) (by omega) k).1 [] b R hk (by simp)
 ·obtain rfl := Option.some.inj hk
  simp
/-! What is painted. -/
def paint1 (a b c y v : Int) : Nat → Int → List Int → List Int
 | 0, _, l => l
 | n + 1, x, l => paint1 a b c y v n (x + 1) (l.set ((y - b) * (c - a) + x - a).toNat v)
def paintR (a b c : Int) (r : S95) (l : List Int) : List Int := paint1 a b c r.f0 r.f3 (r.f2 - r.f1).toNat r.f1 l
theorem paint1_length (a b c y v : Int) : ∀ (n : Nat) (x : Int) (l : List Int), (paint1 a b c y v n x l).length = l.length
 | 0, _, _ => rfl
 | n + 1, x, l => by rw [paint1, paint1_length a b c y v n, List.length_set]
theorem paint1_bits (a b c y : Int) {v : Int} (h0 : 0 ≤ v) (h1 : v ≤ 15) : ∀ (n : Nat) (x : Int) (l : List Int), allBits l = true → allBits (paint1 a b c y v n x l) = true
 | 0, _, _, h => h
 | n + 1, x, l, h => by
  rw [paint1]
  refine paint1_bits a b c y h0 h1 n _ _ (allBits_of fun z hz => ?_)
  rcases List.mem_or_eq_of_mem_set hz with hz | rfl
  ·exact allBits_mem h z hz
  ·exact ⟨h0, h1⟩
section
variable {a b c d : Int} (hb : maskBoxP a b c d) (rs : List S95) {r : Int × Int × Int × Int × List Int × Bool}
include hb
theorem spec_paint (i : Int) (y X0 X1 v : Int) (hy : b ≤ y ∧ y < d) (h1 : X1 ≤ c) : ∀ (n : Nat) (x : Int) (l : List Int), a ≤ x → n = (X1 - x).toNat → (l.length : Int) = (c - a) * (d - b) →
  Ev (fun k => spec_MaskBy.l0 k rs (wrap64 (i + 1)) a b c d a b c d (paint1 a b c y v n x l)) r → Ev (fun k => spec_MaskBy.l1 k rs i x a b c d a b c d l y X0 X1 v) r := by
 intro n
 induction n with
 | zero =>
  intro x l hx hn hl h
  refine Ev.step (fun k => ?_) h
  simp only [spec_MaskBy.l1]
  rw [if_neg (by omega)]
  rfl
 | succ n ih =>
  intro x l hx hn hl h
  obtain ⟨e1, e2, e3⟩ := place_bd hb (x := x) (y := y) ⟨hx, by omega, hy.1, hy.2⟩
  have g := hb
  obtain ⟨g1, g2, g3, g4, g5, g6, g7, g8⟩ := g
  refine Ev.step (fun k => ?_) (ih (x + 1) (l.set ((y - b) * (c - a) + x - a).toNat v) (by omega) (by omega) (by rw [List.length_set]; exact hl) h)
  simp only [spec_MaskBy.l1, e1]
  rw [if_pos (by omega), if_pos e2, if_pos (by omega), w64 (x := x + 1) (by omega) (by omega)]
theorem impl_paint (i N : Int) (y X0 X1 v : Int) (hy : b ≤ y ∧ y < d) (h1 : X1 ≤ c) : ∀ (n : Nat) (x : Int) (l : List Int), a ≤ x → n = (X1 - x).toNat → (l.length : Int) = (c - a) * (d - b) →
  Ev (fun k => impl_MaskBy.l0 k rs (wrap64 (c - a)) rs N (wrap64 (i + 1)) a b c d a b c d (paint1 a b c y v n x l)) r → Ev (fun k => impl_MaskBy.l1 k rs (wrap64 (c - a)) x rs N i a b c d a b c d l y X0 X1 v) r := by
 intro n
 induction n with
 | zero =>
  intro x l hx hn hl h
  refine Ev.step (fun k => ?_) h
  simp only [impl_MaskBy.l1]
  rw [if_neg (by omega)]
  rfl
 | succ n ih =>
  intro x l hx hn hl h
  obtain ⟨e1, e2, e3⟩ := place_bd hb (x := x) (y := y) ⟨hx, by omega, hy.1, hy.2⟩
  have g := hb
  obtain ⟨g1, g2, g3, g4, g5, g6, g7, g8⟩ := g
  refine Ev.step (fun k => ?_) (ih (x + 1) (l.set ((y - b) * (c - a) + x - a).toNat v) (by omega) (by omega) (by rw [List.length_set]; exact hl) h)
  simp only [impl_MaskBy.l1, e1]
  rw [if_pos (by omega), if_pos e2, if_pos (by omega), w64 (x := x + 1) (by omega) (by omega)]
end
/-! Two lists of runs, compared. -/
def runB (x y : S95) : Bool := x.f0 == y.f0 && (x.f1 == y.f1 && (x.f2 == y.f2 && x.f3 == y.f3))
def eqRuns : List S95 → List S95 → Bool
 | [], [] => true
 | x :: xs, y :: ys => runB x y && eqRuns xs ys
 | _, _ => false
theorem runB_not (x y : S95) : (!(x.f0 == y.f0) || (!(x.f1 == y.f1) || (!(x.f2 == y.f2) || (!(x.f3 == y.f3))))) = !(runB x y) := by
 unfold runB
 cases x.f0 == y.f0 <;> cases x.f1 == y.f1 <;> cases x.f2 == y.f2 <;> cases x.f3 == y.f3 <;> rfl
theorem eqRuns_len : ∀ xs ys : List S95, eqRuns xs ys = true → xs.length = ys.length
 | [], [], _ => rfl
 | x :: xs, y :: ys, h => by
  simp only [eqRuns, Bool.and_eq_true] at h
  simp [eqRuns_len xs ys h.2]
 | [], _ :: _, h => by simp [eqRuns] at h
 | _ :: _, [], h => by simp [eqRuns] at h
theorem eqRuns_good : ∀ xs ys : List S95, eqRuns xs ys = true → (∀ r ∈ xs, goodRun r) → ∀ r ∈ ys, goodRun r
 | [], [], _, h => h
 | x :: xs, y :: ys, h, hg => by
  simp only [eqRuns, Bool.and_eq_true] at h
  intro r hr
  rcases List.mem_cons.mp hr with rfl | hr
  ·have e := h.1
   simp only [runB, Bool.and_eq_true, beq_iff_eq] at e
   obtain ⟨e0, e1, e2, e3⟩ := e
   have gx := hg x (by simp)
   unfold goodRun at gx ⊢
   omega
  ·exact eqRuns_good xs ys h.2 (fun r hr => hg r (by simp [hr])) r hr
 | [], _ :: _, h, _ => by simp [eqRuns] at h
 | _ :: _, [], h, _ => by simp [eqRuns] at h
theorem impl_Run_l (xs ys : List S95) (hl : xs.length = ys.length) (hn : xs.length ≤ 1048576) : ∀ (d i : Nat), i + d = xs.length → Ev (fun k => impl_Run.l0 k xs ys (xs.length : Int) (i : Int)) (eqRuns (xs.drop i) (ys.drop i)) := by
 intro d
 induction d with
 | zero =>
  intro i hi
  refine ev_done (fun k => ?_)
  simp only [impl_Run.l0]
  rw [if_neg (by omega), List.drop_of_length_le (by omega), List.drop_of_length_le (by omega)]
  rfl
 | succ d ih =>
  intro i hi
  have hx : i < xs.length := by omega
  have hy : i < ys.length := by omega
  rw [List.drop_eq_getElem_cons hx, List.drop_eq_getElem_cons hy, eqRuns]
  cases hB : runB xs[i] ys[i] with
  | true =>
   rw [Bool.true_and]
   refine Ev.step (fun k => ?_) (ih (i + 1) (by omega))
   simp only [impl_Run.l0, rd_impl_Run _ _ hx, rd_impl_Run _ _ hy, runB_not, hB, Bool.not_true, Bool.false_eq_true, if_false, step64 hx (show xs.length ≤ 4611686018427387904 by omega)]
   rw [if_pos (by omega), if_pos (by omega), if_pos (by omega), if_pos (by omega)]
  | false =>
   rw [Bool.false_and]
   refine ev_done (fun k => ?_)
   simp only [impl_Run.l0, rd_impl_Run _ _ hx, rd_impl_Run _ _ hy, runB_not, hB, Bool.not_false, if_true]
   rw [if_pos (by omega), if_pos (by omega), if_pos (by omega), if_pos (by omega)]
theorem impl_Run_v (xs ys : List S95) (hn : xs.length ≤ 1048576) : Ev (fun k => impl_Run.f k xs ys) (eqRuns xs ys) := by
 by_cases hl : xs.length = ys.length
 ·refine Ev.congr (fun k => ?_) (impl_Run_l xs ys hl hn xs.length 0 (by omega))
  unfold impl_Run.f
  rw [if_pos (by omega)]
  rfl
 ·have e : eqRuns xs ys = false := by
   cases h : eqRuns xs ys with
   | false => rfl
   | true => exact absurd (eqRuns_len xs ys h) hl
  rw [e]
  refine Ev.congr (fun k => ?_) (Ev.now false)
  unfold impl_Run.f
  rw [if_neg (by omega)]
abbrev ByR := Int × Int × Int × Int × List Int × Bool
def byFail : ByR := (0, 0, 0, 0, [], false)
theorem spec_cmp (a b c d : Int) (l : List Int) (rs R : List S95) (hl : R.length = rs.length) (hn : R.length ≤ 1048576) : ∀ (n i : Nat), i + n = rs.length →
  Ev (fun k => spec_MaskBy.l2 k rs R (i : Int) a b c d l) (if eqRuns (R.drop i) (rs.drop i) = true then (a, b, c, d, l, true) else byFail) := by
 intro n
 induction n with
 | zero =>
  intro i hi
  refine ev_done (fun k => ?_)
  simp only [spec_MaskBy.l2]
  rw [if_neg (by omega), List.drop_of_length_le (by omega), List.drop_of_length_le (by omega)]
  rfl
 | succ n ih =>
  intro i hi
  have hx : i < R.length := by omega
  have hy : i < rs.length := by omega
  rw [List.drop_eq_getElem_cons hx, List.drop_eq_getElem_cons hy, eqRuns]
  cases hB : runB R[i] rs[i] with
  | true =>
   rw [Bool.true_and]
   refine Ev.step (fun k => ?_) (ih (i + 1) (by omega))
   simp only [spec_MaskBy.l2, rd_impl_Run _ _ hx, rd_impl_Run _ _ hy, runB_not, hB, Bool.not_true, Bool.false_eq_true, if_false, step64 hx (show R.length ≤ 4611686018427387904 by omega)]
   rw [if_pos (by omega), if_pos (by omega), if_pos (by omega)]
  | false =>
   rw [Bool.false_and, if_neg (by simp)]
   refine ev_done (fun k => ?_)
   simp only [spec_MaskBy.l2, rd_impl_Run _ _ hx, rd_impl_Run _ _ hy, runB_not, hB, Bool.not_false, if_true]
   rw [if_pos (by omega), if_pos (by omega), if_pos (by omega)]
   rfl
theorem spec_j4_v (a b c d : Int) (l : List Int) (rs R : List S95) (hn : R.length ≤ 1048576) :
  Ev (fun k => spec_MaskBy.j4 k rs R ((R.length : Int) != (rs.length : Int)) a b c d l) (if eqRuns R rs = true then (a, b, c, d, l, true) else byFail) := by
 by_cases hl : R.length = rs.length
 ·refine Ev.step (fun k => ?_) (spec_cmp a b c d l rs R hl hn rs.length 0 (by omega))
  simp only [spec_MaskBy.j4]
  rw [if_neg (by simp [hl])]
  rfl
 ·have e : eqRuns R rs = false := by
   cases h : eqRuns R rs with
   | false => rfl
   | true => exact absurd (eqRuns_len R rs h) hl
  rw [e, if_neg (by simp)]
  refine ev_done (fun k => ?_)
  simp only [spec_MaskBy.j4]
  rw [if_pos (by simp; omega)]
  rfl
/-! The ends, and the two walks over the runs. -/
def sGeo (a b c d : Int) (r : S95) : Prop := (b ≤ r.f0 ∧ r.f0 ≤ d - 1) ∧ (a ≤ r.f1 ∧ r.f1 ≤ c - 1) ∧ (r.f1 + 1 ≤ r.f2 ∧ r.f2 ≤ c)
instance (a b c d : Int) (r : S95) : Decidable (sGeo a b c d r) := by unfold sGeo; infer_instance
def iGeo (a b c d : Int) (r : S95) : Prop := (a ≤ r.f1 ∧ r.f1 < c ∧ b ≤ r.f0 ∧ r.f0 < d) ∧ r.f2 ≤ c ∧ (1 ≤ r.f3 ∧ r.f3 ≤ 15)
instance (a b c d : Int) (r : S95) : Decidable (iGeo a b c d r) := by unfold iGeo; infer_instance
section
variable {a b c d : Int} (hb : maskBoxP a b c d) (rs : List S95) (hn : rs.length ≤ 1048576)
include hb hn
theorem spec_go (i : Nat) (hi : i < rs.length) (l : List Int) (hl : (l.length : Int) = (c - a) * (d - b)) (hg : sGeo a b c d rs[i]) {r : ByR}
  (h : Ev (fun k => spec_MaskBy.l0 k rs ((i + 1 : Nat) : Int) a b c d a b c d (paintR a b c rs[i] l)) r) : Ev (fun k => spec_MaskBy.l0 k rs (i : Int) a b c d a b c d l) r := by
 have g := hb
 obtain ⟨g1, g2, g3, g4, g5, g6, g7, g8⟩ := g
 obtain ⟨⟨p1, p2⟩, ⟨p3, p4⟩, p5, p6⟩ := hg
 rw [← step64 hi (by omega)] at h
 refine Ev.step (fun k => ?_) (Ev.step (f := fun k => spec_MaskBy.l1 k rs (i : Int) rs[i].f1 a b c d a b c d l rs[i].f0 rs[i].f1 rs[i].f2 rs[i].f3) (g := fun k => spec_MaskBy.j2 k rs (i : Int) false a b c d a b c d l rs[i].f0 rs[i].f1 rs[i].f2 rs[i].f3) (fun k => ?_)
  (spec_paint hb rs (i : Int) rs[i].f0 rs[i].f1 rs[i].f2 rs[i].f3 ⟨p1, by omega⟩ p6 _ rs[i].f1 l p3 rfl hl h))
 ·simp only [spec_MaskBy.l0, rd_impl_Run _ _ hi, spec_l01In_v, Option.bind_some]
  rw [if_pos (by omega), if_pos (by omega), w64 (x := d - 1) (by omega) (by omega), w64 (x := c - 1) (by omega) (by omega), w64 (x := rs[i].f1 + 1) (by omega) (by omega), decide_eq_true (p := b ≤ rs[i].f0 ∧ rs[i].f0 ≤ d - 1) ⟨p1, p2⟩,
   decide_eq_true (p := a ≤ rs[i].f1 ∧ rs[i].f1 ≤ c - 1) ⟨p3, p4⟩, decide_eq_true (p := rs[i].f1 + 1 ≤ rs[i].f2 ∧ rs[i].f2 ≤ c) ⟨p5, p6⟩]
  rfl
 ·simp only [spec_MaskBy.j2]
  rfl
theorem spec_no (i : Nat) (hi : i < rs.length) (l : List Int) (hg : ¬ sGeo a b c d rs[i]) : Ev (fun k => spec_MaskBy.l0 k rs (i : Int) a b c d a b c d l) byFail := by
 have _ := hn
 have g := hb
 obtain ⟨g1, g2, g3, g4, g5, g6, g7, g8⟩ := g
 refine Ev.step (f := fun k => spec_MaskBy.j2 k rs (i : Int) true a b c d a b c d l rs[i].f0 rs[i].f1 rs[i].f2 rs[i].f3) (fun k => ?_) (ev_done (fun k => ?_))
 ·simp only [spec_MaskBy.l0, rd_impl_Run _ _ hi, spec_l01In_v, Option.bind_some]
  rw [if_pos (by omega), if_pos (by omega), w64 (x := d - 1) (by omega) (by omega), w64 (x := c - 1) (by omega) (by omega)]
  by_cases q1 : b ≤ rs[i].f0 ∧ rs[i].f0 ≤ d - 1
  ·rw [decide_eq_true q1, if_pos rfl]
   by_cases q2 : a ≤ rs[i].f1 ∧ rs[i].f1 ≤ c - 1
   ·rw [decide_eq_true q2, if_pos rfl, w64 (x := rs[i].f1 + 1) (by omega) (by omega), decide_eq_false (p := rs[i].f1 + 1 ≤ rs[i].f2 ∧ rs[i].f2 ≤ c) (fun q3 => hg ⟨q1, q2, q3⟩)]
    rfl
   ·rw [decide_eq_false q2, if_neg (by simp)]
  ·rw [decide_eq_false q1, if_neg (by simp)]
 ·simp only [spec_MaskBy.j2, if_true]
  rfl
theorem impl_go (i : Nat) (hi : i < rs.length) (l : List Int) (hl : (l.length : Int) = (c - a) * (d - b)) (hg : iGeo a b c d rs[i]) {r : ByR}
  (h : Ev (fun k => impl_MaskBy.l0 k rs (wrap64 (c - a)) rs (rs.length : Int) ((i + 1 : Nat) : Int) a b c d a b c d (paintR a b c rs[i] l)) r) : Ev (fun k => impl_MaskBy.l0 k rs (wrap64 (c - a)) rs (rs.length : Int) (i : Int) a b c d a b c d l) r := by
 obtain ⟨⟨p3, p4, p1, p2⟩, p6, p7⟩ := hg
 rw [← step64 hi (by omega)] at h
 refine Ev.step (fun k => ?_) (Ev.step (f := fun k => impl_MaskBy.l1 k rs (wrap64 (c - a)) rs[i].f1 rs (rs.length : Int) (i : Int) a b c d a b c d l rs[i].f0 rs[i].f1 rs[i].f2 rs[i].f3) (g := fun k => impl_MaskBy.j1 k rs (wrap64 (c - a)) rs (rs.length : Int) (i : Int) false a b c d a b c d l rs[i].f0 rs[i].f1 rs[i].f2 rs[i].f3) (fun k => ?_)
  (impl_paint hb rs (i : Int) (rs.length : Int) rs[i].f0 rs[i].f1 rs[i].f2 rs[i].f3 ⟨p1, p2⟩ p6 _ rs[i].f1 l p3 rfl hl h))
 ·simp only [impl_MaskBy.l0, rd_impl_Run _ _ hi, impl_inRange_v, impl_InBox.f]
  rw [if_pos (by omega), if_pos (by omega), if_pos (by omega), if_pos (show rs[i].f1 ≥ a from p3), if_pos p4, if_pos (show rs[i].f0 ≥ b from p1), decide_eq_true p2]
  simp only [Option.bind_some, if_true]
  rw [if_neg (by omega), decide_eq_true p7]
  rfl
 ·simp only [impl_MaskBy.j1]
  rfl
theorem impl_no (i : Nat) (hi : i < rs.length) (l : List Int) (hg : ¬ iGeo a b c d rs[i]) : Ev (fun k => impl_MaskBy.l0 k rs (wrap64 (c - a)) rs (rs.length : Int) (i : Int) a b c d a b c d l) byFail := by
 have _ := hn
 have _ := hb
 refine Ev.step (f := fun k => impl_MaskBy.j1 k rs (wrap64 (c - a)) rs (rs.length : Int) (i : Int) true a b c d a b c d l rs[i].f0 rs[i].f1 rs[i].f2 rs[i].f3) (fun k => ?_) (ev_done (fun k => ?_))
 ·simp only [impl_MaskBy.l0, rd_impl_Run _ _ hi, impl_inRange_v, impl_InBox.f]
  rw [if_pos (by omega), if_pos (by omega), if_pos (by omega)]
  by_cases q : a ≤ rs[i].f1 ∧ rs[i].f1 < c ∧ b ≤ rs[i].f0 ∧ rs[i].f0 < d
  ·rw [if_pos (show rs[i].f1 ≥ a from q.1), if_pos q.2.1, if_pos (show rs[i].f0 ≥ b from q.2.2.1), decide_eq_true q.2.2.2]
   simp only [Option.bind_some, if_true]
   by_cases q2 : rs[i].f2 > c
   ·rw [if_pos q2]
   ·rw [if_neg q2, decide_eq_false (p := 1 ≤ rs[i].f3 ∧ rs[i].f3 ≤ 15) (fun q3 => hg ⟨q, by omega, q3⟩)]
    rfl
  ·by_cases q1 : rs[i].f1 ≥ a
   ·rw [if_pos q1]
    by_cases q2 : rs[i].f1 < c
    ·rw [if_pos q2]
     by_cases q3 : rs[i].f0 ≥ b
     ·rw [if_pos q3, decide_eq_false (p := rs[i].f0 < d) (fun q4 => q ⟨q1, q2, q3, q4⟩)]
      simp
     ·rw [if_neg q3]
      simp
    ·rw [if_neg q2]
     simp
   ·rw [if_neg q1]
    simp
 ·simp only [impl_MaskBy.j1, if_true]
  rfl
theorem maskOk_box {l : List Int} (hl : (l.length : Int) = (c - a) * (d - b)) : maskOkB a b c d l = allBits l := by
 have _ := hn
 have hz : ¬ (a = 0 ∧ b = 0 ∧ c = 0 ∧ d = 0) := by have := hb.1; omega
 unfold maskOkB
 rw [if_neg hz, decide_eq_true hb, decide_eq_true hl]
 rfl
theorem spec_bad (hbad : ∃ r ∈ rs, ¬ goodRun r) : ∀ (n i : Nat) (l : List Int), i + n = rs.length → (l.length : Int) = (c - a) * (d - b) → Ev (fun k => spec_MaskBy.l0 k rs (i : Int) a b c d a b c d l) byFail := by
 intro n
 induction n with
 | zero =>
  intro i l hi hl
  have q := area_bd hb
  have hm := spec_MaskOk_v a b c d l (by omega)
  rw [maskOk_box hb rs hn hl] at hm
  obtain ⟨g1, g2, g3, g4, g5, g6, g7, g8⟩ := id hb
  cases hA : allBits l with
  | true =>
   rw [hA] at hm
   obtain ⟨R, h1, h2, h3, h4⟩ := RunsOf_g hb hl hA
   have e : eqRuns R rs = false := by
    cases h : eqRuns R rs with
    | false => rfl
    | true =>
     obtain ⟨r, hr, hnr⟩ := hbad
     exact absurd (eqRuns_good R rs h h4 r hr) hnr
   have h5 := spec_j4_v a b c d l rs R (by omega)
   rw [e, if_neg (by simp)] at h5
   refine Ev.step (f := fun k => (spec_RunsOf.f k a b c d l).bind fun t144 => ((spec_MaskOk.f k a b c d l).bind fun t147 => (if t147 = true then (spec_MaskBy.j4 k rs t144 ((t144.length : Int) != (rs.length : Int)) a b c d l) else (spec_MaskBy.j4 k rs t144 true a b c d l)))) (fun k => ?_) (Ev.bind h1 (Ev.bind hm ?_))
   ·simp only [spec_MaskBy.l0]
    rw [if_neg (by omega)]
   ·simp only [if_true]
    exact h5
  | false =>
   rw [hA] at hm
   obtain ⟨R, h1, h2, h3⟩ := RunsOf_v (a := a) (b := b) (c := c) (d := d) l (by omega) (by omega) (by omega) (by omega) (by omega)
   refine Ev.step (f := fun k => (spec_RunsOf.f k a b c d l).bind fun t144 => ((spec_MaskOk.f k a b c d l).bind fun t147 => (if t147 = true then (spec_MaskBy.j4 k rs t144 ((t144.length : Int) != (rs.length : Int)) a b c d l) else (spec_MaskBy.j4 k rs t144 true a b c d l)))) (fun k => ?_) (Ev.bind h1 (Ev.bind hm ?_))
   ·simp only [spec_MaskBy.l0]
    rw [if_neg (by omega)]
   ·simp only [Bool.false_eq_true, if_false]
    refine ev_done (fun k => ?_)
    simp only [spec_MaskBy.j4, if_true]
    rfl
 | succ n ih =>
  intro i l hi hl
  have hi2 : i < rs.length := by omega
  by_cases hg : sGeo a b c d rs[i]
  ·exact spec_go hb rs hn i hi2 l hl hg (ih (i + 1) _ (by omega) (by unfold paintR; rw [paint1_length]; exact hl))
  ·exact spec_no hb rs hn i hi2 l hg
theorem impl_end (l : List Int) (hl : (l.length : Int) = (c - a) * (d - b)) (hA : allBits l = true) : ∃ R, Ev (fun k => spec_RunsOf.f k a b c d l) R ∧ R.length ≤ 3600 ∧ (∀ r ∈ R, goodRun r) ∧
  Ev (fun k => impl_MaskBy.l0 k rs (wrap64 (c - a)) rs (rs.length : Int) (rs.length : Int) a b c d a b c d l) (if eqRuns R rs = true then (a, b, c, d, l, true) else byFail) := by
 have _ := hn
 obtain ⟨R, h1, h2, h3, h4⟩ := RunsOf_g hb hl hA
 refine ⟨R, h1, h3, h4, ?_⟩
 refine Ev.step (f := fun k => (impl_RunsOf.f k a b c d l).bind fun t200 => ((impl_Run.f k t200 rs).bind fun t203 => (if t203 = true then (some (a, b, c, d, l, true)) else (some (0, 0, 0, 0, ([] : List Int), false))))) (fun k => ?_) (Ev.bind h2 (Ev.bind (impl_Run_v R rs (by omega)) ?_))
 ·simp only [impl_MaskBy.l0]
  rw [if_neg (by omega)]
 ·cases eqRuns R rs <;> exact Ev.now _
theorem impl_bad (hbad : ∃ r ∈ rs, ¬ goodRun r) : ∀ (n i : Nat) (l : List Int), i + n = rs.length → (l.length : Int) = (c - a) * (d - b) → allBits l = true → Ev (fun k => impl_MaskBy.l0 k rs (wrap64 (c - a)) rs (rs.length : Int) (i : Int) a b c d a b c d l) byFail := by
 intro n
 induction n with
 | zero =>
  intro i l hi hl hA
  obtain ⟨R, h1, h3, h4, h5⟩ := impl_end hb rs hn l hl hA
  have e : eqRuns R rs = false := by
   cases h : eqRuns R rs with
   | false => rfl
   | true =>
    obtain ⟨r, hr, hnr⟩ := hbad
    exact absurd (eqRuns_good R rs h h4 r hr) hnr
  rw [e, if_neg (by simp)] at h5
  obtain rfl : i = rs.length := by omega
  exact h5
 | succ n ih =>
  intro i l hi hl hA
  have hi2 : i < rs.length := by omega
  by_cases hg : iGeo a b c d rs[i]
  ·exact impl_go hb rs hn i hi2 l hl hg (ih (i + 1) _ (by omega) (by unfold paintR; rw [paint1_length]; exact hl) (paint1_bits a b c _ (by have := hg.2.2.1; omega) hg.2.2.2 _ _ _ hA))
  ·exact impl_no hb rs hn i hi2 l hg
theorem both_go : ∀ (n i : Nat) (l : List Int), i + n = rs.length → (l.length : Int) = (c - a) * (d - b) → allBits l = true → ∃ r : ByR, Ev (fun k => spec_MaskBy.l0 k rs (i : Int) a b c d a b c d l) r ∧ Ev (fun k => impl_MaskBy.l0 k rs (wrap64 (c - a)) rs (rs.length : Int) (i : Int) a b c d a b c d l) r ∧
  (r.2.2.2.2.1.length ≤ 3600) ∧ (3600 < rs.length → r = byFail) := by
 intro n
 induction n with
 | zero =>
  intro i l hi hl hA
  have q := area_bd hb
  obtain ⟨R, h1, h3, h4, h5⟩ := impl_end hb rs hn l hl hA
  have hm := spec_MaskOk_v a b c d l (by omega)
  rw [maskOk_box hb rs hn hl, hA] at hm
  obtain rfl : i = rs.length := by omega
  refine ⟨_, Ev.step (f := fun k => (spec_RunsOf.f k a b c d l).bind fun t144 => ((spec_MaskOk.f k a b c d l).bind fun t147 => (if t147 = true then (spec_MaskBy.j4 k rs t144 ((t144.length : Int) != (rs.length : Int)) a b c d l) else (spec_MaskBy.j4 k rs t144 true a b c d l)))) (fun k => ?_) (Ev.bind h1 (Ev.bind hm ?_)), h5, ?_, ?_⟩
  ·simp only [spec_MaskBy.l0]
   rw [if_neg (by omega)]
  ·simp only [if_true]
   exact spec_j4_v a b c d l rs R (by omega)
  ·split
   ·show l.length ≤ 3600
    omega
   ·simp [byFail]
  ·intro hw
   rw [if_neg]
   intro he
   have := eqRuns_len R rs he
   omega
 | succ n ih =>
  intro i l hi hl hA
  have hi2 : i < rs.length := by omega
  by_cases hs : sGeo a b c d rs[i]
  ·by_cases hg : iGeo a b c d rs[i]
   ·obtain ⟨r, h1, h2, h3⟩ := ih (i + 1) (paintR a b c rs[i] l) (by omega) (by unfold paintR; rw [paint1_length]; exact hl) (paint1_bits a b c _ (by have := hg.2.2.1; omega) hg.2.2.2 _ _ _ hA)
    exact ⟨r, spec_go hb rs hn i hi2 l hl hs h1, impl_go hb rs hn i hi2 l hl hg h2, h3⟩
   ·have hbad : ∃ r ∈ rs, ¬ goodRun r := ⟨rs[i], List.getElem_mem hi2, fun h => hg ⟨⟨hs.2.1.1, by have := hs.2.1.2; omega, hs.1.1, by have := hs.1.2; omega⟩, hs.2.2.2, h.2⟩⟩
    exact ⟨byFail, spec_bad hb rs hn hbad (n + 1) i l hi hl, impl_no hb rs hn i hi2 l hg, by simp [byFail], fun _ => rfl⟩
  ·by_cases hg : iGeo a b c d rs[i]
   ·have hbad : ∃ r ∈ rs, ¬ goodRun r := ⟨rs[i], List.getElem_mem hi2, fun h => hs ⟨⟨hg.1.2.2.1, by have := hg.1.2.2.2; omega⟩, ⟨hg.1.1, by have := hg.1.2.1; omega⟩, by have := h.1; omega, hg.2.1⟩⟩
    exact ⟨byFail, spec_no hb rs hn i hi2 l hs, impl_bad hb rs hn hbad (n + 1) i l hi hl hA, by simp [byFail], fun _ => rfl⟩
   ·exact ⟨byFail, spec_no hb rs hn i hi2 l hs, impl_no hb rs hn i hi2 l hg, by simp [byFail], fun _ => rfl⟩
end
theorem MaskBy_v {a b c d : Int} (rs : List S95) (hn : rs.length ≤ 1048576) (ha : -9223372036854775808 ≤ a ∧ a ≤ 9223372036854775807) (hb : -9223372036854775808 ≤ b ∧ b ≤ 9223372036854775807) (hc : -9223372036854775808 ≤ c ∧ c ≤ 9223372036854775807) (hd : -9223372036854775808 ≤ d ∧ d ≤ 9223372036854775807) :
  ∃ r : ByR, Ev (fun k => spec_MaskBy.f k a b c d rs) r ∧ Ev (fun k => impl_MaskBy.f k a b c d rs) r ∧ r.2.2.2.2.1.length ≤ 3600 := by
 unfold spec_MaskBy.f impl_MaskBy.f
 by_cases hz : (a == 0 && (b == 0 && (c == 0 && (d == 0)))) = true
 ·simp only [if_pos hz]
  exact ⟨_, Ev.now _, Ev.now _, by simp⟩
 ·simp only [if_neg hz, spec_l11Box_v, impl_isMaskBox_v ha hb hc hd, Option.bind_some]
  by_cases hx : maskBoxP a b c d
  ·have q := area_bd hx
   rw [decide_eq_true hx]
   simp only [if_true, area_w hx]
   simp only [if_pos (show 0 ≤ (c - a) * (d - b) by omega), if_pos (show ((c - a) * (d - b)).toNat ≤ 35184372088832 by omega)]
   obtain ⟨r, h1, h2, h3, h4⟩ := both_go hx rs hn rs.length 0 (List.replicate ((c - a) * (d - b)).toNat 0) (by omega) (by rw [List.length_replicate]; omega) (allBits_of fun z hz => by rw [(List.mem_replicate.mp hz).2]; omega)
   refine ⟨r, ?_, h2, h3⟩
   by_cases hw : 3600 < rs.length
   ·obtain rfl := h4 hw
    rw [decide_eq_true (by omega)]
    refine ev_done (fun k => ?_)
    simp only [spec_MaskBy.j0, if_true]
    rfl
   ·rw [decide_eq_false (by omega)]
    refine Ev.step (fun k => ?_) h1
    simp only [spec_MaskBy.j0, area_w hx, Bool.false_eq_true, if_false]
    rw [if_pos (by omega), if_pos (by omega)]
    rfl
  ·rw [decide_eq_false hx]
   refine ⟨byFail, ?_, Ev.now _, by simp [byFail]⟩
   simp only [Bool.false_eq_true, if_false]
   refine ev_done (fun k => ?_)
   simp only [spec_MaskBy.j0, if_true]
   rfl

/-! RunsT -/
theorem Ev.uniq {α : Type} {g : Nat → Option α} {r s : α} (h : Ev g r) (k : Ev g s) : r = s := by
 obtain ⟨K, hK⟩ := h
 obtain ⟨M, hM⟩ := k
 have h1 := hK (K + M) (by omega)
 rw [hM (K + M) (by omega)] at h1
 exact (Option.some.inj h1).symm
/-! The runs of a row, of a grid. -/
def runs2 (B : Int → Int → Int) (y : Int) : Nat → Int → Int → Int → List S95
 | 0, x0, v, e => if v = 0 then [] else [⟨y, x0, e, v⟩]
 | n + 1, x0, v, e => if B e y = v then runs2 B y n x0 v (e + 1) else (if v = 0 then [] else [⟨y, x0, e, v⟩]) ++ runs2 B y n e (B e y) (e + 1)
def rowRuns (B : Int → Int → Int) (y a : Int) : Nat → List S95
 | 0 => []
 | n + 1 => runs2 B y n a (B a y) (a + 1)
def allRuns (B : Int → Int → Int) (a : Int) (w : Nat) : Int → Nat → List S95
 | _, 0 => []
 | y, m + 1 => rowRuns B y a w ++ allRuns B a w (y + 1) m
theorem runs2_len (B : Int → Int → Int) (y : Int) : ∀ (n : Nat) (x0 v e : Int), (runs2 B y n x0 v e).length ≤ n + 1
 | 0, x0, v, e => by
  rw [runs2]
  split <;> simp
 | n + 1, x0, v, e => by
  rw [runs2]
  have h1 := runs2_len B y n x0 v (e + 1)
  have h2 := runs2_len B y n e (B e y) (e + 1)
  split
  ·omega
  ·split <;> simp <;> omega
theorem rowRuns_len (B : Int → Int → Int) (y a : Int) (w : Nat) : (rowRuns B y a w).length ≤ w := by
 cases w with
 | zero => simp [rowRuns]
 | succ n => exact runs2_len B y n a (B a y) (a + 1)
section
variable {a b c d : Int} {l : List Int} (B : Int → Int → Int) (hi : ∀ x y, impl_Mask_bitsAt.f a b c d l x y = some (B x y)) (hc0 : -2000 ≤ c) (hc1 : c ≤ 2000)
include hi hc0 hc1
theorem runs2_ev (y : Int) {R : List S95} : ∀ (n : Nat) (x0 v e : Int) (out : List S95), e + n = c → -2000 ≤ e → out.length + n + 1 ≤ 200000 → Ev (fun k => impl_RunsOf.l0 k (out ++ runs2 B y n x0 v e) (wrap64 (y + 1)) a b c d l) R → Ev (fun k => impl_RunsOf.l2 k out y x0 v e a b c d l) R := by
 intro n
 induction n with
 | zero =>
  intro x0 v e out he h0 ho h
  refine Ev.step (f := fun k => impl_RunsOf.l1 k (out ++ runs2 B y 0 x0 v e) y e a b c d l) (fun k => ?_) (Ev.step (fun k => ?_) h)
  ·simp only [impl_RunsOf.l2, runs2]
   rw [if_neg (by omega)]
   by_cases hv : v = 0
   ·rw [if_pos hv, if_pos hv, List.append_nil]
   ·rw [if_neg hv, if_neg hv, if_pos (by omega)]
  ·simp only [impl_RunsOf.l1]
   rw [if_neg (by omega)]
 | succ n ih =>
  intro x0 v e out he h0 ho h
  have e1 : wrap64 (e + 1) = e + 1 := w64 (by omega) (by omega)
  rw [runs2] at h
  by_cases hB : B e y = v
  ·rw [if_pos hB] at h
   refine Ev.step (fun k => ?_) (ih x0 v (e + 1) out (by omega) (by omega) (by omega) h)
   simp only [impl_RunsOf.l2, hi, Option.bind_some, hB, if_true, e1]
   rw [if_pos (by omega)]
  ·rw [if_neg hB, ← List.append_assoc] at h
   refine Ev.step (f := fun k => impl_RunsOf.l1 k (out ++ (if v = 0 then [] else [⟨y, x0, e, v⟩])) y e a b c d l) (fun k => ?_) (Ev.step (fun k => ?_) (ih e (B e y) (e + 1) _ (by omega) (by omega) (by split <;> simp <;> omega) h))
   ·simp only [impl_RunsOf.l2, hi, Option.bind_some, if_neg hB]
    rw [if_pos (by omega)]
    by_cases hv : v = 0
    ·rw [if_pos hv, if_pos hv, List.append_nil]
    ·rw [if_neg hv, if_neg hv, if_pos (by omega)]
   ·simp only [impl_RunsOf.l1, hi, Option.bind_some, e1]
    rw [if_pos (by omega)]
theorem allRuns_ev (w : Nat) (hw : (w : Int) = c - a) (hw60 : w ≤ 60) (ha : -2000 ≤ a) (hd : d ≤ 2000) : ∀ (m : Nat) (y : Int) (out : List S95), y + m = d → -2000 ≤ y → out.length + 60 * m ≤ 100000 →
  Ev (fun k => impl_RunsOf.l0 k out y a b c d l) (out ++ allRuns B a w y m) := by
 intro m
 induction m with
 | zero =>
  intro y out hy h0 ho
  refine ev_done (fun k => ?_)
  simp only [impl_RunsOf.l0, allRuns, List.append_nil]
  rw [if_neg (by omega)]
 | succ m ih =>
  intro y out hy h0 ho
  have e1 : wrap64 (y + 1) = y + 1 := w64 (by omega) (by omega)
  have hl := rowRuns_len B y a w
  have h := ih (y + 1) (out ++ rowRuns B y a w) (by omega) (by omega) (by simp; omega)
  rw [List.append_assoc, ← allRuns] at h
  refine Ev.step (f := fun k => impl_RunsOf.l1 k out y a a b c d l) (fun k => ?_) ?_
  ·simp only [impl_RunsOf.l0]
   rw [if_pos (by omega)]
  ·cases w with
   | zero =>
    refine Ev.step (f := fun k => impl_RunsOf.l0 k out (wrap64 (y + 1)) a b c d l) (fun k => ?_) ?_
    ·simp only [impl_RunsOf.l1]
     rw [if_neg (by omega)]
    ·rw [e1]
     simp only [rowRuns, List.append_nil] at h
     exact h
   | succ n =>
    have e2 : wrap64 (a + 1) = a + 1 := w64 (by omega) (by omega)
    refine Ev.step (f := fun k => impl_RunsOf.l2 k out y a (B a y) (a + 1) a b c d l) (fun k => ?_) (runs2_ev B hi hc0 hc1 y n a (B a y) (a + 1) out (by omega) (by omega) (by omega) ?_)
    ·simp only [impl_RunsOf.l1, hi, Option.bind_some, e2]
     rw [if_pos (by omega)]
    ·rw [e1]
     exact h
end
def adjR (p q : S95) : Prop := ¬ (p.f0 > q.f0 ∨ p.f0 = q.f0 ∧ (p.f2 > q.f1 ∨ p.f2 = q.f1 ∧ p.f3 = q.f3))
def ascR : List S95 → Prop
 | p :: q :: t => adjR p q ∧ ascR (q :: t)
 | _ => True
def okRun (B : Int → Int → Int) (y x0 c : Int) (r : S95) : Prop := r.f0 = y ∧ x0 ≤ r.f1 ∧ r.f1 < r.f2 ∧ r.f2 ≤ c ∧ r.f3 ≠ 0 ∧ ∀ x, r.f1 ≤ x → x < r.f2 → B x y = r.f3
theorem runs2_ok (B : Int → Int → Int) (y c : Int) : ∀ (n : Nat) (x0 v e : Int), e + n = c → x0 < e → (∀ x, x0 ≤ x → x < e → B x y = v) →
  (∀ r ∈ runs2 B y n x0 v e, okRun B y x0 c r) ∧ (∀ x, x0 ≤ x → x < c → B x y ≠ 0 → ∃ r ∈ runs2 B y n x0 v e, r.f1 ≤ x ∧ x < r.f2) ∧ ascR (runs2 B y n x0 v e) := by
 intro n
 induction n with
 | zero =>
  intro x0 v e he hx hv
  rw [runs2]
  by_cases h : v = 0
  ·rw [if_pos h]
   refine ⟨by simp, fun x h1 h2 h3 => absurd (hv x h1 (by omega)) (by omega), trivial⟩
  ·rw [if_neg h]
   refine ⟨fun r hr => ?_, fun x h1 h2 h3 => ⟨_, List.mem_singleton.mpr rfl, h1, by show x < e; omega⟩, trivial⟩
   obtain rfl := List.mem_singleton.mp hr
   exact ⟨rfl, Int.le_refl _, hx, by show e ≤ c; omega, h, fun x h1 h2 => hv x h1 h2⟩
 | succ n ih =>
  intro x0 v e he hx hv
  rw [runs2]
  by_cases hB : B e y = v
  ·rw [if_pos hB]
   refine ih x0 v (e + 1) (by omega) (by omega) (fun x h1 h2 => ?_)
   by_cases hxe : x = e
   ·rw [hxe]
    exact hB
   ·exact hv x h1 (by omega)
  ·rw [if_neg hB]
   obtain ⟨i1, i2, i3⟩ := ih e (B e y) (e + 1) (by omega) (by omega) (fun x h1 h2 => by rw [show x = e by omega])
   have lift : ∀ r, okRun B y e c r → okRun B y x0 c r := fun r h => ⟨h.1, by have := h.2.1; omega, h.2.2⟩
   by_cases h : v = 0
   ·rw [if_pos h, List.nil_append]
    refine ⟨fun r hr => lift r (i1 r hr), fun x h1 h2 h3 => ?_, i3⟩
    by_cases hxe : x < e
    ·exact absurd (hv x h1 hxe) (by omega)
    ·exact i2 x (by omega) h2 h3
   ·rw [if_neg h, List.singleton_append]
    refine ⟨fun r hr => ?_, fun x h1 h2 h3 => ?_, ?_⟩
    ·rcases List.mem_cons.mp hr with rfl | hr
     ·exact ⟨rfl, Int.le_refl _, hx, by show e ≤ c; omega, h, fun x h1 h2 => hv x h1 h2⟩
     ·exact lift r (i1 r hr)
    ·by_cases hxe : x < e
     ·exact ⟨_, List.mem_cons_self, h1, hxe⟩
     ·obtain ⟨r, hr, h4⟩ := i2 x (by omega) h2 h3
      exact ⟨r, List.mem_cons_of_mem _ hr, h4⟩
    ·generalize hT : runs2 B y n e (B e y) (e + 1) = T at i1 i3 ⊢
     cases T with
     | nil => trivial
     | cons q t =>
      obtain ⟨q1, q2, q3, q4, q5, q6⟩ := i1 q List.mem_cons_self
      refine ⟨?_, i3⟩
      unfold adjR
      show ¬ (y > q.f0 ∨ y = q.f0 ∧ (e > q.f1 ∨ e = q.f1 ∧ v = q.f3))
      rintro (h1 | ⟨_, h1 | ⟨h1, h2⟩⟩)
      ·omega
      ·omega
      ·have h3 := q6 q.f1 (Int.le_refl _) q3
       rw [← h1] at h3
       exact hB (by rw [h3, h2])
theorem ascR_app : ∀ (xs ys : List S95), ascR xs → ascR ys → (∀ p ∈ xs, ∀ q ∈ ys, adjR p q) → ascR (xs ++ ys)
 | [], ys, _, h, _ => h
 | [p], [], _, _, _ => trivial
 | [p], q :: t, _, h, hh => ⟨hh p List.mem_cons_self q List.mem_cons_self, h⟩
 | p :: q :: t, ys, h1, h2, hh => ⟨h1.1, ascR_app (q :: t) ys h1.2 h2 (fun p' hp' => hh p' (List.mem_cons_of_mem _ hp'))⟩
theorem ascR_get : ∀ (xs : List S95), ascR xs → ∀ (i : Nat) (h : i + 1 < xs.length), adjR (xs[i]'(by omega)) (xs[i + 1]'h)
 | [], _, i, h => absurd h (by simp)
 | [_], _, i, h => absurd h (by simp)
 | p :: q :: t, hs, 0, h => hs.1
 | p :: q :: t, hs, i + 1, h => ascR_get (q :: t) hs.2 i (by simpa using h)
theorem allRuns_ok (B : Int → Int → Int) (a c : Int) (w : Nat) (hw : (w : Int) = c - a) : ∀ (m : Nat) (y : Int),
  (∀ r ∈ allRuns B a w y m, (y ≤ r.f0 ∧ r.f0 < y + m) ∧ okRun B r.f0 a c r) ∧ (∀ x y', a ≤ x → x < c → y ≤ y' → y' < y + m → B x y' ≠ 0 → ∃ r ∈ allRuns B a w y m, r.f0 = y' ∧ r.f1 ≤ x ∧ x < r.f2) ∧ ascR (allRuns B a w y m) := by
 intro m
 induction m with
 | zero =>
  intro y
  exact ⟨by simp [allRuns], fun x y' _ _ _ _ => by omega, trivial⟩
 | succ m ih =>
  intro y
  obtain ⟨i1, i2, i3⟩ := ih (y + 1)
  have hrow : (∀ r ∈ rowRuns B y a w, okRun B y a c r) ∧ (∀ x, a ≤ x → x < c → B x y ≠ 0 → ∃ r ∈ rowRuns B y a w, r.f1 ≤ x ∧ x < r.f2) ∧ ascR (rowRuns B y a w) := by
   cases w with
   | zero => exact ⟨by simp [rowRuns], fun x _ _ => by omega, trivial⟩
   | succ n => exact runs2_ok B y c n a (B a y) (a + 1) (by omega) (by omega) (fun x h1 h2 => by rw [show x = a by omega])
  obtain ⟨r1, r2, r3⟩ := hrow
  rw [allRuns]
  refine ⟨fun r hr => ?_, fun x y' h1 h2 h3 h4 h5 => ?_, ascR_app _ _ r3 i3 (fun p hp q hq => ?_)⟩
  ·rcases List.mem_append.mp hr with h | h
   ·have h1 := r1 r h
    have h2 := h1.1
    refine ⟨by omega, ?_⟩
    rw [h2]
    exact h1
   ·obtain ⟨h1, h2⟩ := i1 r h
    exact ⟨by omega, h2⟩
  ·by_cases hy : y' = y
   ·obtain ⟨r, hr, h6⟩ := r2 x h1 h2 (by rw [← hy]; exact h5)
    exact ⟨r, List.mem_append_left _ hr, by rw [hy]; exact (r1 r hr).1, h6⟩
   ·obtain ⟨r, hr, h6⟩ := i2 x y' h1 h2 (by omega) (by omega) h5
    exact ⟨r, List.mem_append_right _ hr, h6⟩
  ·have h1 := (r1 p hp).1
   have h2 := (i1 q hq).1
   unfold adjR
   omega
/-! What is painted out of a mask's runs is the mask. -/
section
variable {a b c d : Int} (hb : maskBoxP a b c d) {l : List Int} (hl : (l.length : Int) = (c - a) * (d - b))
include hb hl
theorem idx_get (x y : Int) (h : a ≤ x ∧ x < c ∧ b ≤ y ∧ y < d) : l[((y - b) * (c - a) + x - a).toNat]? = some (bitsP a b c d l x y) := by
 obtain ⟨_, e2, e3⟩ := place_bd hb h
 unfold bitsP rd
 rw [if_pos h, List.getD_eq_getElem?_getD, List.getElem?_eq_getElem (by omega), Option.getD_some]
theorem paint1_keep (y v : Int) (hy : b ≤ y ∧ y < d) : ∀ (n : Nat) (x : Int) (L : List Int), a ≤ x → x + n ≤ c → (∀ x', x ≤ x' → x' < x + n → bitsP a b c d l x' y = v) → L.length = l.length →
  (∀ j : Nat, L[j]? = l[j]? → (paint1 a b c y v n x L)[j]? = l[j]?) ∧ (∀ j : Nat, L[j]? = some 0 → (paint1 a b c y v n x L)[j]? = some 0 ∨ (paint1 a b c y v n x L)[j]? = l[j]?) ∧ (∀ x', x ≤ x' → x' < x + n → (paint1 a b c y v n x L)[((y - b) * (c - a) + x' - a).toNat]? = l[((y - b) * (c - a) + x' - a).toNat]?) := by
 intro n
 induction n with
 | zero =>
  intro x L h0 h1 hv hL
  exact ⟨fun j h => h, fun j h => .inl h, fun x' h2 h3 => by omega⟩
 | succ n ih =>
  intro x L h0 h1 hv hL
  have hin : a ≤ x ∧ x < c ∧ b ≤ y ∧ y < d := ⟨h0, by omega, hy.1, hy.2⟩
  obtain ⟨_, e2, e3⟩ := place_bd hb hin
  have hg := idx_get hb hl x y hin
  rw [hv x (by omega) (by omega)] at hg
  generalize hI : ((y - b) * (c - a) + x - a).toNat = I at *
  have hIl : I < L.length := by omega
  obtain ⟨i1, i2, i3⟩ := ih (x + 1) (L.set I v) (by omega) (by omega) (fun x' h2 h3 => hv x' (by omega) (by omega)) (by rw [List.length_set]; exact hL)
  have hset : ∀ j, (L.set I v)[j]? = if I = j then some v else L[j]? := fun j => by
   rw [List.getElem?_set]
   split
   ·rfl
   ·rfl
  rw [paint1, hI]
  refine ⟨fun j h => i1 j ?_, fun j h => ?_, fun x' h2 h3 => ?_⟩
  ·rw [hset]
   split
   ·rename_i he
    rw [← he, hg]
   ·exact h
  ·by_cases he : I = j
   ·refine .inr (i1 j ?_)
    rw [hset, if_pos he, ← he, hg]
   ·exact i2 j (by rw [hset, if_neg he]; exact h)
  ·by_cases hx : x' = x
   ·rw [hx, hI]
    refine i1 I ?_
    rw [hset, if_pos rfl, hg]
   ·exact i3 x' (by omega) (by omega)
theorem paints_self (rs : List S95) (hr : ∀ r ∈ rs, (b ≤ r.f0 ∧ r.f0 < d) ∧ okRun (bitsP a b c d l) r.f0 a c r) : ∀ (L : List Int), L.length = l.length →
  (∀ j : Nat, L[j]? = l[j]? → (rs.foldl (fun L r => paintR a b c r L) L)[j]? = l[j]?) ∧ (∀ j : Nat, L[j]? = some 0 → (rs.foldl (fun L r => paintR a b c r L) L)[j]? = some 0 ∨ (rs.foldl (fun L r => paintR a b c r L) L)[j]? = l[j]?) ∧ (rs.foldl (fun L r => paintR a b c r L) L).length = l.length ∧
  (∀ r ∈ rs, ∀ x, r.f1 ≤ x → x < r.f2 → (rs.foldl (fun L r => paintR a b c r L) L)[((r.f0 - b) * (c - a) + x - a).toNat]? = l[((r.f0 - b) * (c - a) + x - a).toNat]?) := by
 induction rs with
 | nil =>
  intro L hL
  exact ⟨fun j h => h, fun j h => .inl h, hL, by simp⟩
 | cons r rs ih =>
  intro L hL
  obtain ⟨⟨g1, g2⟩, h0, h1, h2, h3, h4, h5⟩ := hr r List.mem_cons_self
  obtain ⟨p1, p2, p3⟩ := paint1_keep hb hl r.f0 r.f3 ⟨g1, g2⟩ (r.f2 - r.f1).toNat r.f1 L h1 (by omega) (fun x' q1 q2 => h5 x' q1 (by omega)) hL
  obtain ⟨i1, i2, i3, i4⟩ := ih (fun r' hr' => hr r' (List.mem_cons_of_mem _ hr')) (paintR a b c r L) (by unfold paintR; rw [paint1_length]; exact hL)
  rw [List.foldl_cons]
  refine ⟨fun j h => i1 j (p1 j h), fun j h => ?_, i3, fun r' hr' x q1 q2 => ?_⟩
  ·rcases p2 j h with q | q
   ·exact i2 j q
   ·exact .inr (i1 j q)
  ·rcases List.mem_cons.mp hr' with rfl | hr'
   ·exact i1 _ (p3 x q1 (by omega))
   ·exact i4 r' hr' x q1 q2
theorem paints_all (w m : Nat) (hw : (w : Int) = c - a) (hm : (m : Int) = d - b) : (allRuns (bitsP a b c d l) a w b m).foldl (fun L r => paintR a b c r L) (List.replicate l.length 0) = l := by
 obtain ⟨k1, k2, k3⟩ := allRuns_ok (bitsP a b c d l) a c w hw m b
 obtain ⟨i1, i2, i3, i4⟩ := paints_self hb hl (allRuns (bitsP a b c d l) a w b m) (fun r hr => ⟨by have := (k1 r hr).1; omega, (k1 r hr).2⟩) (List.replicate l.length 0) (by simp)
 apply List.ext_getElem?
 intro j
 by_cases hj : j < l.length
 ·have hn : l.length = m * w := by
   have h : ((l.length : Nat) : Int) = ((m * w : Nat) : Int) := by rw [hl, Int.natCast_mul, hw, hm, Int.mul_comm]
   omega
  have hw0 : 0 < w := by have := hb.1; omega
  have e : j / w * w + j % w = j := by
   have := Nat.div_add_mod j w
   rw [Nat.mul_comm] at this
   exact this
  have hj1 : j / w < m := Nat.div_lt_of_lt_mul (by rw [Nat.mul_comm]; omega)
  have hj2 : j % w < w := Nat.mod_lt _ hw0
  generalize j / w = J at e hj1
  generalize j % w = I at e hj2
  have hin : a ≤ a + (I : Int) ∧ a + (I : Int) < c ∧ b ≤ b + (J : Int) ∧ b + (J : Int) < d := by omega
  have hI : ((b + (J : Int) - b) * (c - a) + (a + (I : Int)) - a).toNat = j := by
   rw [← hw, show b + (J : Int) - b = (J : Int) by omega, ← Int.natCast_mul]
   omega
  have hg := idx_get hb hl (a + (I : Int)) (b + (J : Int)) hin
  rw [hI] at hg
  by_cases hz : bitsP a b c d l (a + (I : Int)) (b + (J : Int)) = 0
  ·rw [hz] at hg
   rcases i2 j (by rw [List.getElem?_replicate, if_pos hj]) with h | h
   ·rw [h, hg]
   ·exact h
  ·obtain ⟨r, hr, q1, q2, q3⟩ := k2 _ _ hin.1 hin.2.1 hin.2.2.1 (by omega) hz
   have h := i4 r hr _ q2 q3
   rw [q1, hI] at h
   exact h
 ·rw [List.getElem?_eq_none (by omega), List.getElem?_eq_none (by omega)]
end
theorem runB_eq (x y : S95) (h : runB x y = true) : x = y := by
 cases x
 cases y
 simp only [runB, Bool.and_eq_true, beq_iff_eq] at h
 obtain ⟨rfl, rfl, rfl, rfl⟩ := h
 rfl
theorem eqRuns_eq : ∀ xs ys : List S95, eqRuns xs ys = true → xs = ys
 | [], [], _ => rfl
 | x :: xs, y :: ys, h => by
  simp only [eqRuns, Bool.and_eq_true] at h
  rw [runB_eq x y h.1, eqRuns_eq xs ys h.2]
 | [], _ :: _, h => by simp [eqRuns] at h
 | _ :: _, [], h => by simp [eqRuns] at h
theorem eqRuns_self : ∀ xs : List S95, eqRuns xs xs = true
 | [] => rfl
 | x :: xs => by simp [eqRuns, runB, eqRuns_self xs]
/-- What a right mask's runs are. -/
theorem RunsOf_all {a b c d : Int} {l : List Int} (hb : maskBoxP a b c d) (hl : (l.length : Int) = (c - a) * (d - b)) (hA : allBits l = true) (w m : Nat) (hw : (w : Int) = c - a) (hm : (m : Int) = d - b) :
  Ev (fun k => spec_RunsOf.f k a b c d l) (allRuns (bitsP a b c d l) a w b m) ∧ Ev (fun k => impl_RunsOf.f k a b c d l) (allRuns (bitsP a b c d l) a w b m) ∧ (allRuns (bitsP a b c d l) a w b m).length ≤ 3600 := by
 have q := area_bd hb
 obtain ⟨g1, g2, g3, g4, g5, g6, g7, g8⟩ := id hb
 obtain ⟨R, h1, h2, h3⟩ := RunsOf_v (a := a) (b := b) (c := c) (d := d) l (by omega) (by omega) (by omega) (by omega) (by omega)
 have hok : maskOkB a b c d l = true := by
  unfold maskOkB
  rw [if_neg (by omega), decide_eq_true hb, decide_eq_true hl, hA]
  rfl
 have hm1 := impl_MaskOk_v (a := a) (b := b) (c := c) (d := d) l (by omega) (by omega) (by omega) (by omega) (by omega)
 rw [hok] at hm1
 have h := allRuns_ev (bitsP a b c d l) (fun x y => impl_bitsAt_v x y hb hl) (by omega) (by omega) w hw (by omega) (by omega) (by omega) m b [] (by omega) (by omega) (by simp; omega)
 rw [List.nil_append] at h
 have h4 : Ev (fun k => impl_RunsOf.f k a b c d l) (allRuns (bitsP a b c d l) a w b m) := by
  unfold impl_RunsOf.f
  refine Ev.bind hm1 ?_
  simp only [if_true]
  exact h
 have e := Ev.uniq h2 h4
 rw [e] at h1 h3
 exact ⟨h1, h4, h3⟩
def byOk (r : ByR) (rs : List S95) : Prop := (r.2.2.2.2.2 = true ∧ Ev (fun k => impl_RunsOf.f k r.1 r.2.1 r.2.2.1 r.2.2.2.1 r.2.2.2.2.1) rs) ∨ r = byFail
section
variable {a b c d : Int} (hb : maskBoxP a b c d) (rs : List S95) (hn : rs.length ≤ 1048576)
include hb hn
theorem by_go : ∀ (n i : Nat) (l : List Int), i + n = rs.length → (l.length : Int) = (c - a) * (d - b) → allBits l = true → ∃ r : ByR, Ev (fun k => impl_MaskBy.l0 k rs (wrap64 (c - a)) rs (rs.length : Int) (i : Int) a b c d a b c d l) r ∧ byOk r rs := by
 intro n
 induction n with
 | zero =>
  intro i l hi hl hA
  obtain ⟨R, h1, h3, h4, h5⟩ := impl_end hb rs hn l hl hA
  obtain rfl : i = rs.length := by omega
  refine ⟨_, h5, ?_⟩
  by_cases he : eqRuns R rs = true
  ·rw [if_pos he]
   refine .inl ⟨rfl, ?_⟩
   obtain ⟨g1, g2, g3, g4, g5, g6, g7, g8⟩ := id hb
   obtain ⟨w, hw⟩ : ∃ w : Nat, (w : Int) = c - a := ⟨(c - a).toNat, by omega⟩
   obtain ⟨m, hm⟩ : ∃ m : Nat, (m : Int) = d - b := ⟨(d - b).toNat, by omega⟩
   obtain ⟨k1, k2, _⟩ := RunsOf_all hb hl hA w m hw hm
   have e := Ev.uniq h1 k1
   rw [← eqRuns_eq R rs he, e]
   exact k2
  ·rw [if_neg he]
   exact .inr rfl
 | succ n ih =>
  intro i l hi hl hA
  have hi2 : i < rs.length := by omega
  by_cases hg : iGeo a b c d rs[i]
  ·obtain ⟨r, h2, h3⟩ := ih (i + 1) (paintR a b c rs[i] l) (by omega) (by unfold paintR; rw [paint1_length]; exact hl) (paint1_bits a b c _ (by have := hg.2.2.1; omega) hg.2.2.2 _ _ _ hA)
   exact ⟨r, impl_go hb rs hn i hi2 l hl hg h2, h3⟩
  ·exact ⟨byFail, impl_no hb rs hn i hi2 l hg, .inr rfl⟩
theorem by_self {R : ByR} (hg : ∀ r ∈ rs, iGeo a b c d r) : ∀ (n i : Nat) (l : List Int), i + n = rs.length → (l.length : Int) = (c - a) * (d - b) → allBits l = true → Ev (fun k => impl_MaskBy.l0 k rs (wrap64 (c - a)) rs (rs.length : Int) (rs.length : Int) a b c d a b c d ((rs.drop i).foldl (fun L r => paintR a b c r L) l)) R →
  Ev (fun k => impl_MaskBy.l0 k rs (wrap64 (c - a)) rs (rs.length : Int) (i : Int) a b c d a b c d l) R := by
 intro n
 induction n with
 | zero =>
  intro i l hi hl hA h
  obtain rfl : i = rs.length := by omega
  rw [List.drop_length] at h
  exact h
 | succ n ih =>
  intro i l hi hl hA h
  have hi2 : i < rs.length := by omega
  have g := hg _ (List.getElem_mem hi2)
  rw [List.drop_eq_getElem_cons hi2, List.foldl_cons] at h
  exact impl_go hb rs hn i hi2 l hl g (ih (i + 1) (paintR a b c rs[i] l) (by omega) (by unfold paintR; rw [paint1_length]; exact hl) (paint1_bits a b c _ (by have := g.2.2.1; omega) g.2.2.2 _ _ _ hA) h)
end
/-- A mask comes back from its runs. -/
theorem MaskBy_self {a b c d : Int} {l : List Int} (hb : maskBoxP a b c d) (hl : (l.length : Int) = (c - a) * (d - b)) (hA : allBits l = true) (w m : Nat) (hw : (w : Int) = c - a) (hm : (m : Int) = d - b) :
  Ev (fun k => impl_MaskBy.f k a b c d (allRuns (bitsP a b c d l) a w b m)) (a, b, c, d, l, true) := by
 have q := area_bd hb
 obtain ⟨g1, g2, g3, g4, g5, g6, g7, g8⟩ := id hb
 obtain ⟨k1, k2, k3⟩ := RunsOf_all hb hl hA w m hw hm
 obtain ⟨o1, o2, o3⟩ := allRuns_ok (bitsP a b c d l) a c w hw m b
 have hz : ¬ ((a == 0 && (b == 0 && (c == 0 && (d == 0)))) = true) := by
  simp only [Bool.and_eq_true, beq_iff_eq]
  omega
 have hp := paints_all hb hl w m hw hm
 generalize hR : allRuns (bitsP a b c d l) a w b m = rs at *
 have hg : ∀ r ∈ rs, iGeo a b c d r := by
  intro r hr
  obtain ⟨p1, q0, q1, q2, q3, q4, q5⟩ := o1 r hr
  have hv := bitsP_bd (a := a) (b := b) (c := c) (d := d) hA r.f1 r.f0
  rw [q5 r.f1 (Int.le_refl _) q2] at hv
  exact ⟨⟨q1, by omega, by omega, by omega⟩, q3, by omega, by omega⟩
 obtain ⟨R, h1, h3, h4, h5⟩ := impl_end hb rs (by omega) l hl hA
 have e := Ev.uniq h1 k1
 rw [e, eqRuns_self, if_pos rfl] at h5
 have hr0 : List.replicate l.length (0 : Int) = List.replicate ((c - a) * (d - b)).toNat 0 := by
  congr 1
  omega
 rw [hr0] at hp
 have h6 := by_self hb rs (by omega) hg rs.length 0 (List.replicate ((c - a) * (d - b)).toNat 0) (by omega) (by rw [List.length_replicate]; omega) (allBits_of fun z hz => by rw [(List.mem_replicate.mp hz).2]; omega) (by rw [List.drop_zero, hp]; exact h5)
 unfold impl_MaskBy.f
 simp only [if_neg hz, impl_isMaskBox_v (a := a) (b := b) (c := c) (d := d) (by omega) (by omega) (by omega) (by omega), Option.bind_some]
 rw [decide_eq_true hb]
 simp only [if_true, area_w hb]
 simp only [if_pos (show 0 ≤ (c - a) * (d - b) by omega), if_pos (show ((c - a) * (d - b)).toNat ≤ 35184372088832 by omega)]
 exact h6
/-- What MaskBy tells, and that its mask has just these runs. -/
theorem MaskBy_g {a b c d : Int} (rs : List S95) (hn : rs.length ≤ 1048576) (ha : -9223372036854775808 ≤ a ∧ a ≤ 9223372036854775807) (hb : -9223372036854775808 ≤ b ∧ b ≤ 9223372036854775807) (hc : -9223372036854775808 ≤ c ∧ c ≤ 9223372036854775807) (hd : -9223372036854775808 ≤ d ∧ d ≤ 9223372036854775807) :
  ∃ r : ByR, Ev (fun k => spec_MaskBy.f k a b c d rs) r ∧ Ev (fun k => impl_MaskBy.f k a b c d rs) r ∧ r.2.2.2.2.1.length ≤ 3600 ∧ byOk r rs := by
 obtain ⟨r, h1, h2, h3⟩ := MaskBy_v rs hn ha hb hc hd
 refine ⟨r, h1, h2, h3, ?_⟩
 have hnone : Ev (fun k => impl_RunsOf.f k 0 0 0 0 []) ([] : List S95) := by
  have hm := impl_MaskOk_v (a := 0) (b := 0) (c := 0) (d := 0) [] (by simp) (by omega) (by omega) (by omega) (by omega)
  rw [show maskOkB 0 0 0 0 [] = true by decide] at hm
  unfold impl_RunsOf.f
  refine Ev.bind hm ?_
  simp only [if_true]
  refine ev_done (fun k => ?_)
  simp only [impl_RunsOf.l0]
  rw [if_neg (by omega)]
 have key : ∃ s : ByR, Ev (fun k => impl_MaskBy.f k a b c d rs) s ∧ byOk s rs := by
  unfold impl_MaskBy.f
  by_cases hz : (a == 0 && (b == 0 && (c == 0 && (d == 0)))) = true
  ·simp only [if_pos hz]
   cases rs with
   | nil => exact ⟨_, Ev.now _, .inl ⟨rfl, hnone⟩⟩
   | cons x xs => exact ⟨_, Ev.now _, .inr (by simp [byFail]; omega)⟩
  ·simp only [if_neg hz, impl_isMaskBox_v ha hb hc hd, Option.bind_some]
   by_cases hx : maskBoxP a b c d
   ·have q := area_bd hx
    rw [decide_eq_true hx]
    simp only [if_true, area_w hx]
    simp only [if_pos (show 0 ≤ (c - a) * (d - b) by omega), if_pos (show ((c - a) * (d - b)).toNat ≤ 35184372088832 by omega)]
    exact by_go hx rs hn rs.length 0 (List.replicate ((c - a) * (d - b)).toNat 0) (by omega) (by rw [List.length_replicate]; omega) (allBits_of fun z hz => by rw [(List.mem_replicate.mp hz).2]; omega)
   ·rw [decide_eq_false hx]
    refine ⟨byFail, ?_, .inr rfl⟩
    simp only [Bool.false_eq_true, if_false]
    exact Ev.now _
 obtain ⟨s, k1, k2⟩ := key
 rw [Ev.uniq h2 k1]
 exact k2

/-! DrawB -/
theorem and255 (n : Int) : Go.bits .and .i64 n 255 = n % 256 := by
 have h255 : (BitVec.ofInt 64 255).toNat = 2 ^ 8 - 1 := by decide
 have key : (BitVec.ofInt 64 n &&& BitVec.ofInt 64 255).toNat = (n % ((2 ^ 64 : Nat) : Int)).toNat % 2 ^ 8 := by
  rw [BitVec.toNat_and, BitVec.toNat_ofInt, h255, Nat.and_two_pow_sub_one_eq_mod]
 show IntKind.i64.wrap ((BitVec.ofInt 64 n &&& BitVec.ofInt 64 255).toNat : Nat) = n % 256
 rw [key, IntKind.wrap_i64]
 omega
theorem byte_r (l : List Int) (p s : Int) (hp : 0 ≤ p) (hl : p ≤ l.length) (hn : l.length ≤ 1048576) : ∃ b q t : Int, spec_l01Byte.f l p s = some (b, q, t) ∧ 0 ≤ b ∧ b ≤ 255 ∧ 0 ≤ q ∧ q ≤ l.length := by
 unfold spec_l01Byte.f
 by_cases h : p < (l.length : Int)
 ·rw [if_pos h, if_pos hp]
  refine ⟨_, _, _, rfl, ?_, ?_, ?_, ?_⟩
  ·rw [and255]
   omega
  ·rw [and255]
   omega
  ·rw [w64 (by omega) (by omega)]
   omega
  ·rw [w64 (by omega) (by omega)]
   omega
 ·rw [if_neg h]
  refine ⟨_, _, _, rfl, ?_, ?_, hp, hl⟩
  ·rw [and255]
   omega
  ·rw [and255]
   omega
theorem below_r (l : List Int) (p s n : Int) (hp : 0 ≤ p) (hl : p ≤ l.length) (hn : l.length ≤ 1048576) (h0 : 0 < n) (h1 : n ≤ 9223372036854775807) : ∃ b q t : Int, spec_l01Below.f l p s n = some (b, q, t) ∧ 0 ≤ b ∧ b < n ∧ 0 ≤ q ∧ q ≤ l.length := by
 unfold spec_l01Below.f
 rw [if_neg (by omega)]
 by_cases h : n ≤ 256
 ·obtain ⟨b, q, t, e, b0, b1, q0, q1⟩ := byte_r l p s hp hl hn
  rw [if_pos h, e]
  simp only [Option.bind_some]
  rw [if_neg (by omega)]
  refine ⟨_, _, _, rfl, ?_, ?_, q0, q1⟩
  ·exact Int.tmod_nonneg _ b0
  ·exact Int.tmod_lt_of_pos _ h0
 ·obtain ⟨b, q, t, e, b0, b1, q0, q1⟩ := byte_r l p s hp hl hn
  obtain ⟨b', q', t', e', b0', b1', q0', q1'⟩ := byte_r l q t q0 q1 hn
  obtain ⟨b2, q2, t2, e2, b02, b12, q02, q12⟩ := byte_r l q' t' q0' q1' hn
  obtain ⟨b3, q3, t3, e3, b03, b13, q03, q13⟩ := byte_r l q2 t2 q02 q12 hn
  rw [if_neg h, e]
  simp only [Option.bind_some, e', e2, e3]
  rw [if_neg (by omega)]
  refine ⟨_, _, _, rfl, ?_, ?_, q03, q13⟩
  ·refine Int.tmod_nonneg _ ?_
   rw [w64 (x := b * 16777216) (by omega) (by omega), w64 (x := b' * 65536) (by omega) (by omega), w64 (x := b2 * 256) (by omega) (by omega), w64 (x := b * 16777216 + b' * 65536) (by omega) (by omega), w64 (x := b * 16777216 + b' * 65536 + b2 * 256) (by omega) (by omega), w64 (by omega) (by omega)]
   omega
  ·exact Int.tmod_lt_of_pos _ h0
theorem new_l (l : List Int) (hn : l.length ≤ 1048576) : ∀ (d : Nat) (i : Int) (x3 : Int), i + d = 4000 → 0 ≤ i → ∃ s, Ev (fun k => spec_l01New.l0 k l x3 i) (l, 0, s) := by
 intro d
 induction d with
 | zero =>
  intro i x3 hi h0
  refine ⟨x3, ev_done (fun k => ?_)⟩
  simp only [spec_l01New.l0]
  by_cases h : i < (l.length : Int)
  ·rw [if_pos h, if_neg (by omega)]
  ·rw [if_neg h]
 | succ d ih =>
  intro i x3 hi h0
  by_cases h : i < (l.length : Int)
  ·obtain ⟨s, hs⟩ := ih (i + 1) (Go.bits .and .i64 (wrap64 ((wrap64 ((wrap64 (x3 * 131)) + (wrap64 (rd l i)))) + 7)) 1073741823) (by omega) (by omega)
   refine ⟨s, Ev.step (fun k => ?_) hs⟩
   simp only [spec_l01New.l0]
   rw [if_pos h, if_pos (by omega), if_pos h0, w64 (x := i + 1) (by omega) (by omega)]
  ·refine ⟨x3, ev_done (fun k => ?_)⟩
   simp only [spec_l01New.l0]
   rw [if_neg h]
theorem new_v (l : List Int) (hn : l.length ≤ 1048576) : ∃ s, Ev (fun k => spec_l01New.f k l) (l, 0, s) := by
 obtain ⟨s, hs⟩ := new_l l hn 4000 0 (wrap64 (28001 + (l.length : Int))) (by omega) (by omega)
 exact ⟨s, hs⟩

/-! DrawPointR -/
theorem point_r (l : List Int) (p s : Int) (hp : 0 ≤ p) (hl : p ≤ l.length) (hn : l.length ≤ 1048576) : ∃ a b q t : Int, spec_l04Point.f l p s = some (a, b, q, t) ∧ 0 ≤ q ∧ q ≤ l.length := by
 obtain ⟨b0, q0, t0, e0, l0, u0, v0, w0⟩ := below_r l p s 3600 hp hl hn (by omega) (by omega)
 obtain ⟨b1, q1, t1, e1, l1, u1, v1, w1⟩ := below_r l q0 t0 3600 v0 w0 hn (by omega) (by omega)
 unfold spec_l04Point.f
 rw [e0]
 simp only [Option.bind_some, e1]
 exact ⟨_, _, _, _, rfl, v1, w1⟩
theorem once_r (l : List Int) (p s n : Int) (hp : 0 ≤ p) (hl : p ≤ l.length) (hn : l.length ≤ 1048576) (h0 : 0 < n) (h1 : n ≤ 1000000) : ∃ (b : Bool) (q t : Int), spec_l01Once.f l p s n = some (b, q, t) ∧ 0 ≤ q ∧ q ≤ l.length := by
 obtain ⟨b, q, t, e, _, _, v, w⟩ := below_r l p s n hp hl hn h0 (by omega)
 unfold spec_l01Once.f
 rw [e]
 exact ⟨_, _, _, rfl, v, w⟩

/-! DrawPick -/
theorem pick_r (l : List Int) (p s : Int) (xs : List Int) (hp : 0 ≤ p) (hl : p ≤ l.length) (hn : l.length ≤ 1048576) (h0 : 0 < xs.length) (h1 : xs.length ≤ 1048576) : ∃ (i : Nat) (q t : Int), spec_l01PickInt.f l p s xs = some (rd xs (i : Int), q, t) ∧ i < xs.length ∧ 0 ≤ q ∧ q ≤ l.length := by
 obtain ⟨b, q, t, e, b0, b1, q0, q1⟩ := below_r l p s (xs.length : Int) hp hl hn (by omega) (by omega)
 unfold spec_l01PickInt.f
 rw [e]
 simp only [Option.bind_some]
 rw [if_pos b0, if_pos b1]
 refine ⟨b.toNat, q, t, ?_, by omega, q0, q1⟩
 rw [Int.toNat_of_nonneg b0]

/-! spec_PointOk -/
def pointOkP (a b : Int) : Prop := (-8388608 ≤ a ∧ a ≤ 8388608) ∧ (-8388608 ≤ b ∧ b ≤ 8388608)
instance (a b : Int) : Decidable (pointOkP a b) := by unfold pointOkP; infer_instance
theorem spec_PointOk_v (a b : Int) : spec_PointOk.f a b = some (decide (pointOkP a b)) := by
 unfold spec_PointOk.f pointOkP
 simp only [spec_l01In_v, Option.bind_some, decide_eq_true_eq]
 repeat' split
 all_goals first | (refine congrArg some (decide_eq_decide.mpr ?_); omega) | (refine congrArg some (Eq.symm (decide_eq_false ?_)); omega)

/-! PathB -/
def needB (v : Int) : Int := if v = 1 ∨ v = 2 then 1 else if v = 3 then 2 else if v = 4 then 3 else if v = 5 then 0 else -1
theorem needB_bd (v : Int) : -1 ≤ needB v ∧ needB v ≤ 3 := by
 unfold needB
 repeat' split
 all_goals omega
def prevB (l : List Int) : Nat → Int
 | 0 => 5
 | i + 1 => rd l (i : Int)
def verbsB : Int → List Int → Int → Option Int
 | _, [], n => some n
 | p, v :: vs, n => if needB v < 0 then none else if p = 5 ∧ v ≠ 1 then none else verbsB v vs (n + needB v)
def pointsB (l : List S52) : Bool := l.all (fun p => decide (pointOkP p.f0 p.f1))
def endB (pts : List S52) : Option Int → Bool
 | none => false
 | some m => m == (pts.length : Int)
def pathB (l : List Int) (pts : List S52) : Bool := decide (pts.length ≤ 24) && (decide (l.length ≤ 24) && (pointsB pts && endB pts (verbsB 5 l 0)))

/-! rd_impl_Point -/
theorem rd_impl_Point (xs : List S52) (i : Nat) (h : i < xs.length) : rd_T52 xs (i : Int) = xs[i] := by
 unfold rd_T52
 simp [h]

/-! PathOk_spec -/
theorem spec_NeedOf_v (v : Int) : spec_NeedOf.f v = some (needB v) := by
 unfold spec_NeedOf.f
 simp only [spec_l01In_v, Option.bind_some]
 by_cases h : 1 ≤ v ∧ v ≤ 5
 ·rw [decide_eq_true h, if_pos rfl]
  have h5 : v = 1 ∨ v = 2 ∨ v = 3 ∨ v = 4 ∨ v = 5 := by omega
  rcases h5 with rfl | rfl | rfl | rfl | rfl <;> simp [wrap64, rd, needB]
 ·rw [decide_eq_false h, if_neg (by simp)]
  unfold needB
  rw [if_neg (by omega), if_neg (by omega), if_neg (by omega), if_neg (by omega)]
theorem spec_points_l (l : List Int) (pts : List S52) (n : Int) (hn : pts.length ≤ 1048576) : ∀ (d i : Nat), i + d = pts.length → Ev (fun k => spec_PathOk.l1 k n (i : Int) l pts) (pointsB (pts.drop i) && (n == (pts.length : Int))) := by
 intro d
 induction d with
 | zero =>
  intro i hi
  refine ev_done (fun k => ?_)
  simp only [spec_PathOk.l1]
  rw [if_neg (by omega), List.drop_of_length_le (by omega)]
  rfl
 | succ d ih =>
  intro i hi
  have hi2 : i < pts.length := by omega
  rw [List.drop_eq_getElem_cons hi2, pointsB, List.all_cons]
  by_cases hx : pointOkP pts[i].f0 pts[i].f1
  ·rw [decide_eq_true hx, Bool.true_and]
   refine Ev.step (fun k => ?_) (ih (i + 1) (by omega))
   simp only [spec_PathOk.l1, spec_PointOk_v, Option.bind_some]
   rw [if_pos (by omega), if_pos (by omega), rd_impl_Point _ _ hi2, step64 hi2 (by omega), if_pos (by simpa using hx)]
  ·rw [decide_eq_false hx, Bool.false_and, Bool.false_and]
   refine ev_done (fun k => ?_)
   simp only [spec_PathOk.l1, spec_PointOk_v, Option.bind_some]
   rw [if_pos (by omega), if_pos (by omega), rd_impl_Point _ _ hi2, if_neg (by simpa using hx)]
theorem spec_path_l (l : List Int) (pts : List S52) (hn : l.length ≤ 24) (hp : pts.length ≤ 24) : ∀ (d i : Nat) (n : Int), i + d = l.length → 0 ≤ n → n ≤ 3 * (i : Int) →
  Ev (fun k => spec_PathOk.l0 k n (i : Int) l pts) (pointsB pts && endB pts (verbsB (prevB l i) (l.drop i) n)) := by
 intro d
 induction d with
 | zero =>
  intro i n hi h0 h1
  rw [List.drop_of_length_le (by omega)]
  refine Ev.step (fun k => ?_) (spec_points_l l pts n (by omega) pts.length 0 (by omega))
  simp only [spec_PathOk.l0]
  rw [if_neg (by omega)]
  rfl
 | succ d ih =>
  intro i n hi h0 h1
  have hi2 : i < l.length := by omega
  have hb := needB_bd l[i]
  have hno : (pointsB pts && false) = false := Bool.and_false _
  rw [List.drop_eq_getElem_cons hi2, verbsB]
  by_cases hneg : needB l[i] < 0
  ·rw [if_pos hneg]
   show Ev _ (pointsB pts && false)
   rw [hno]
   refine ev_done (fun k => ?_)
   simp only [spec_PathOk.l0, rd_int _ _ hi2, spec_NeedOf_v, Option.bind_some]
   rw [if_pos (by omega), if_pos (by omega), if_pos hneg]
  ·rw [if_neg hneg]
   have hr := ih (i + 1) (n + needB l[i]) (by omega) (by omega) (by omega)
   rw [show prevB l (i + 1) = l[i] from rd_int l i hi2] at hr
   cases i with
   | zero =>
    by_cases hv : l[0] = 1
    ·rw [if_neg (fun h => h.2 hv)]
     refine Ev.step (fun k => ?_) hr
     simp only [spec_PathOk.l0, rd_int _ _ hi2, spec_NeedOf_v, Option.bind_some]
     rw [if_pos (by omega), if_pos (by omega), if_neg hneg, if_pos (by omega), if_pos hv, w64 (x := n + needB l[0]) (by omega) (by omega), step64 hi2 (by omega)]
    ·rw [if_pos ⟨rfl, hv⟩]
     show Ev _ (pointsB pts && false)
     rw [hno]
     refine ev_done (fun k => ?_)
     simp only [spec_PathOk.l0, rd_int _ _ hi2, spec_NeedOf_v, Option.bind_some]
     rw [if_pos (by omega), if_pos (by omega), if_neg hneg, if_pos (by omega), if_neg hv]
   | succ j =>
    have ej : wrap64 (((j + 1 : Nat) : Int) - 1) = (j : Int) := by rw [w64 (by omega) (by omega)]; omega
    show Ev _ (pointsB pts && endB pts (if rd l (j : Int) = 5 ∧ l[j + 1] ≠ 1 then none else _))
    by_cases hp5 : rd l (j : Int) = 5
    ·by_cases hv : l[j + 1] = 1
     ·rw [if_neg (fun h => h.2 hv)]
      refine Ev.step (fun k => ?_) hr
      simp only [spec_PathOk.l0, rd_int _ _ hi2, spec_NeedOf_v, Option.bind_some, ej]
      rw [if_pos (by omega), if_pos (by omega), if_neg hneg, if_neg (by omega), if_pos (by omega), if_pos (by omega), if_pos hp5, if_pos hv, w64 (x := n + needB l[j + 1]) (by omega) (by omega), step64 hi2 (by omega)]
     ·rw [if_pos ⟨hp5, hv⟩]
      show Ev _ (pointsB pts && false)
      rw [hno]
      refine ev_done (fun k => ?_)
      simp only [spec_PathOk.l0, rd_int _ _ hi2, spec_NeedOf_v, Option.bind_some, ej]
      rw [if_pos (by omega), if_pos (by omega), if_neg hneg, if_neg (by omega), if_pos (by omega), if_pos (by omega), if_pos hp5, if_neg hv]
    ·rw [if_neg (fun h => hp5 h.1)]
     refine Ev.step (fun k => ?_) hr
     simp only [spec_PathOk.l0, rd_int _ _ hi2, spec_NeedOf_v, Option.bind_some, ej]
     rw [if_pos (by omega), if_pos (by omega), if_neg hneg, if_neg (by omega), if_pos (by omega), if_pos (by omega), if_neg hp5, w64 (x := n + needB l[j + 1]) (by omega) (by omega), step64 hi2 (by omega)]
theorem spec_PathOk_v (l : List Int) (pts : List S52) : Ev (fun k => spec_PathOk.f k l pts) (pathB l pts) := by
 unfold spec_PathOk.f pathB
 have hno : Ev (fun k => spec_PathOk.j0 k true l pts) false := ev_done (fun k => rfl)
 by_cases h1 : pts.length ≤ 24
 ·rw [decide_eq_true h1, Bool.true_and]
  simp only [if_neg (show ¬ (pts.length : Int) > 24 by omega)]
  by_cases h2 : l.length ≤ 24
  ·rw [decide_eq_true h2, Bool.true_and, decide_eq_false (show ¬ (l.length : Int) > 24 by omega)]
   exact Ev.step (fun k => rfl) (spec_path_l l pts h2 h1 l.length 0 0 (by omega) (by omega) (by omega))
  ·rw [decide_eq_false h2, Bool.false_and, decide_eq_true (show (l.length : Int) > 24 by omega)]
   exact hno
 ·rw [decide_eq_false h1, Bool.false_and]
  simp only [if_pos (show (pts.length : Int) > 24 by omega)]
  exact hno

/-! DrawPath -/
def pathFits (a : List Int) (b : List S52) : Prop := a.length ≤ 100 ∧ b.length ≤ 100
theorem RectPath_ex (a b c d : Int) : ∃ vs ps, spec_RectPath.f a b c d = some (vs, ps) ∧ pathFits vs ps := by
 unfold spec_RectPath.f spec_Empty.f
 simp only [spec_PointOk_v, Option.bind_some]
 repeat' split
 all_goals simp only [Option.bind_some]
 all_goals repeat' split
 all_goals first | exact ⟨_, _, rfl, by simp [pathFits]⟩ | (exfalso; simp_all; done) | skip
section
variable (l : List Int) (hn : l.length ≤ 1048576)
include hn
theorem path_pts (x6 v : Int) (vs : List Int) (H : ∀ (ps : List S52) (p s : Int), ps.length ≤ 3 * vs.length → 0 ≤ p → p ≤ l.length → ∃ a b q t, Ev (fun k => spec_l06Path.l0 k (wrap64 (x6 + 1)) l p s vs ps) (a, b, q, t) ∧ pathFits a b ∧ 0 ≤ q ∧ q ≤ l.length) :
  ∀ (c : Nat) (j : Int) (ps : List S52) (p s : Int), j + c = (if needB v < 0 then 0 else needB v) → 0 ≤ j → ps.length + c ≤ 3 * vs.length → vs.length ≤ 100 → 0 ≤ p → p ≤ l.length →
  ∃ a b q t, Ev (fun k => spec_l06Path.l1 k x6 v j l p s vs ps) (a, b, q, t) ∧ pathFits a b ∧ 0 ≤ q ∧ q ≤ l.length := by
 intro c
 induction c with
 | zero =>
  intro j ps p s hj h0 hl hk hp hq
  obtain ⟨a, b, q, t, k1, k2⟩ := H ps p s (by omega) hp hq
  refine ⟨a, b, q, t, Ev.step (fun k => ?_) k1, k2⟩
  simp only [spec_l06Path.l1, spec_NeedOf_v, Option.bind_some]
  rw [if_neg (by split at hj <;> omega)]
 | succ c ih =>
  intro j ps p s hj h0 hl hk hp hq
  obtain ⟨u, w, q2, t2, e2, v2, w2⟩ := point_r l p s hp hq hn
  have hb := needB_bd v
  obtain ⟨a, b, q, t, k1, k2⟩ := ih (j + 1) (ps ++ [⟨u, w⟩]) q2 t2 (by omega) (by omega) (by simp; omega) hk v2 w2
  refine ⟨a, b, q, t, Ev.step (fun k => ?_) k1, k2⟩
  simp only [spec_l06Path.l1, spec_NeedOf_v, e2, Option.bind_some]
  rw [if_pos (by split at hj <;> omega), if_pos (by omega), w64 (x := j + 1) (by split at hj <;> omega) (by split at hj <;> omega)]
theorem path_l : ∀ (d : Nat) (i : Nat) (vs : List Int) (ps : List S52) (p s : Int), i + d = 6 → vs.length = i → ps.length ≤ 3 * i → 0 ≤ p → p ≤ l.length →
  ∃ a b q t, Ev (fun k => spec_l06Path.l0 k (i : Int) l p s vs ps) (a, b, q, t) ∧ pathFits a b ∧ 0 ≤ q ∧ q ≤ l.length := by
 intro d
 induction d with
 | zero =>
  intro i vs ps p s hi hv hps hp hq
  obtain ⟨b0, q0, t0, e0, l0, u0, v0, w0⟩ := below_r l p s 6 hp hq hn (by omega) (by omega)
  refine ⟨vs, ps, q0, t0, ev_done (fun k => ?_), ⟨by omega, by omega⟩, v0, w0⟩
  simp only [spec_l06Path.l0, e0, Option.bind_some]
  rw [if_neg (by rw [w64 (by omega) (by omega)]; omega)]
 | succ d ih =>
  intro i vs ps p s hi hv hps hp hq
  obtain ⟨b0, q0, t0, e0, l0, u0, v0, w0⟩ := below_r l p s 6 hp hq hn (by omega) (by omega)
  by_cases hb : (i : Int) < wrap64 (1 + b0)
  ·obtain ⟨vi, q1, t1, e1, l1, v1, w1⟩ := pick_r l q0 t0 [2, 2, 2, 3, 4, 5, 1] v0 w0 hn (by simp) (by simp)
   have hj2 : ∀ v : Int, ∃ a b q t, Ev (fun k => spec_l06Path.j2 k (i : Int) v l q1 t1 vs ps) (a, b, q, t) ∧ pathFits a b ∧ 0 ≤ q ∧ q ≤ l.length := by
    intro v
    by_cases hg : wrap64 ((ps.length : Int) + needB v) > 24
    ·refine ⟨vs, ps, q1, t1, ev_done (fun k => ?_), ⟨by omega, by omega⟩, v1, w1⟩
     simp only [spec_l06Path.j2, spec_NeedOf_v, Option.bind_some]
     rw [if_pos hg]
    ·obtain ⟨c, hc⟩ : ∃ c : Nat, (c : Int) = (if needB v < 0 then 0 else needB v) := ⟨(if needB v < 0 then 0 else needB v).toNat, by split <;> omega⟩
     have hbd := needB_bd v
     obtain ⟨a, b, q, t, k1, k2⟩ := path_pts l hn (i : Int) v (vs ++ [v]) (fun ps' p' s' r1 r2 r3 => by
      have := ih (i + 1) (vs ++ [v]) ps' p' s' (by omega) (by simp; omega) (by simp at r1; omega) r2 r3
      rw [w64 (x := (i : Int) + 1) (by omega) (by omega), show (i : Int) + 1 = ((i + 1 : Nat) : Int) by omega]
      exact this) c 0 ps q1 t1 (by omega) (by omega) (by simp; split at hc <;> omega) (by simp; omega) v1 w1
     refine ⟨a, b, q, t, Ev.step (fun k => ?_) k1, k2⟩
     simp only [spec_l06Path.j2, spec_NeedOf_v, Option.bind_some]
     rw [if_neg hg, if_pos (by omega)]
   have hj1 : ∀ (v : Int) (f : Bool), ∃ a b q t, Ev (fun k => spec_l06Path.j1 k (i : Int) v f l q1 t1 vs ps) (a, b, q, t) ∧ pathFits a b ∧ 0 ≤ q ∧ q ≤ l.length := by
    intro v f
    cases f with
    | true =>
     obtain ⟨a, b, q, t, k1, k2⟩ := hj2 1
     exact ⟨a, b, q, t, Ev.step (fun k => rfl) k1, k2⟩
    | false =>
     obtain ⟨a, b, q, t, k1, k2⟩ := hj2 v
     exact ⟨a, b, q, t, Ev.step (fun k => rfl) k1, k2⟩
   cases i with
   | zero =>
    obtain ⟨a, b, q, t, k1, k2⟩ := hj1 (rd [2, 2, 2, 3, 4, 5, 1] (vi : Int)) true
    refine ⟨a, b, q, t, Ev.step (fun k => ?_) k1, k2⟩
    simp only [spec_l06Path.l0, e0, e1, Option.bind_some]
    rw [if_pos hb]
    rfl
   | succ j =>
    obtain ⟨a, b, q, t, k1, k2⟩ := hj1 (rd [2, 2, 2, 3, 4, 5, 1] (vi : Int)) ((rd vs (wrap64 (((j + 1 : Nat) : Int) - 1))) == 5)
    refine ⟨a, b, q, t, Ev.step (fun k => ?_) k1, k2⟩
    have ej : wrap64 (((j + 1 : Nat) : Int) - 1) = (j : Int) := by rw [w64 (by omega) (by omega)]; omega
    simp only [spec_l06Path.l0, e0, e1, Option.bind_some, ej]
    rw [if_pos hb, if_neg (by omega), if_pos (by omega), if_pos (by omega)]
  ·refine ⟨vs, ps, q0, t0, ev_done (fun k => ?_), ⟨by omega, by omega⟩, v0, w0⟩
   simp only [spec_l06Path.l0, e0, Option.bind_some]
   rw [if_neg hb]
theorem Path_v (p s : Int) (hp : 0 ≤ p) (hq : p ≤ l.length) : ∃ a b q t, Ev (fun k => spec_l06Path.f k l p s) (a, b, q, t) ∧ pathFits a b ∧ 0 ≤ q ∧ q ≤ l.length := by
 obtain ⟨o, q0, t0, e0, v0, w0⟩ := once_r l p s 2 hp hq hn (by omega) (by omega)
 cases o with
 | true =>
  obtain ⟨b1, q1, t1, e1, _, _, v1, w1⟩ := below_r l q0 t0 2400 v0 w0 hn (by omega) (by omega)
  obtain ⟨b2, q2, t2, e2, _, _, v2, w2⟩ := below_r l q1 t1 2400 v1 w1 hn (by omega) (by omega)
  obtain ⟨b3, q3, t3, e3, _, _, v3, w3⟩ := below_r l q2 t2 1500 v2 w2 hn (by omega) (by omega)
  obtain ⟨b4, q4, t4, e4, _, _, v4, w4⟩ := below_r l q3 t3 1500 v3 w3 hn (by omega) (by omega)
  obtain ⟨vs, ps, e5, hf⟩ := RectPath_ex b1 b2 (wrap64 ((wrap64 (b1 + 1)) + b3)) (wrap64 ((wrap64 (b2 + 1)) + b4))
  refine ⟨vs, ps, q4, t4, ?_, hf, v4, w4⟩
  unfold spec_l06Path.f
  simp only [e0, e1, e2, e3, e4, e5, Option.bind_some, if_true]
  exact Ev.now _
 | false =>
  obtain ⟨a, b, q, t, k1, k2⟩ := path_l l hn 6 0 [] [] q0 t0 (by omega) rfl (by simp) v0 w0
  refine ⟨a, b, q, t, ?_, k2⟩
  unfold spec_l06Path.f
  simp only [e0, Option.bind_some, Bool.false_eq_true, if_false]
  exact k1
end

/-! FlatOf -/
theorem floorDiv_ex (x b : Int) (hb : 1 ≤ b) : ∃ r, spec_FloorDiv.f x b = some r := by
 unfold spec_FloorDiv.f
 repeat' split
 all_goals first | exact ⟨_, rfl⟩ | (exfalso; omega)
theorem roundDiv_ex (x b : Int) (hb : 1 ≤ b) : ∃ r, spec_RoundDiv.f x b = some r := by
 obtain ⟨q, h⟩ := floorDiv_ex x b hb
 unfold spec_RoundDiv.f
 rw [h]
 simp only [Option.bind_some]
 repeat' split
 all_goals exact ⟨_, rfl⟩
theorem clamp_ex (x a b : Int) : ∃ r, spec_Clamp.f x a b = some r := by
 unfold spec_Clamp.f
 repeat' split
 all_goals exact ⟨_, rfl⟩
theorem quad_ex (a b c d e f i : Int) : ∃ p q : Int, Ev (fun k => spec_QuadAt.f k a b c d e f i) (p, q) := by
 have h0 : ∃ p q : Int, Ev (fun k => spec_QuadAt.j0 k i true a b c d e f) (p, q) := ⟨0, 0, ev_done (fun k => rfl)⟩
 have h1 : ∃ p q : Int, Ev (fun k => spec_QuadAt.j0 k i false a b c d e f) (p, q) := by
  obtain ⟨t, ht⟩ := clamp_ex i 0 4
  obtain ⟨u, hu⟩ := roundDiv_ex (wrap64 ((wrap64 ((wrap64 ((wrap64 ((wrap64 (4 - t)) * (wrap64 (4 - t)))) * a)) + (wrap64 ((wrap64 ((wrap64 (2 * t)) * (wrap64 (4 - t)))) * c)))) + (wrap64 ((wrap64 (t * t)) * e)))) 16 (by omega)
  obtain ⟨v, hv⟩ := roundDiv_ex (wrap64 ((wrap64 ((wrap64 ((wrap64 ((wrap64 (4 - t)) * (wrap64 (4 - t)))) * b)) + (wrap64 ((wrap64 ((wrap64 (2 * t)) * (wrap64 (4 - t)))) * d)))) + (wrap64 ((wrap64 (t * t)) * f)))) 16 (by omega)
  refine ⟨u, v, ev_done (fun k => ?_)⟩
  simp only [spec_QuadAt.j0, Bool.false_eq_true, if_false, ht, hu, hv, Option.bind_some]
 unfold spec_QuadAt.f
 simp only [spec_PointOk_v, Option.bind_some]
 cases decide (pointOkP a b) with
 | false => exact h0
 | true =>
  cases decide (pointOkP c d) with
  | false => exact h0
  | true =>
   cases decide (pointOkP e f) with
   | false => exact h0
   | true => exact h1
theorem cubic_ex (a b c d e f g h i : Int) : ∃ p q : Int, Ev (fun k => spec_CubicAt.f k a b c d e f g h i) (p, q) := by
 have h0 : ∃ p q : Int, Ev (fun k => spec_CubicAt.j0 k i true a b c d e f g h) (p, q) := ⟨0, 0, ev_done (fun k => rfl)⟩
 have h1 : ∃ p q : Int, Ev (fun k => spec_CubicAt.j0 k i false a b c d e f g h) (p, q) := by
  obtain ⟨t, ht⟩ := clamp_ex i 0 8
  obtain ⟨u, hu⟩ := roundDiv_ex (wrap64 ((wrap64 ((wrap64 ((wrap64 ((wrap64 ((wrap64 ((wrap64 (8 - t)) * (wrap64 (8 - t)))) * (wrap64 (8 - t)))) * a)) + (wrap64 ((wrap64 ((wrap64 ((wrap64 (3 * t)) * (wrap64 (8 - t)))) * (wrap64 (8 - t)))) * c)))) + (wrap64 ((wrap64 ((wrap64 ((wrap64 (3 * t)) * t)) * (wrap64 (8 - t)))) * e)))) + (wrap64 ((wrap64 ((wrap64 (t * t)) * t)) * g)))) 512 (by omega)
  obtain ⟨v, hv⟩ := roundDiv_ex (wrap64 ((wrap64 ((wrap64 ((wrap64 ((wrap64 ((wrap64 ((wrap64 (8 - t)) * (wrap64 (8 - t)))) * (wrap64 (8 - t)))) * b)) + (wrap64 ((wrap64 ((wrap64 ((wrap64 (3 * t)) * (wrap64 (8 - t)))) * (wrap64 (8 - t)))) * d)))) + (wrap64 ((wrap64 ((wrap64 ((wrap64 (3 * t)) * t)) * (wrap64 (8 - t)))) * f)))) + (wrap64 ((wrap64 ((wrap64 (t * t)) * t)) * h)))) 512 (by omega)
  refine ⟨u, v, ev_done (fun k => ?_)⟩
  simp only [spec_CubicAt.j0, Bool.false_eq_true, if_false, ht, hu, hv, Option.bind_some]
 unfold spec_CubicAt.f
 simp only [spec_PointOk_v, Option.bind_some]
 cases decide (pointOkP a b) with
 | false => exact h0
 | true =>
  cases decide (pointOkP c d) with
  | false => exact h0
  | true =>
   cases decide (pointOkP e f) with
   | false => exact h0
   | true =>
    cases decide (pointOkP g h) with
    | false => exact h0
    | true => exact h1
theorem verbsB_le : ∀ (vs : List Int) (p n m : Int), verbsB p vs n = some m → n ≤ m
 | [], _, n, m, h => by
  obtain rfl := Option.some.inj h
  omega
 | v :: vs, p, n, m, h => by
  rw [verbsB] at h
  split at h
  ·cases h
  ·split at h
   ·cases h
   ·have := verbsB_le vs v _ m h
    omega
def flatGood (r : List (List S52)) : Prop := r.length ≤ 30 ∧ ∀ x ∈ r, x.length ≤ 300
section
variable (l : List Int) (pts : List S52) (hn : l.length ≤ 24) (hp : pts.length ≤ 24)
include hn hp
theorem flat_quad (out : List (List S52)) (i : Nat) (hi : i < l.length) (n qa qb : Int) (h0 : 0 ≤ n) (h1 : n + 2 ≤ (pts.length : Int)) (nd : Int) (hnd : needB l[i] = nd)
  (H : ∀ now : List S52, 0 < now.length → now.length ≤ 9 * (i + 1) → ∃ r, Ev (fun k => spec_FlatOf.l0 k out now (wrap64 (n + nd)) (wrap64 ((i : Int) + 1)) l pts) r ∧ flatGood r) : ∀ (c : Nat) (j : Int) (now : List S52), j + c = 5 → 1 ≤ j → 0 < now.length → now.length + c ≤ 9 * (i + 1) →
  ∃ r, Ev (fun k => spec_FlatOf.l1 k out now n (i : Int) j l pts qa qb) r ∧ flatGood r := by
 intro c
 induction c with
 | zero =>
  intro j now hj hj1 hw hl
  obtain ⟨r, k1, k2⟩ := H now hw (by omega)
  refine ⟨r, Ev.step (fun k => ?_) k1, k2⟩
  simp only [spec_FlatOf.l1, rd_int _ _ hi, spec_NeedOf_v, Option.bind_some, hnd]
  rw [if_neg (by omega), if_pos (by omega), if_pos (by omega)]
 | succ c ih =>
  intro j now hj hj1 hw hl
  obtain ⟨u, v, hq⟩ := quad_ex qa qb (rd_T52 pts n).f0 (rd_T52 pts n).f1 (rd_T52 pts (n + 1)).f0 (rd_T52 pts (n + 1)).f1 j
  obtain ⟨r, k1, k2⟩ := ih (j + 1) (now ++ [⟨u, v⟩]) (by omega) (by omega) (by simp) (by simp; omega)
  refine ⟨r, ?_, k2⟩
  refine Ev.step (fun k => rfl) ?_
  simp only [spec_FlatOf.l1, if_pos (show j ≤ 4 by omega), if_pos h0, if_pos (show n < (pts.length : Int) by omega), w64 (x := n + 1) (by omega) (by omega), if_pos (show 0 ≤ n + 1 by omega), if_pos (show n + 1 < (pts.length : Int) by omega)]
  refine Ev.bind hq ?_
  simp only [if_pos (show now.length < 8796093022208 by omega), w64 (x := j + 1) (by omega) (by omega)]
  exact k1
theorem flat_cubic (out : List (List S52)) (i : Nat) (hi : i < l.length) (n qa qb : Int) (h0 : 0 ≤ n) (h1 : n + 3 ≤ (pts.length : Int)) (nd : Int) (hnd : needB l[i] = nd)
  (H : ∀ now : List S52, 0 < now.length → now.length ≤ 9 * (i + 1) → ∃ r, Ev (fun k => spec_FlatOf.l0 k out now (wrap64 (n + nd)) (wrap64 ((i : Int) + 1)) l pts) r ∧ flatGood r) : ∀ (c : Nat) (j : Int) (now : List S52), j + c = 9 → 1 ≤ j → 0 < now.length → now.length + c ≤ 9 * (i + 1) →
  ∃ r, Ev (fun k => spec_FlatOf.l2 k out now n (i : Int) j l pts qa qb) r ∧ flatGood r := by
 intro c
 induction c with
 | zero =>
  intro j now hj hj1 hw hl
  obtain ⟨r, k1, k2⟩ := H now hw (by omega)
  refine ⟨r, Ev.step (fun k => ?_) k1, k2⟩
  simp only [spec_FlatOf.l2, rd_int _ _ hi, spec_NeedOf_v, Option.bind_some, hnd]
  rw [if_neg (by omega), if_pos (by omega), if_pos (by omega)]
 | succ c ih =>
  intro j now hj hj1 hw hl
  obtain ⟨u, v, hq⟩ := cubic_ex qa qb (rd_T52 pts n).f0 (rd_T52 pts n).f1 (rd_T52 pts (n + 1)).f0 (rd_T52 pts (n + 1)).f1 (rd_T52 pts (n + 2)).f0 (rd_T52 pts (n + 2)).f1 j
  obtain ⟨r, k1, k2⟩ := ih (j + 1) (now ++ [⟨u, v⟩]) (by omega) (by omega) (by simp) (by simp; omega)
  refine ⟨r, ?_, k2⟩
  refine Ev.step (fun k => rfl) ?_
  simp only [spec_FlatOf.l2, if_pos (show j ≤ 8 by omega), if_pos h0, if_pos (show n < (pts.length : Int) by omega), w64 (x := n + 1) (by omega) (by omega), w64 (x := n + 2) (by omega) (by omega), if_pos (show 0 ≤ n + 1 by omega), if_pos (show n + 1 < (pts.length : Int) by omega), if_pos (show 0 ≤ n + 2 by omega), if_pos (show n + 2 < (pts.length : Int) by omega)]
  refine Ev.bind hq ?_
  simp only [if_pos (show now.length < 8796093022208 by omega), w64 (x := j + 1) (by omega) (by omega)]
  exact k1
theorem flat_l : ∀ (d i : Nat) (n : Int) (out : List (List S52)) (now : List S52), i + d = l.length → 0 ≤ n → verbsB (prevB l i) (l.drop i) n = some (pts.length : Int) → (0 < i → 0 < now.length) → out.length ≤ i → now.length ≤ 9 * i → (∀ x ∈ out, x.length ≤ 300) →
  ∃ r, Ev (fun k => spec_FlatOf.l0 k out now n (i : Int) l pts) r ∧ flatGood r := by
 intro d
 induction d with
 | zero =>
  intro i n out now hi h0 hv hw ho hl hx
  by_cases hz : (now.length : Int) > 0
  ·refine ⟨out ++ [now], ev_done (fun k => ?_), ?_, ?_⟩
   ·simp only [spec_FlatOf.l0]
    rw [if_neg (by omega), if_pos hz, if_pos (by omega)]
   ·simp
    omega
   ·intro x hx2
    rcases List.mem_append.mp hx2 with h | h
    ·exact hx x h
    ·obtain rfl := List.mem_singleton.mp h
     omega
  ·refine ⟨out, ev_done (fun k => ?_), by omega, hx⟩
   simp only [spec_FlatOf.l0]
   rw [if_neg (by omega), if_neg hz]
 | succ d ih =>
  intro i n out now hi h0 hv hw ho hl hx
  have hi2 : i < l.length := by omega
  rw [List.drop_eq_getElem_cons hi2, verbsB] at hv
  have hb := needB_bd l[i]
  split at hv
  ·cases hv
  rename_i hneg
  split at hv
  ·cases hv
  rename_i hfirst
  have hle := verbsB_le _ _ _ _ hv
  have hstep : wrap64 ((i : Int) + 1) = ((i + 1 : Nat) : Int) := step64 hi2 (by omega)
  have hnn : wrap64 (n + needB l[i]) = n + needB l[i] := w64 (by omega) (by omega)
  have hprev : prevB l (i + 1) = l[i] := rd_int l i hi2
  have hv2 : verbsB (prevB l (i + 1)) (l.drop (i + 1)) (n + needB l[i]) = some (pts.length : Int) := by rw [hprev]; exact hv
  have go : ∀ (out' : List (List S52)) (now' : List S52), out'.length ≤ i + 1 → (∀ x ∈ out', x.length ≤ 300) → 0 < now'.length → now'.length ≤ 9 * (i + 1) → ∃ r, Ev (fun k => spec_FlatOf.l0 k out' now' (wrap64 (n + needB l[i])) (wrap64 ((i : Int) + 1)) l pts) r ∧ flatGood r := by
   intro out' now' q1 q2 q3 q4
   rw [hstep, hnn]
   exact ih (i + 1) (n + needB l[i]) out' now' (by omega) (by omega) hv2 (fun _ => q3) q1 q4 q2
  have h5 : l[i] = 1 ∨ l[i] = 2 ∨ l[i] = 3 ∨ l[i] = 4 ∨ l[i] = 5 := by
   unfold needB at hneg
   repeat' split at hneg
   all_goals omega
  have hi0 : l[i] ≠ 1 → 0 < i := by
   intro h
   cases i with
   | zero => exact absurd ⟨rfl, h⟩ hfirst
   | succ j => omega
  have hlast : 0 < i → wrap64 ((now.length : Int) - 1) = (now.length : Int) - 1 := fun _ => w64 (by omega) (by omega)
  rcases h5 with e | e | e | e | e
  ·have hd1 : needB l[i] = 1 := by rw [e]; rfl
   rw [hd1] at hle
   by_cases hz : (i : Int) > 0
   ·obtain ⟨r, k1, k2⟩ := go (out ++ [now]) [⟨(rd_T52 pts n).f0, (rd_T52 pts n).f1⟩] (by simp; omega) (by
     intro x hx2
     rcases List.mem_append.mp hx2 with h | h
     ·exact hx x h
     ·obtain rfl := List.mem_singleton.mp h
      omega) (by simp) (by simp; omega)
    refine ⟨r, Ev.step (fun k => ?_) k1, k2⟩
    simp only [spec_FlatOf.l0, rd_int _ _ hi2, spec_NeedOf_v, Option.bind_some]
    rw [if_pos (by omega), if_pos (by omega), if_pos e, if_pos hz, if_pos (by omega), if_pos h0, if_pos (by omega)]
   ·obtain ⟨r, k1, k2⟩ := go out [⟨(rd_T52 pts n).f0, (rd_T52 pts n).f1⟩] (by omega) hx (by simp) (by simp; omega)
    refine ⟨r, Ev.step (fun k => ?_) k1, k2⟩
    simp only [spec_FlatOf.l0, rd_int _ _ hi2, spec_NeedOf_v, Option.bind_some]
    rw [if_pos (by omega), if_pos (by omega), if_pos e, if_neg hz, if_pos h0, if_pos (by omega)]
  ·have hd1 : needB l[i] = 1 := by rw [e]; rfl
   rw [hd1] at hle
   obtain ⟨r, k1, k2⟩ := go out (now ++ [⟨(rd_T52 pts n).f0, (rd_T52 pts n).f1⟩]) (by omega) hx (by simp) (by simp; omega)
   refine ⟨r, Ev.step (fun k => ?_) k1, k2⟩
   simp only [spec_FlatOf.l0, rd_int _ _ hi2, spec_NeedOf_v, Option.bind_some]
   rw [if_pos (by omega), if_pos (by omega), if_neg (by omega), if_pos e, if_pos h0, if_pos (by omega), if_pos (by omega)]
  ·have hd1 : needB l[i] = 2 := by rw [e]; rfl
   have hip := hi0 (by omega)
   have hwl := hw hip
   obtain ⟨r, k1, k2⟩ := flat_quad l pts hn hp out i hi2 n (rd_T52 now ((now.length : Int) - 1)).f0 (rd_T52 now ((now.length : Int) - 1)).f1 h0 (by omega) (needB l[i]) rfl (fun now' q1 q2 => go out now' (by omega) hx q1 q2) 4 1 now (by omega) (by omega) hwl (by omega)
   refine ⟨r, Ev.step (fun k => ?_) k1, k2⟩
   simp only [spec_FlatOf.l0, rd_int _ _ hi2, hlast hip]
   rw [if_pos (by omega), if_pos (by omega), if_neg (by omega), if_neg (by omega), if_pos e, if_pos (by omega), if_pos (by omega)]
  ·have hd1 : needB l[i] = 3 := by rw [e]; rfl
   have hip := hi0 (by omega)
   have hwl := hw hip
   obtain ⟨r, k1, k2⟩ := flat_cubic l pts hn hp out i hi2 n (rd_T52 now ((now.length : Int) - 1)).f0 (rd_T52 now ((now.length : Int) - 1)).f1 h0 (by omega) (needB l[i]) rfl (fun now' q1 q2 => go out now' (by omega) hx q1 q2) 8 1 now (by omega) (by omega) hwl (by omega)
   refine ⟨r, Ev.step (fun k => ?_) k1, k2⟩
   simp only [spec_FlatOf.l0, rd_int _ _ hi2, hlast hip]
   rw [if_pos (by omega), if_pos (by omega), if_neg (by omega), if_neg (by omega), if_neg (by omega), if_pos e, if_pos (by omega), if_pos (by omega)]
  ·have hip := hi0 (by omega)
   have hwl := hw hip
   by_cases hc : (!(((rd_T52 now 0).f0) == ((rd_T52 now ((now.length : Int) - 1)).f0)) || (!(((rd_T52 now 0).f1) == ((rd_T52 now ((now.length : Int) - 1)).f1)))) = true
   ·obtain ⟨r, k1, k2⟩ := go out (now ++ [⟨(rd_T52 now 0).f0, (rd_T52 now 0).f1⟩]) (by omega) hx (by simp) (by simp; omega)
    refine ⟨r, Ev.step (fun k => ?_) k1, k2⟩
    simp only [spec_FlatOf.l0, rd_int _ _ hi2, hlast hip, spec_NeedOf_v, Option.bind_some]
    rw [if_pos (by omega), if_pos (by omega), if_neg (by omega), if_neg (by omega), if_neg (by omega), if_neg (by omega), if_pos e, if_pos (by omega), if_pos (by omega), if_pos (by omega), if_pos hc, if_pos (by omega)]
   ·obtain ⟨r, k1, k2⟩ := go out now (by omega) hx hwl (by omega)
    refine ⟨r, Ev.step (fun k => ?_) k1, k2⟩
    simp only [spec_FlatOf.l0, rd_int _ _ hi2, hlast hip, spec_NeedOf_v, Option.bind_some]
    rw [if_pos (by omega), if_pos (by omega), if_neg (by omega), if_neg (by omega), if_neg (by omega), if_neg (by omega), if_pos e, if_pos (by omega), if_pos (by omega), if_pos (by omega), if_neg hc]
end
theorem FlatOf_v (l : List Int) (pts : List S52) : ∃ r, Ev (fun k => spec_FlatOf.f k l pts) r ∧ flatGood r := by
 unfold spec_FlatOf.f
 simp only [Option.bind_some]
 have hp := spec_PathOk_v l pts
 cases hB : pathB l pts with
 | false =>
  rw [hB] at hp
  refine ⟨[], Ev.bind hp ?_, by simp [flatGood]⟩
  exact Ev.now _
 | true =>
  rw [hB] at hp
  unfold pathB at hB
  simp only [Bool.and_eq_true, decide_eq_true_eq] at hB
  obtain ⟨b1, b2, _, b3⟩ := hB
  have hv : verbsB 5 l 0 = some (pts.length : Int) := by
   cases hq : verbsB 5 l 0 with
   | none => rw [hq] at b3; simp [endB] at b3
   | some m => rw [hq] at b3; simp [endB] at b3; rw [b3]
  obtain ⟨r, k1, k2⟩ := flat_l l pts b2 b1 l.length 0 0 [] [] (by omega) (by omega) hv (fun h => absurd h (by omega)) (by simp) (by simp) (by simp)
  refine ⟨r, Ev.bind hp ?_, k2⟩
  exact k1

/-! rd_impl_PointSS -/
theorem rd_impl_PointSS (xs : List (List S52)) (i : Nat) (h : i < xs.length) : rd_L3 xs (i : Int) = xs[i] := by
 unfold rd_L3
 simp [h]

/-! nearP -/
def nearP (a b : Int) : Prop := (-33554432 ≤ a ∧ a ≤ 33554432) ∧ (-33554432 ≤ b ∧ b ≤ 33554432)
instance (a b : Int) : Decidable (nearP a b) := by unfold nearP; infer_instance

/-! windV -/
def edgeV (ax ay bx by_ px py : Int) : Int :=
 if ay ≤ py ∧ py < by_ ∧ (bx - ax) * (py - ay) - (px - ax) * (by_ - ay) > 0 then 1
 else if by_ ≤ py ∧ py < ay ∧ (bx - ax) * (py - ay) - (px - ax) * (by_ - ay) < 0 then -1 else 0
theorem edgeV_bd (ax ay bx by_ px py : Int) : -1 ≤ edgeV ax ay bx by_ px py ∧ edgeV ax ay bx by_ px py ≤ 1 := by
 unfold edgeV
 split
 ·omega
 ·split <;> omega
def ptAt (l : List S52) (i : Nat) : S52 := l.getD i z52
def windFrom (l : List S52) (px py : Int) : Nat → Nat → Int
 | 0, _ => 0
 | d + 1, i => edgeV (ptAt l i).f0 (ptAt l i).f1 (ptAt l ((i + 1) % l.length)).f0 (ptAt l ((i + 1) % l.length)).f1 px py + windFrom l px py d (i + 1)
theorem windFrom_bd (l : List S52) (px py : Int) : ∀ (d i : Nat), -(d : Int) ≤ windFrom l px py d i ∧ windFrom l px py d i ≤ d
 | 0, _ => by simp [windFrom]
 | d + 1, i => by
  have h := windFrom_bd l px py d (i + 1)
  have e := edgeV_bd (ptAt l i).f0 (ptAt l i).f1 (ptAt l ((i + 1) % l.length)).f0 (ptAt l ((i + 1) % l.length)).f1 px py
  rw [windFrom]
  omega
def allNear (l : List S52) : Prop := ∀ i, i < l.length → nearP (ptAt l i).f0 (ptAt l i).f1
instance (l : List S52) : Decidable (allNear l) := by unfold allNear; infer_instance
def windV (l : List S52) (px py : Int) : Int := if nearP px py ∧ allNear l then windFrom l px py l.length 0 else 0
theorem rd_ptAt (l : List S52) (i : Nat) : rd_T52 l (i : Int) = ptAt l i := rfl
theorem mul_bd {x y : Int} (hx : -67108864 ≤ x) (hx2 : x ≤ 67108864) (hy : -67108864 ≤ y) (hy2 : y ≤ 67108864) : -4503599627370496 ≤ x * y ∧ x * y ≤ 4503599627370496 := by
 have h1 : 0 ≤ (67108864 - x) * (67108864 + y) := Int.mul_nonneg (by omega) (by omega)
 have h2 : 0 ≤ (67108864 + x) * (67108864 - y) := Int.mul_nonneg (by omega) (by omega)
 have h3 : 0 ≤ (67108864 - x) * (67108864 - y) := Int.mul_nonneg (by omega) (by omega)
 have h4 : 0 ≤ (67108864 + x) * (67108864 + y) := Int.mul_nonneg (by omega) (by omega)
 simp only [Int.sub_mul, Int.mul_sub, Int.add_mul, Int.mul_add] at h1 h2 h3 h4
 omega
/-- What both compute as the side of an edge, without wraps. -/
theorem sideW {ax ay bx by_ px py : Int} (ha : nearP ax ay) (hb : nearP bx by_) (hp : nearP px py) :
  wrap64 ((wrap64 ((wrap64 (bx - ax)) * (wrap64 (py - ay)))) - (wrap64 ((wrap64 (px - ax)) * (wrap64 (by_ - ay))))) = (bx - ax) * (py - ay) - (px - ax) * (by_ - ay) := by
 obtain ⟨⟨a1, a2⟩, a3, a4⟩ := ha
 obtain ⟨⟨b1, b2⟩, b3, b4⟩ := hb
 obtain ⟨⟨p1, p2⟩, p3, p4⟩ := hp
 have m1 := mul_bd (x := bx - ax) (y := py - ay) (by omega) (by omega) (by omega) (by omega)
 have m2 := mul_bd (x := px - ax) (y := by_ - ay) (by omega) (by omega) (by omega) (by omega)
 rw [w64 (x := bx - ax) (by omega) (by omega), w64 (x := py - ay) (by omega) (by omega), w64 (x := px - ax) (by omega) (by omega), w64 (x := by_ - ay) (by omega) (by omega)]
 rw [w64 (x := (bx - ax) * (py - ay)) (by omega) (by omega), w64 (x := (px - ax) * (by_ - ay)) (by omega) (by omega), w64 (by omega) (by omega)]
/-- The next place, around the list. -/
theorem nextW {i n : Nat} (h : i < n) (hn : n ≤ 4611686018427387904) : Int.tmod (wrap64 ((i : Int) + 1)) (n : Int) = (((i + 1) % n : Nat) : Int) := by
 rw [step64 h hn, Int.tmod_eq_emod_of_nonneg (by omega)]
 omega
theorem cnt_up {n i d e s : Int} (hn : -i ≤ n) (hn2 : n ≤ i) (hi : 0 ≤ i) (hi2 : i ≤ 1048576) : wrap64 (n + 1) = n + 1 ∧ wrap64 (n - 1) = n - 1 ∧ wrap64 (n + 1 - 1) = n := ⟨w64 (by omega) (by omega), w64 (by omega) (by omega), by rw [show n + 1 - 1 = n by omega]; exact w64 (by omega) (by omega)⟩
theorem not_allNear {x0 : List S52} (h : ¬ allNear x0) : ∃ j, 0 ≤ j ∧ j < x0.length ∧ ¬ nearP (ptAt x0 j).f0 (ptAt x0 j).f1 := by
 apply Classical.byContradiction
 intro hc
 apply h
 intro i hi
 apply Classical.byContradiction
 intro hn
 exact hc ⟨i, Nat.zero_le _, hi, hn⟩

/-! Covers_b -/
def windSum (px py : Int) : List (List S52) → Int
 | [] => 0
 | x :: xs => windV x px py + windSum px py xs
theorem windV_bd (x : List S52) (px py : Int) (h : x.length ≤ 1048576) : -1048576 ≤ windV x px py ∧ windV x px py ≤ 1048576 := by
 unfold windV
 split
 ·have := windFrom_bd x px py x.length 0
  omega
 ·omega
theorem windSum_bd (px py : Int) : ∀ (l : List (List S52)), (∀ x ∈ l, x.length ≤ 1048576) → -(1048576 * (l.length : Int)) ≤ windSum px py l ∧ windSum px py l ≤ 1048576 * (l.length : Int)
 | [], _ => by simp [windSum]
 | x :: xs, h => by
  have h1 := windSum_bd px py xs (fun y hy => h y (List.mem_cons_of_mem _ hy))
  have h2 := windV_bd x px py (h x List.mem_cons_self)
  rw [windSum, List.length_cons]
  omega
def coversB (l : List (List S52)) (even : Bool) (px py : Int) : Bool := if even = true then (Int.tmod (windSum px py l) 2) != 0 else windSum px py l != 0

/-! spec_l10Near -/
theorem spec_l10Near_v (a b : Int) : spec_l10Near.f a b = some (decide (nearP a b)) := by
 unfold spec_l10Near.f nearP
 simp only [spec_l01In_v, Option.bind_some, decide_eq_true_eq]
 repeat' split
 all_goals first | (refine congrArg some (decide_eq_decide.mpr ?_); omega) | (refine congrArg some (Eq.symm (decide_eq_false ?_)); omega)

/-! spec_WindOf -/
theorem spec_WindOf_j2 {x0 : List S52} {n i s px py ax ay bx by_ r : Int} {c : Bool}
  (h : Ev (fun k => spec_WindOf.l0 k x0 (if c = true then (if by_ ≤ py ∧ py < ay ∧ s < 0 then wrap64 (wrap64 (n + 1) - 1) else wrap64 (n + 1)) else (if by_ ≤ py ∧ py < ay ∧ s < 0 then wrap64 (n - 1) else n)) (wrap64 (i + 1)) px py) r) :
  Ev (fun k => spec_WindOf.j2 k x0 n i s c px py ax ay bx by_) r := by
 refine Ev.step (fun k => ?_) h
 simp only [spec_WindOf.j2]
 by_cases h1 : c = true <;> by_cases h2 : by_ ≤ py <;> by_cases h3 : py < ay <;> by_cases h4 : s < 0 <;> simp [h1, h2, h3, h4]
theorem spec_WindOf_j1 {x0 : List S52} {n px py ax ay bx by_ r : Int} {i : Nat} (ha : nearP ax ay) (hb : nearP bx by_) (hp : nearP px py) (hn : -(i : Int) ≤ n) (hn2 : n ≤ i) (hi : i < x0.length) (hl : x0.length ≤ 1048576)
  (h : Ev (fun k => spec_WindOf.l0 k x0 (n + edgeV ax ay bx by_ px py) ((i + 1 : Nat) : Int) px py) r) :
  Ev (fun k => spec_WindOf.j1 k x0 n (i : Int) false px py ax ay bx by_) r := by
 obtain ⟨u1, u2, u3⟩ := cnt_up (d := 0) (e := 0) (s := 0) hn hn2 (by omega) (by omega)
 have key : ∀ c : Bool, (c = true ↔ ay ≤ py ∧ py < by_ ∧ (bx - ax) * (py - ay) - (px - ax) * (by_ - ay) > 0) →
   Ev (fun k => spec_WindOf.j2 k x0 n (i : Int) ((bx - ax) * (py - ay) - (px - ax) * (by_ - ay)) c px py ax ay bx by_) r := by
  intro c hc
  refine spec_WindOf_j2 ?_
  rw [step64 hi (by omega)]
  have e : (if c = true then (if by_ ≤ py ∧ py < ay ∧ (bx - ax) * (py - ay) - (px - ax) * (by_ - ay) < 0 then wrap64 (wrap64 (n + 1) - 1) else wrap64 (n + 1)) else (if by_ ≤ py ∧ py < ay ∧ (bx - ax) * (py - ay) - (px - ax) * (by_ - ay) < 0 then wrap64 (n - 1) else n)) = n + edgeV ax ay bx by_ px py := by
   rw [u1, u2, u3]
   unfold edgeV
   by_cases q : c = true
   ·rw [if_pos q, if_pos (hc.mp q), if_neg (by have := hc.mp q; omega)]
   ·rw [if_neg q, if_neg (fun z => q (hc.mpr z))]
    split <;> omega
  rw [e]
  exact h
 by_cases h1 : ay ≤ py
 ·by_cases h2 : py < by_
  ·refine Ev.step (fun k => ?_) (key (decide ((bx - ax) * (py - ay) - (px - ax) * (by_ - ay) > 0)) (by simp [h1, h2]))
   simp only [spec_WindOf.j1]
   rw [if_neg (by decide), if_pos h1, if_pos h2, sideW ha hb hp]
  ·refine Ev.step (fun k => ?_) (key false (by simp [h2]))
   simp only [spec_WindOf.j1]
   rw [if_neg (by decide), if_pos h1, if_neg h2, sideW ha hb hp]
 ·refine Ev.step (fun k => ?_) (key false (by simp [h1]))
  simp only [spec_WindOf.j1]
  rw [if_neg (by decide), if_neg h1, sideW ha hb hp]
theorem spec_WindOf_l {x0 : List S52} {px py : Int} (hp : nearP px py) (hl : x0.length ≤ 1048576) (hN : allNear x0) : ∀ (d i : Nat) (n : Int), i + d = x0.length → -(i : Int) ≤ n → n ≤ i →
  Ev (fun k => spec_WindOf.l0 k x0 n (i : Int) px py) (n + windFrom x0 px py d i) := by
 intro d
 induction d with
 | zero =>
  intro i n hi h1 h2
  refine ev_done (fun k => ?_)
  simp only [spec_WindOf.l0]
  rw [if_neg (by omega)]
  simp [windFrom]
 | succ d ih =>
  intro i n hi h1 h2
  have hi2 : i < x0.length := by omega
  have hm : (i + 1) % x0.length < x0.length := Nat.mod_lt _ (by omega)
  have ha := hN i hi2
  have hb := hN _ hm
  have e := edgeV_bd (ptAt x0 i).f0 (ptAt x0 i).f1 (ptAt x0 ((i + 1) % x0.length)).f0 (ptAt x0 ((i + 1) % x0.length)).f1 px py
  have h := ih (i + 1) (n + edgeV (ptAt x0 i).f0 (ptAt x0 i).f1 (ptAt x0 ((i + 1) % x0.length)).f0 (ptAt x0 ((i + 1) % x0.length)).f1 px py) (by omega) (by omega) (by omega)
  rw [Int.add_assoc] at h
  refine Ev.step (fun k => ?_) (spec_WindOf_j1 ha hb hp h1 h2 hi2 hl h)
  simp only [spec_WindOf.l0]
  rw [if_pos (by omega), if_pos (by omega), if_neg (by omega), nextW hi2 (by omega), if_pos (by omega), if_pos (by omega), rd_ptAt, rd_ptAt]
  simp only [spec_l10Near_v, Option.bind_some]
  rw [if_pos (decide_eq_true ha), decide_eq_true hb]
  rfl
theorem spec_WindOf_bad {x0 : List S52} {px py : Int} (hp : nearP px py) (hl : x0.length ≤ 1048576) : ∀ (d i : Nat) (n : Int), i + d = x0.length → -(i : Int) ≤ n → n ≤ i → (∃ j, i ≤ j ∧ j < x0.length ∧ ¬ nearP (ptAt x0 j).f0 (ptAt x0 j).f1) →
  Ev (fun k => spec_WindOf.l0 k x0 n (i : Int) px py) 0 := by
 intro d
 induction d with
 | zero =>
  intro i n hi h1 h2 hj
  obtain ⟨j, hj⟩ := hj
  omega
 | succ d ih =>
  intro i n hi h1 h2 hj
  have hi2 : i < x0.length := by omega
  by_cases ha : nearP (ptAt x0 i).f0 (ptAt x0 i).f1
  ·by_cases hb : nearP (ptAt x0 ((i + 1) % x0.length)).f0 (ptAt x0 ((i + 1) % x0.length)).f1
   ·have e := edgeV_bd (ptAt x0 i).f0 (ptAt x0 i).f1 (ptAt x0 ((i + 1) % x0.length)).f0 (ptAt x0 ((i + 1) % x0.length)).f1 px py
    have h := ih (i + 1) (n + edgeV (ptAt x0 i).f0 (ptAt x0 i).f1 (ptAt x0 ((i + 1) % x0.length)).f0 (ptAt x0 ((i + 1) % x0.length)).f1 px py) (by omega) (by omega) (by omega) (by
     obtain ⟨j, j1, j2, j3⟩ := hj
     refine ⟨j, ?_, j2, j3⟩
     rcases Nat.lt_or_ge i j with q | q
     ·omega
     ·obtain rfl : i = j := by omega
      exact absurd ha j3)
    refine Ev.step (fun k => ?_) (spec_WindOf_j1 ha hb hp h1 h2 hi2 hl h)
    simp only [spec_WindOf.l0]
    rw [if_pos (by omega), if_pos (by omega), if_neg (by omega), nextW hi2 (by omega), if_pos (by omega), if_pos (by have := Nat.mod_lt (i + 1) (y := x0.length) (by omega); omega), rd_ptAt, rd_ptAt]
    simp only [spec_l10Near_v, Option.bind_some]
    rw [if_pos (decide_eq_true ha), decide_eq_true hb]
    rfl
   ·refine Ev.step (f := fun k => spec_WindOf.j1 k x0 n (i : Int) true px py (ptAt x0 i).f0 (ptAt x0 i).f1 (ptAt x0 ((i + 1) % x0.length)).f0 (ptAt x0 ((i + 1) % x0.length)).f1) (fun k => ?_) (ev_done (fun k => by simp only [spec_WindOf.j1, if_true]))
    simp only [spec_WindOf.l0]
    rw [if_pos (by omega), if_pos (by omega), if_neg (by omega), nextW hi2 (by omega), if_pos (by omega), if_pos (by have := Nat.mod_lt (i + 1) (y := x0.length) (by omega); omega), rd_ptAt, rd_ptAt]
    simp only [spec_l10Near_v, Option.bind_some]
    rw [if_pos (decide_eq_true ha), decide_eq_false hb]
    rfl
  ·refine Ev.step (f := fun k => spec_WindOf.j1 k x0 n (i : Int) true px py (ptAt x0 i).f0 (ptAt x0 i).f1 (ptAt x0 ((i + 1) % x0.length)).f0 (ptAt x0 ((i + 1) % x0.length)).f1) (fun k => ?_) (ev_done (fun k => by simp only [spec_WindOf.j1, if_true]))
   simp only [spec_WindOf.l0]
   rw [if_pos (by omega), if_pos (by omega), if_neg (by omega), nextW hi2 (by omega), if_pos (by omega), if_pos (by have := Nat.mod_lt (i + 1) (y := x0.length) (by omega); omega), rd_ptAt, rd_ptAt]
   simp only [spec_l10Near_v, Option.bind_some]
   rw [if_neg (by simpa using ha)]
theorem spec_WindOf_v (x0 : List S52) (px py : Int) (hl : x0.length ≤ 1048576) : Ev (fun k => spec_WindOf.f k x0 px py) (windV x0 px py) := by
 unfold windV
 by_cases hp : nearP px py
 ·have e : ∀ k, spec_WindOf.f k x0 px py = spec_WindOf.l0 k x0 0 ((0 : Nat) : Int) px py := fun k => by
   unfold spec_WindOf.f
   rw [spec_l10Near_v, Option.bind_some, if_pos (decide_eq_true hp)]
   rfl
  by_cases hN : allNear x0
  ·rw [if_pos ⟨hp, hN⟩]
   have h := spec_WindOf_l hp hl hN x0.length 0 0 (by omega) (by omega) (by omega)
   rw [Int.zero_add] at h
   exact Ev.congr e h
  ·rw [if_neg (fun z => hN z.2)]
   exact Ev.congr e (spec_WindOf_bad hp hl x0.length 0 0 (by omega) (by omega) (by omega) (not_allNear hN))
 ·rw [if_neg (fun z => hp z.1)]
  refine Ev.congr (fun k => ?_) (Ev.now 0)
  unfold spec_WindOf.f
  rw [spec_l10Near_v, Option.bind_some, if_neg (by simpa using hp)]

/-! Covers_s -/
theorem spec_Covers_l (x0 : List (List S52)) (even : Bool) (px py : Int) (hn : x0.length ≤ 1048576) (hm : ∀ x ∈ x0, x.length ≤ 1048576) : ∀ (d i : Nat) (n : Int), i + d = x0.length → -(1048576 * (i : Int)) ≤ n → n ≤ 1048576 * (i : Int) →
  Ev (fun k => spec_Covers.l0 k x0 even n (i : Int) px py) (if even = true then (Int.tmod (n + windSum px py (x0.drop i)) 2) != 0 else (n + windSum px py (x0.drop i)) != 0) := by
 intro d
 induction d with
 | zero =>
  intro i n hi h1 h2
  refine ev_done (fun k => ?_)
  simp only [spec_Covers.l0]
  rw [if_neg (by omega), List.drop_of_length_le (by omega), windSum, Int.add_zero]
  split <;> rfl
 | succ d ih =>
  intro i n hi h1 h2
  have hi2 : i < x0.length := by omega
  have hb := windV_bd x0[i] px py (hm _ (List.getElem_mem hi2))
  rw [List.drop_eq_getElem_cons hi2, windSum]
  have q := ih (i + 1) (n + windV x0[i] px py) (by omega) (by omega) (by omega)
  rw [Int.add_assoc] at q
  refine Ev.step (f := fun k => (spec_WindOf.f k x0[i] px py).bind fun t => spec_Covers.l0 k x0 even (wrap64 (n + t)) ((i + 1 : Nat) : Int) px py) (fun k => ?_) (Ev.bind (spec_WindOf_v _ px py (hm _ (List.getElem_mem hi2))) ?_)
  ·simp only [spec_Covers.l0]
   rw [if_pos (by omega), if_pos (by omega), step64 hi2 (by omega), rd_impl_PointSS _ _ hi2]
  ·simp only [w64 (x := n + windV x0[i] px py) (by omega) (by omega)]
   exact q
theorem spec_Covers_v (x0 : List (List S52)) (even : Bool) (px py : Int) (hn : x0.length ≤ 1048576) (hm : ∀ x ∈ x0, x.length ≤ 1048576) : Ev (fun k => spec_Covers.f k x0 even px py) (coversB x0 even px py) := by
 have q := spec_Covers_l x0 even px py hn hm x0.length 0 0 (by omega) (by omega) (by omega)
 rw [Int.zero_add] at q
 exact q

/-! MaskN -/
def maskN (b0 b1 b2 b3 : Bool) : Int := if b3 = true then (if b2 = true then (if b1 = true then (if b0 = true then 0 + 1 else 0) + 2 else (if b0 = true then 0 + 1 else 0)) + 4 else (if b1 = true then (if b0 = true then 0 + 1 else 0) + 2 else (if b0 = true then 0 + 1 else 0))) + 8 else (if b2 = true then (if b1 = true then (if b0 = true then 0 + 1 else 0) + 2 else (if b0 = true then 0 + 1 else 0)) + 4 else (if b1 = true then (if b0 = true then 0 + 1 else 0) + 2 else (if b0 = true then 0 + 1 else 0)))
theorem maskN_bd (b0 b1 b2 b3 : Bool) : 0 ≤ maskN b0 b1 b2 b3 ∧ maskN b0 b1 b2 b3 ≤ 15 := by
 cases b0 <;> cases b1 <;> cases b2 <;> cases b3 <;> decide +kernel

/-! MaskAtS -/
section
variable (ls : List (List S52)) (e : Bool) (hn : ls.length ≤ 1048576) (hm : ∀ x ∈ ls, x.length ≤ 1048576)
include hn hm
theorem spec_mask_s (x y n i v px py : Int) (b : Bool) (h0 : 0 ≤ i) (h1 : i < 4) (hpx : wrap64 ((wrap64 ((wrap64 (256 * x)) + 64)) + (wrap64 (128 * (Int.tmod i 2)))) = px) (hpy : wrap64 ((wrap64 ((wrap64 (256 * y)) + 64)) + (wrap64 (128 * (wrap64 (Int.tdiv i 2))))) = py)
  (hv : rd [1, 2, 4, 8] i = v) (hb : coversB ls e px py = b) (hw : wrap64 (n + v) = n + v) {r : Int} (h : Ev (fun k => spec_MaskAt.l0 k ls e x y (if b = true then n + v else n) (i + 1)) r) : Ev (fun k => spec_MaskAt.l0 k ls e x y n i) r := by
 refine Ev.step (fun k => rfl) ?_
 simp only [spec_MaskAt.l0, if_pos h1, hpx, hpy]
 refine Ev.bind (spec_Covers_v ls e px py hn hm) ?_
 rw [hb]
 cases b with
 | true =>
  simp only [if_true, Option.bind_some, hv, hw, w64 (x := i + 1) (by omega) (by omega)]
  simp only [if_true] at h
  simp only [if_pos h0, if_pos (show i < (([1, 2, 4, 8] : List Int).length : Int) from h1)]
  exact h
 | false =>
  simp only [Bool.false_eq_true, if_false, w64 (x := i + 1) (by omega) (by omega)]
  simp only [Bool.false_eq_true, if_false] at h
  exact h
theorem spec_mask_val (x y : Int) (hx : -2000 ≤ x ∧ x ≤ 2000) (hy : -2000 ≤ y ∧ y ≤ 2000) : Ev (fun k => spec_MaskAt.l0 k ls e x y 0 0) (maskN (coversB ls e (256 * x + 64) (256 * y + 64)) (coversB ls e (256 * x + 64 + 128) (256 * y + 64)) (coversB ls e (256 * x + 64) (256 * y + 64 + 128)) (coversB ls e (256 * x + 64 + 128) (256 * y + 64 + 128))) := by
 have e1 : wrap64 (256 * x) = 256 * x := w64 (by omega) (by omega)
 have e2 : wrap64 (256 * x + 64) = 256 * x + 64 := w64 (by omega) (by omega)
 have e3 : wrap64 (256 * x + 64 + 128) = 256 * x + 64 + 128 := w64 (by omega) (by omega)
 have f1 : wrap64 (256 * y) = 256 * y := w64 (by omega) (by omega)
 have f2 : wrap64 (256 * y + 64) = 256 * y + 64 := w64 (by omega) (by omega)
 have f3 : wrap64 (256 * y + 64 + 128) = 256 * y + 64 + 128 := w64 (by omega) (by omega)
 have x0 : ∀ z : Int, wrap64 (128 * z) = 0 → wrap64 ((wrap64 ((wrap64 (256 * x)) + 64)) + (wrap64 (128 * z))) = 256 * x + 64 := fun z hz => by rw [hz, e1, e2, Int.add_zero, e2]
 have x1 : ∀ z : Int, wrap64 (128 * z) = 128 → wrap64 ((wrap64 ((wrap64 (256 * x)) + 64)) + (wrap64 (128 * z))) = 256 * x + 64 + 128 := fun z hz => by rw [hz, e1, e2, e3]
 have y0 : ∀ z : Int, wrap64 (128 * z) = 0 → wrap64 ((wrap64 ((wrap64 (256 * y)) + 64)) + (wrap64 (128 * z))) = 256 * y + 64 := fun z hz => by rw [hz, f1, f2, Int.add_zero, f2]
 have y1 : ∀ z : Int, wrap64 (128 * z) = 128 → wrap64 ((wrap64 ((wrap64 (256 * y)) + 64)) + (wrap64 (128 * z))) = 256 * y + 64 + 128 := fun z hz => by rw [hz, f1, f2, f3]
 obtain ⟨b0, h0⟩ : ∃ b, coversB ls e (256 * x + 64) (256 * y + 64) = b := ⟨_, rfl⟩
 obtain ⟨b1, h1⟩ : ∃ b, coversB ls e (256 * x + 64 + 128) (256 * y + 64) = b := ⟨_, rfl⟩
 obtain ⟨b2, h2⟩ : ∃ b, coversB ls e (256 * x + 64) (256 * y + 64 + 128) = b := ⟨_, rfl⟩
 obtain ⟨b3, h3⟩ : ∃ b, coversB ls e (256 * x + 64 + 128) (256 * y + 64 + 128) = b := ⟨_, rfl⟩
 have fin_s : ∀ n : Int, Ev (fun k => spec_MaskAt.l0 k ls e x y n (3 + 1)) n := fun n => ev_done (fun k => by simp only [spec_MaskAt.l0]; rw [if_neg (by omega)])
 rw [h0, h1, h2, h3]
 unfold maskN
 refine spec_mask_s ls e hn hm x y 0 0 1 _ _ b0 (by omega) (by omega) (x0 _ (by decide +kernel)) (y0 _ (by decide +kernel)) rfl h0 (by decide +kernel) ?_
 refine spec_mask_s ls e hn hm x y _ (0 + 1) 2 _ _ b1 (by omega) (by omega) (x1 _ (by decide +kernel)) (y0 _ (by decide +kernel)) rfl h1 (by cases b0 <;> decide +kernel) ?_
 refine spec_mask_s ls e hn hm x y _ (0 + 1 + 1) 4 _ _ b2 (by omega) (by omega) (x0 _ (by decide +kernel)) (y1 _ (by decide +kernel)) rfl h2 (by cases b0 <;> cases b1 <;> decide +kernel) ?_
 refine spec_mask_s ls e hn hm x y _ (0 + 1 + 1 + 1) 8 _ _ b3 (by omega) (by omega) (x1 _ (by decide +kernel)) (y1 _ (by decide +kernel)) rfl h3 (by cases b0 <;> cases b1 <;> cases b2 <;> decide +kernel) ?_
 exact fin_s _
theorem MaskAt_s (x y : Int) : ∃ r : Int, 0 ≤ r ∧ r ≤ 15 ∧ Ev (fun k => spec_MaskAt.f k ls e x y) r := by
 unfold spec_MaskAt.f
 simp only [spec_l01In_v, Option.bind_some]
 have hno : Ev (fun k => spec_MaskAt.j0 k ls e x y true) 0 := ev_done (fun k => rfl)
 by_cases hx : -2000 ≤ x ∧ x ≤ 2000
 ·rw [decide_eq_true hx]
  simp only [if_true]
  by_cases hy : -2000 ≤ y ∧ y ≤ 2000
  ·rw [decide_eq_true hy]
   have hb := maskN_bd (coversB ls e (256 * x + 64) (256 * y + 64)) (coversB ls e (256 * x + 64 + 128) (256 * y + 64)) (coversB ls e (256 * x + 64) (256 * y + 64 + 128)) (coversB ls e (256 * x + 64 + 128) (256 * y + 64 + 128))
   exact ⟨_, hb.1, hb.2, Ev.step (fun k => rfl) (spec_mask_val ls e hn hm x y hx hy)⟩
  ·rw [decide_eq_false hy]
   exact ⟨0, by omega, by omega, hno⟩
 ·rw [decide_eq_false hx]
  exact ⟨0, by omega, by omega, hno⟩
end

/-! Grid0 -/
def rowL (B : Int → Int → Int) (y : Int) : Int → Nat → List Int
 | _, 0 => []
 | x, n + 1 => B x y :: rowL B y (x + 1) n
def gridL (B : Int → Int → Int) (a : Int) (w : Nat) : Int → Nat → List Int
 | _, 0 => []
 | y, m + 1 => rowL B y a w ++ gridL B a w (y + 1) m
theorem rowL_len (B : Int → Int → Int) (y : Int) : ∀ (n : Nat) (x : Int), (rowL B y x n).length = n
 | 0, _ => rfl
 | n + 1, x => by rw [rowL, List.length_cons, rowL_len B y n]
theorem gridL_len (B : Int → Int → Int) (a : Int) (w : Nat) : ∀ (m : Nat) (y : Int), (gridL B a w y m).length = m * w
 | 0, _ => by simp [gridL]
 | m + 1, y => by rw [gridL, List.length_append, rowL_len, gridL_len B a w m, Nat.succ_mul]; omega

/-! Grid -/
theorem rowL_get (B : Int → Int → Int) (y : Int) : ∀ (n i : Nat) (x : Int), i < n → (rowL B y x n)[i]? = some (B (x + i) y)
 | 0, _, _, h => absurd h (by omega)
 | n + 1, 0, x, _ => by simp [rowL]
 | n + 1, i + 1, x, h => by
  rw [rowL, List.getElem?_cons_succ, rowL_get B y n i (x + 1) (by omega), show x + 1 + (i : Int) = x + ((i + 1 : Nat) : Int) by omega]
theorem gridL_get (B : Int → Int → Int) (a : Int) (w : Nat) : ∀ (m j i : Nat) (y : Int), j < m → i < w → (gridL B a w y m)[j * w + i]? = some (B (a + i) (y + j))
 | 0, _, _, _, h, _ => absurd h (by omega)
 | m + 1, 0, i, y, _, hi => by
  rw [gridL, List.getElem?_append_left (by rw [rowL_len]; omega), Nat.zero_mul, Nat.zero_add, rowL_get B y w i a hi]
  simp
 | m + 1, j + 1, i, y, hj, hi => by
  have e : (j + 1) * w + i - w = j * w + i := by rw [Nat.succ_mul]; omega
  rw [gridL, List.getElem?_append_right (by rw [rowL_len, Nat.succ_mul]; omega), rowL_len, e, gridL_get B a w m j i (y + 1) (by omega) hi, show y + 1 + (j : Int) = y + ((j + 1 : Nat) : Int) by omega]
theorem rowL_mem (B : Int → Int → Int) (hB : ∀ x y, 0 ≤ B x y ∧ B x y ≤ 15) (y : Int) : ∀ (n : Nat) (x : Int), ∀ v ∈ rowL B y x n, 0 ≤ v ∧ v ≤ 15
 | 0, _, v, h => by simp [rowL] at h
 | n + 1, x, v, h => by
  rw [rowL] at h
  rcases List.mem_cons.mp h with rfl | h
  ·exact hB _ _
  ·exact rowL_mem B hB y n (x + 1) v h
theorem gridL_mem (B : Int → Int → Int) (hB : ∀ x y, 0 ≤ B x y ∧ B x y ≤ 15) (a : Int) (w : Nat) : ∀ (m : Nat) (y : Int), ∀ v ∈ gridL B a w y m, 0 ≤ v ∧ v ≤ 15
 | 0, _, v, h => by simp [gridL] at h
 | m + 1, y, v, h => by
  rw [gridL] at h
  rcases List.mem_append.mp h with h | h
  ·exact rowL_mem B hB y w a v h
  ·exact gridL_mem B hB a w m (y + 1) v h
/-- What a mask over a box has at a square, when it was laid out square by square. -/
theorem grid_bits (B : Int → Int → Int) {a b c d : Int} (w m : Nat) (hw : (w : Int) = c - a) (hm : (m : Int) = d - b) (x y : Int) (h : a ≤ x ∧ x < c ∧ b ≤ y ∧ y < d) : bitsP a b c d (gridL B a w b m) x y = B x y := by
 unfold bitsP rd
 rw [if_pos h]
 obtain ⟨i, hi⟩ : ∃ i : Nat, (i : Int) = x - a := ⟨(x - a).toNat, by omega⟩
 obtain ⟨j, hj⟩ : ∃ j : Nat, (j : Int) = y - b := ⟨(y - b).toNat, by omega⟩
 have e : (y - b) * (c - a) + x - a = ((j * w + i : Nat) : Int) := by
  rw [Int.natCast_add, Int.natCast_mul, hj, hw, hi]
  omega
 rw [e, Int.toNat_natCast, List.getD_eq_getElem?_getD, gridL_get B a w m j i b (by omega) (by omega), Option.getD_some]
 rw [show a + (i : Int) = x by omega, show b + (j : Int) = y by omega]

/-! DrawMask -/
section
variable (ls : List (List S52)) (e : Bool) (B : Int → Int → Int) (hB : ∀ x y, Ev (fun k => spec_MaskAt.f k ls e x y) (B x y) ∧ 0 ≤ B x y ∧ B x y ≤ 15)
include hB
theorem maskS_cols (a b c d y : Int) (hc : c ≤ 2000) {R : Int × Int × Int × Int × List Int} : ∀ (n : Nat) (x : Int) (out : List Int), -2000 ≤ x → x + n = c → out.length + n ≤ 100000 →
  Ev (fun k => spec_MaskOf.l0 k ls e (wrap64 (y + 1)) a b c d a b c d (out ++ rowL B y x n)) R → Ev (fun k => spec_MaskOf.l1 k ls e y x a b c d a b c d out) R := by
 intro n
 induction n with
 | zero =>
  intro x out h0 hx ho h
  simp only [rowL, List.append_nil] at h
  refine Ev.step (fun k => ?_) h
  simp only [spec_MaskOf.l1]
  rw [if_neg (by omega)]
 | succ n ih =>
  intro x out h0 hx ho h
  have e1 : out ++ rowL B y x (n + 1) = (out ++ [B x y]) ++ rowL B y (x + 1) n := by rw [rowL, List.append_assoc]; rfl
  rw [e1] at h
  refine Ev.step (fun k => rfl) ?_
  simp only [spec_MaskOf.l1, if_pos (show x < c by omega)]
  refine Ev.bind (hB x y).1 ?_
  simp only [if_pos (show out.length < 17592186044416 by omega), w64 (x := x + 1) (by omega) (by omega)]
  exact ih (x + 1) (out ++ [B x y]) (by omega) (by omega) (by simp; omega) h
theorem maskS_rows (a b c d : Int) (w : Nat) (ha : -2000 ≤ a) (hc : c ≤ 2000) (hd : d ≤ 2000) (hw : (w : Int) = c - a) (hw60 : w ≤ 60) : ∀ (m : Nat) (y : Int) (out : List Int), -2000 ≤ y → y + m = d → out.length + 60 * m ≤ 100000 →
  Ev (fun k => spec_MaskOf.l0 k ls e y a b c d a b c d out) (a, b, c, d, out ++ gridL B a w y m) := by
 intro m
 induction m with
 | zero =>
  intro y out h0 hy ho
  simp only [gridL, List.append_nil]
  refine ev_done (fun k => ?_)
  simp only [spec_MaskOf.l0]
  rw [if_neg (by omega)]
 | succ m ih =>
  intro y out h0 hy ho
  have e1 : wrap64 (y + 1) = y + 1 := w64 (by omega) (by omega)
  have e2 : out ++ gridL B a w y (m + 1) = (out ++ rowL B y a w) ++ gridL B a w (y + 1) m := by rw [gridL, List.append_assoc]
  have i1 := ih (y + 1) (out ++ rowL B y a w) (by omega) (by omega) (by rw [List.length_append, rowL_len]; omega)
  rw [← e2, ← e1] at i1
  refine Ev.step (fun k => ?_) (maskS_cols ls e B hB a b c d y hc (R := (a, b, c, d, out ++ gridL B a w y (m + 1))) w a out ha (by omega) (by omega) i1)
  simp only [spec_MaskOf.l0]
  rw [if_pos (by omega)]
end
def drawnM (a b c d : Int) (L : List Int) : Prop := maskBoxP a b c d ∧ (L.length : Int) = (c - a) * (d - b) ∧ allBits L = true ∧ (-2 ≤ a ∧ -2 ≤ b ∧ c ≤ 11 ∧ d ≤ 11)
theorem bits_of {L : List Int} (h : ∀ x ∈ L, 0 ≤ x ∧ x ≤ 15) : allBits L = true := by
 unfold allBits
 exact List.all_eq_true.mpr (fun x hx => by simpa using h x hx)
theorem bits_mem {L : List Int} (h : allBits L = true) : ∀ x ∈ L, 0 ≤ x ∧ x ≤ 15 := by
 intro x hx
 unfold allBits at h
 simpa using List.all_eq_true.mp h x hx
section
variable (l : List Int) (hn : l.length ≤ 1048576)
include hn
theorem fill_l (a b c d : Int) : ∀ (n i : Nat) (L : List Int) (p s : Int), i + n = L.length → L.length ≤ 3600 → allBits L = true → 0 ≤ p → p ≤ l.length → ∃ L' q t, Ev (fun k => spec_l11Mask.l0 k (i : Int) l p s a b c d L) (a, b, c, d, L', q, t) ∧ L'.length = L.length ∧ allBits L' = true ∧ 0 ≤ q ∧ q ≤ l.length := by
 intro n
 induction n with
 | zero =>
  intro i L p s hi hl hA hp hq
  refine ⟨L, p, s, ev_done (fun k => ?_), rfl, hA, hp, hq⟩
  simp only [spec_l11Mask.l0]
  rw [if_neg (by omega)]
 | succ n ih =>
  intro i L p s hi hl hA hp hq
  have hi2 : i < L.length := by omega
  obtain ⟨j, q, t, e, hj, v, w⟩ := pick_r l p s [0, 0, 15, 15, 3, 8] hp hq hn (by simp) (by simp)
  have hv : 0 ≤ rd [0, 0, 15, 15, 3, 8] (j : Int) ∧ rd [0, 0, 15, 15, 3, 8] (j : Int) ≤ 15 := by
   rw [rd_int _ _ hj]
   have h : ∀ x ∈ ([0, 0, 15, 15, 3, 8] : List Int), 0 ≤ x ∧ x ≤ 15 := by decide
   exact h _ (List.getElem_mem hj)
  obtain ⟨L', q', t', k1, k2, k3, k4⟩ := ih (i + 1) (L.set i (rd [0, 0, 15, 15, 3, 8] (j : Int))) q t (by rw [List.length_set]; omega) (by rw [List.length_set]; exact hl) (bits_of (fun x hx => by
   rcases List.mem_or_eq_of_mem_set hx with h | rfl
   ·exact bits_mem hA x h
   ·exact hv)) v w
  refine ⟨L', q', t', Ev.step (fun k => ?_) k1, by rw [k2, List.length_set], k3, k4⟩
  simp only [spec_l11Mask.l0, e, Option.bind_some, step64 hi2 (by omega), Int.toNat_natCast]
  rw [if_pos (by omega), if_pos (by omega)]
/-- A drawn mask is right, and small. -/
theorem Mask_v (p s : Int) (hp : 0 ≤ p) (hq : p ≤ l.length) : ∃ a b c d L q t, Ev (fun k => spec_l11Mask.f k l p s) (a, b, c, d, L, q, t) ∧ drawnM a b c d L ∧ 0 ≤ q ∧ q ≤ l.length := by
 obtain ⟨b1, q1, t1, e1, l1, u1, v1, w1⟩ := below_r l p s 8 hp hq hn (by omega) (by omega)
 obtain ⟨b2, q2, t2, e2, l2, u2, v2, w2⟩ := below_r l q1 t1 8 v1 w1 hn (by omega) (by omega)
 obtain ⟨b3, q3, t3, e3, l3, u3, v3, w3⟩ := below_r l q2 t2 6 v2 w2 hn (by omega) (by omega)
 obtain ⟨b4, q4, t4, e4, l4, u4, v4, w4⟩ := below_r l q3 t3 6 v3 w3 hn (by omega) (by omega)
 obtain ⟨vs, ps, q5, t5, k5, f5, v5, w5⟩ := Path_v l hn q4 t4 v4 w4
 obtain ⟨fl, k6, g6⟩ := FlatOf_v vs ps
 have hfn : fl.length ≤ 1048576 := by have := g6.1; omega
 have hfm : ∀ x ∈ fl, x.length ≤ 1048576 := fun x hx => by have := g6.2 x hx; omega
 let B : Int → Int → Int := fun x y => Classical.choose (MaskAt_s fl false hfn hfm x y)
 have hB : ∀ x y, Ev (fun k => spec_MaskAt.f k fl false x y) (B x y) ∧ 0 ≤ B x y ∧ B x y ≤ 15 := fun x y => by
  obtain ⟨r0, r1, r2⟩ := Classical.choose_spec (MaskAt_s fl false hfn hfm x y)
  exact ⟨r2, r0, r1⟩
 have ea : wrap64 (b1 - 2) = b1 - 2 := w64 (by omega) (by omega)
 have eb : wrap64 (b2 - 2) = b2 - 2 := w64 (by omega) (by omega)
 have ec : wrap64 ((wrap64 ((b1 - 2) + 1)) + b3) = b1 - 2 + 1 + b3 := by rw [w64 (x := b1 - 2 + 1) (by omega) (by omega), w64 (by omega) (by omega)]
 have ed : wrap64 ((wrap64 ((b2 - 2) + 1)) + b4) = b2 - 2 + 1 + b4 := by rw [w64 (x := b2 - 2 + 1) (by omega) (by omega), w64 (by omega) (by omega)]
 generalize ha : b1 - 2 = a at ea ec
 generalize hb : b2 - 2 = b at eb ed
 generalize hc : a + 1 + b3 = c at ec
 generalize hd : b + 1 + b4 = d at ed
 have hbx : maskBoxP a b c d := ⟨by omega, by omega, by omega, by omega, by omega, by omega, by omega, by omega⟩
 obtain ⟨w, hw⟩ : ∃ w : Nat, (w : Int) = c - a := ⟨(c - a).toNat, by omega⟩
 obtain ⟨m, hm⟩ : ∃ m : Nat, (m : Int) = d - b := ⟨(d - b).toNat, by omega⟩
 have g := maskS_rows fl false B hB a b c d w (by omega) (by omega) (by omega) hw (by omega) m b [] (by omega) (by omega) (by simp; omega)
 rw [List.nil_append] at g
 have q := area_bd hbx
 have hL : ((gridL B a w b m).length : Int) = (c - a) * (d - b) := by
  rw [gridL_len, Int.natCast_mul, hw, hm, Int.mul_comm]
 have hA : allBits (gridL B a w b m) = true := bits_of (gridL_mem B (fun x y => (hB x y).2) a w m b)
 generalize gridL B a w b m = L at g hL hA
 have hM : Ev (fun k => spec_MaskOf.f k fl false a b c d) (a, b, c, d, L) := by
  simp only [spec_MaskOf.f, spec_l11Box_v, decide_eq_true hbx, Option.bind_some, if_true]
  exact g
 obtain ⟨o, q7, t7, e7, v7, w7⟩ := once_r l q5 t5 3 v5 w5 hn (by omega) (by omega)
 have hbd : -2 ≤ a ∧ -2 ≤ b ∧ c ≤ 11 ∧ d ≤ 11 := by omega
 unfold spec_l11Mask.f
 simp only [e1, e2, e3, e4, Option.bind_some, ha, hb, ea, eb, ec, ed]
 cases o with
 | true =>
  obtain ⟨L', q8, t8, k8, k9, k10, v8, w8⟩ := fill_l l hn a b c d L.length 0 L q7 t7 (by omega) (by omega) hA v7 w7
  refine ⟨a, b, c, d, L', q8, t8, ?_, ⟨hbx, by omega, k10, hbd⟩, v8, w8⟩
  refine Ev.bind k5 (Ev.bind k6 (Ev.bind hM ?_))
  simp only [e7, Option.bind_some, if_true]
  exact k8
 | false =>
  refine ⟨a, b, c, d, L, q7, t7, ?_, ⟨hbx, hL, hA, hbd⟩, v7, w7⟩
  refine Ev.bind k5 (Ev.bind k6 (Ev.bind hM ?_))
  simp only [e7, Option.bind_some, Bool.false_eq_true, if_false]
  exact Ev.now _
/-- Two drawn masks. -/
theorem DrawMasks_v : ∃ a b c d L a' b' c' d' L', Ev (fun k => spec_DrawMasks.f k l) (a, b, c, d, L, a', b', c', d', L') ∧ drawnM a b c d L ∧ drawnM a' b' c' d' L' := by
 obtain ⟨s, hs⟩ := new_v l hn
 obtain ⟨a, b, c, d, L, q1, t1, k1, g1, v1, w1⟩ := Mask_v l hn 0 s (by omega) (by omega)
 obtain ⟨a', b', c', d', L', q2, t2, k2, g2, v2, w2⟩ := Mask_v l hn q1 t1 v1 w1
 refine ⟨a, b, c, d, L, a', b', c', d', L', ?_, g1, g2⟩
 unfold spec_DrawMasks.f
 refine Ev.bind hs (Ev.bind k1 (Ev.bind k2 ?_))
 exact Ev.now _
end

/-! Box05 -/
def inR (x : Int) : Prop := -9223372036854775808 ≤ x ∧ x ≤ 9223372036854775807
theorem wrap_in (x : Int) : inR (wrap64 x) := by
 unfold inR wrap64
 omega
theorem rd_in (xs : List Int) (h : ∀ x ∈ xs, inR x) (i : Nat) (hi : i < xs.length) : inR (rd xs (i : Int)) := by
 rw [rd_int _ _ hi]
 exact h _ (List.getElem_mem hi)
section
variable (l : List Int) (hn : l.length ≤ 1048576)
include hn
theorem box05_v (p s : Int) (hp : 0 ≤ p) (hq : p ≤ l.length) : ∃ a b c d q t, Ev (fun k => spec_l05Box.f k l p s) (a, b, c, d, q, t) ∧ (inR a ∧ inR b ∧ inR c ∧ inR d) ∧ 0 ≤ q ∧ q ≤ l.length := by
 have hj : ∀ (q t a b c d : Int), 0 ≤ q → q ≤ l.length → inR a → inR b → inR c → inR d → ∃ a' b' c' d' q' t', Ev (fun k => spec_l05Box.j0 k l q t a b c d) (a', b', c', d', q', t') ∧ (inR a' ∧ inR b' ∧ inR c' ∧ inR d') ∧ 0 ≤ q' ∧ q' ≤ l.length := by
  intro q t a b c d r0 r1 ra rb rc rd'
  obtain ⟨o2, q2, t2, e2, v2, w2⟩ := once_r l q t 16 r0 r1 hn (by omega) (by omega)
  cases o2 with
  | true =>
   obtain ⟨i, q3, t3, e3, hi3, v3, w3⟩ := pick_r l q2 t2 [9223372036854775807, (-9223372036854775808), (-33554433)] v2 w2 hn (by simp) (by simp)
   refine ⟨a, rd [9223372036854775807, (-9223372036854775808), (-33554433)] (i : Int), c, d, q3, t3, ev_done (fun k => ?_), ⟨ra, rd_in [9223372036854775807, (-9223372036854775808), (-33554433)] (by simp [inR]) i hi3, rc, rd'⟩, v3, w3⟩
   simp only [spec_l05Box.j0, e2, e3, Option.bind_some, if_true]
  | false =>
   refine ⟨a, b, c, d, q2, t2, ev_done (fun k => ?_), ⟨ra, rb, rc, rd'⟩, v2, w2⟩
   simp only [spec_l05Box.j0, e2, Option.bind_some, Bool.false_eq_true, if_false]
 obtain ⟨b1, q1, t1, e1, _, _, v1, w1⟩ := below_r l p s 20 hp hq hn (by omega) (by omega)
 obtain ⟨b2, q2, t2, e2, _, _, v2, w2⟩ := below_r l q1 t1 20 v1 w1 hn (by omega) (by omega)
 obtain ⟨b3, q3, t3, e3, _, _, v3, w3⟩ := below_r l q2 t2 9 v2 w2 hn (by omega) (by omega)
 obtain ⟨b4, q4, t4, e4, _, _, v4, w4⟩ := below_r l q3 t3 9 v3 w3 hn (by omega) (by omega)
 obtain ⟨o, q5, t5, e5, v5, w5⟩ := once_r l q4 t4 16 v4 w4 hn (by omega) (by omega)
 unfold spec_l05Box.f
 simp only [e1, e2, e3, e4, e5, Option.bind_some]
 cases o with
 | true =>
  obtain ⟨i, q6, t6, e6, hi6, v6, w6⟩ := pick_r l q5 t5 [9223372036854775807, (-9223372036854775808), 33554433] v5 w5 hn (by simp) (by simp)
  simp only [if_true, e6, Option.bind_some]
  exact hj _ _ _ _ _ _ v6 w6 (wrap_in _) (wrap_in _) (rd_in [9223372036854775807, (-9223372036854775808), 33554433] (by simp [inR]) i hi6) (wrap_in _)
 | false =>
  simp only [Bool.false_eq_true, if_false]
  exact hj _ _ _ _ _ _ v5 w5 (wrap_in _) (wrap_in _) (wrap_in _) (wrap_in _)
end

/-! law_FnMasks -/
section
variable (l : List Int) (hn : l.length ≤ 1048576)
include hn
theorem by_j0 (rs : List S95) (hr : rs.length ≤ 4000) (a b c d : Int) (L : List Int) (ra : inR a) (rb : inR b) (rc : inR c) (rd' : inR d) (p s : Int) (hp : 0 ≤ p) (hq : p ≤ l.length) : ∃ a' b' c' d', Ev (fun k => spec_DrawMaskBy.j0 k rs l p s a b c d L) (a', b', c', d', rs) ∧ (inR a' ∧ inR b' ∧ inR c' ∧ inR d') := by
 obtain ⟨o, q, t, e, v, w⟩ := once_r l p s 16 hp hq hn (by omega) (by omega)
 cases o with
 | true =>
  obtain ⟨a', b', c', d', q2, t2, k2, h2, v2, w2⟩ := box05_v l hn q t v w
  refine ⟨a', b', c', d', ?_, h2⟩
  refine Ev.step (fun k => rfl) ?_
  simp only [spec_DrawMaskBy.j0, e, Option.bind_some, if_true]
  refine Ev.bind k2 ?_
  exact Ev.now _
 | false =>
  refine ⟨a, b, c, d, ev_done (fun k => ?_), ra, rb, rc, rd'⟩
  simp only [spec_DrawMaskBy.j0, e, Option.bind_some, Bool.false_eq_true, if_false]
theorem DrawMaskBy_v : ∃ a b c d rs, Ev (fun k => spec_DrawMaskBy.f k l) (a, b, c, d, rs) ∧ rs.length ≤ 4000 ∧ (inR a ∧ inR b ∧ inR c ∧ inR d) := by
 obtain ⟨s, hs⟩ := new_v l hn
 obtain ⟨a, b, c, d, L, q1, t1, k1, ⟨g1, g2, g3, g4, g5, g6, g7⟩, v1, w1⟩ := Mask_v l hn 0 s (by omega) (by omega)
 have hbd := area_bd g1
 have hga := g1
 obtain ⟨h1, h2, h3, h4, h5, h6, h7, h8⟩ := hga
 obtain ⟨R, r1, _, r3⟩ := RunsOf_v (a := a) (b := b) (c := c) (d := d) L (by omega) (by omega) (by omega) (by omega) (by omega)
 have ia : inR a := ⟨by omega, by omega⟩
 have ib : inR b := ⟨by omega, by omega⟩
 have ic : inR c := ⟨by omega, by omega⟩
 have id' : inR d := ⟨by omega, by omega⟩
 have J : ∀ (rs : List S95), rs.length ≤ 4000 → ∀ p s : Int, 0 ≤ p → p ≤ l.length → ∃ a' b' c' d', Ev (fun k => spec_DrawMaskBy.j0 k rs l p s a b c d L) (a', b', c', d', rs) ∧ rs.length ≤ 4000 ∧ (inR a' ∧ inR b' ∧ inR c' ∧ inR d') := fun rs hr p s hp hq => by
  obtain ⟨a', b', c', d', k9, h9⟩ := by_j0 l hn rs hr a b c d L ia ib ic id' p s hp hq
  exact ⟨a', b', c', d', k9, hr, h9⟩
 unfold spec_DrawMaskBy.f
 by_cases hz : (R.length : Int) > 0
 ·obtain ⟨b2, q2, t2, e2, l2, u2, v2, w2⟩ := below_r l q1 t1 (R.length : Int) v1 w1 hn (by omega) (by omega)
  obtain ⟨b3, q3, t3, e3, l3, u3, v3, w3⟩ := below_r l q2 t2 10 v2 w2 hn (by omega) (by omega)
  have c2 : (0 : Int) ≤ b2 := l2
  by_cases z0 : b3 = 0
  ·obtain ⟨i, q4, t4, e4, _, v4, w4⟩ := pick_r l q3 t3 [0, 16, 5] v3 w3 hn (by simp) (by simp)
   obtain ⟨a', b', c', d', k5, h5⟩ := J (R.set b2.toNat ⟨(rd_T95 R b2).f0, (rd_T95 R b2).f1, (rd_T95 R b2).f2, rd [0, 16, 5] (i : Int)⟩) (by rw [List.length_set]; omega) q4 t4 v4 w4
   refine ⟨a', b', c', d', _, ?_, h5⟩
   refine Ev.bind hs (Ev.bind k1 (Ev.bind r1 ?_))
   simp only [if_pos hz, e2, e3, Option.bind_some, if_pos z0, e4, if_pos c2, if_pos u2]
   exact k5
  ·by_cases z1 : b3 = 1
   ·obtain ⟨a', b', c', d', k5, h5⟩ := J (R.set b2.toNat ⟨(rd_T95 R b2).f0, (rd_T95 R b2).f1, wrap64 ((rd_T95 R b2).f2 + 1), (rd_T95 R b2).f3⟩) (by rw [List.length_set]; omega) q3 t3 v3 w3
    refine ⟨a', b', c', d', _, ?_, h5⟩
    refine Ev.bind hs (Ev.bind k1 (Ev.bind r1 ?_))
    simp only [if_pos hz, e2, e3, Option.bind_some, if_neg z0, if_pos z1, if_pos c2, if_pos u2]
    exact k5
   ·by_cases z2 : b3 = 2
    ·obtain ⟨i, q4, t4, e4, _, v4, w4⟩ := pick_r l q3 t3 [1, (-1), 99] v3 w3 hn (by simp) (by simp)
     obtain ⟨a', b', c', d', k5, h5⟩ := J (R.set b2.toNat ⟨wrap64 ((rd_T95 R b2).f0 + rd [1, (-1), 99] (i : Int)), (rd_T95 R b2).f1, (rd_T95 R b2).f2, (rd_T95 R b2).f3⟩) (by rw [List.length_set]; omega) q4 t4 v4 w4
     refine ⟨a', b', c', d', _, ?_, h5⟩
     refine Ev.bind hs (Ev.bind k1 (Ev.bind r1 ?_))
     simp only [if_pos hz, e2, e3, Option.bind_some, if_neg z0, if_neg z1, if_pos z2, e4, if_pos c2, if_pos u2]
     exact k5
    ·by_cases z3 : b3 = 3
     ·obtain ⟨a', b', c', d', k5, h5⟩ := J (R ++ [⟨(rd_T95 R b2).f0, (rd_T95 R b2).f1, (rd_T95 R b2).f2, (rd_T95 R b2).f3⟩]) (by simp; omega) q3 t3 v3 w3
      refine ⟨a', b', c', d', _, ?_, h5⟩
      refine Ev.bind hs (Ev.bind k1 (Ev.bind r1 ?_))
      simp only [if_pos hz, e2, e3, Option.bind_some, if_neg z0, if_neg z1, if_neg z2, if_pos z3, if_pos c2, if_pos u2, if_pos (show R.length < 4398046511104 by omega)]
      exact k5
     ·obtain ⟨a', b', c', d', k5, h5⟩ := J R (by omega) q3 t3 v3 w3
      refine ⟨a', b', c', d', _, ?_, h5⟩
      refine Ev.bind hs (Ev.bind k1 (Ev.bind r1 ?_))
      simp only [if_pos hz, e2, e3, Option.bind_some, if_neg z0, if_neg z1, if_neg z2, if_neg z3]
      exact k5
 ·obtain ⟨a', b', c', d', k5, h5⟩ := J R (by omega) q1 t1 v1 w1
  refine ⟨a', b', c', d', _, ?_, h5⟩
  refine Ev.bind hs (Ev.bind k1 (Ev.bind r1 ?_))
  simp only [if_neg hz]
  exact k5
end
theorem sameInts_l (x0 : List Int) (hn : x0.length ≤ 1048576) : ∀ (d i : Nat), i + d = x0.length → Ev (fun k => laws_sameInts.l0 k x0 x0 (i : Int)) true := by
 intro d
 induction d with
 | zero =>
  intro i hi
  refine ev_done (fun k => ?_)
  simp only [laws_sameInts.l0]
  rw [if_neg (by omega)]
 | succ d ih =>
  intro i hi
  have hi2 : i < x0.length := by omega
  refine Ev.step (fun k => ?_) (ih (i + 1) (by omega))
  simp only [laws_sameInts.l0]
  rw [if_pos (by omega), if_pos (by omega), if_pos (by omega), step64 hi2 (by omega)]
  simp
theorem sameMask_v (a b c d : Int) (L : List Int) (hn : L.length ≤ 1048576) : Ev (fun k => laws_sameMask.f k a b c d L a b c d L) true := by
 unfold laws_sameMask.f laws_sameInts.f
 simp only [beq_self_eq_true, Bool.and_self, if_true]
 refine Ev.bind (sameInts_l L hn L.length 0 (by omega)) ?_
 exact Ev.now _
section
variable {a b c d : Int} {L : List Int} (hM : Ev (fun k => laws_sameMask.f k a b c d L a b c d L) true) (hK : Ev (fun k => impl_MaskOk.f k a b c d L) true)
include hM hK
theorem masks_end (rs : List S95) (f : Bool) (B : List S95) (i : Int) : Ev (fun k => laws_FnMasks.j5 k true rs f B i false a b c d L a b c d L) true := by
 refine Ev.step (fun k => rfl) ?_
 simp only [laws_FnMasks.j5, Bool.false_eq_true, if_false, if_true]
 refine Ev.bind hM ?_
 simp only [if_true]
 refine Ev.bind hK ?_
 exact Ev.now _
theorem masks_cmp (rs : List S95) (hr : rs.length ≤ 1048576) : ∀ (n i : Nat), i + n = rs.length → Ev (fun k => laws_FnMasks.l2 k true rs true rs (i : Int) a b c d L a b c d L) true := by
 intro n
 induction n with
 | zero =>
  intro i hi
  refine Ev.step (fun k => ?_) (masks_end hM hK rs true rs (i : Int))
  simp only [laws_FnMasks.l2]
  rw [if_neg (by omega)]
 | succ n ih =>
  intro i hi
  have hi2 : i < rs.length := by omega
  refine Ev.step (f := fun k => laws_FnMasks.j5 k true rs true rs (i : Int) true a b c d L a b c d L) (fun k => ?_) (Ev.step (fun k => ?_) (ih (i + 1) (by omega)))
  ·simp only [laws_FnMasks.l2]
   rw [if_pos (by omega)]
  ·simp only [laws_FnMasks.j5, if_true, beq_self_eq_true, Bool.not_true, Bool.or_self, Bool.false_eq_true, if_false, step64 hi2 (show rs.length ≤ 4611686018427387904 by omega)]
   rw [if_pos (by omega), if_pos (by omega), if_pos (by omega)]
theorem masks_tail (l : List Int) (hn : l.length ≤ 1048576) (R : List S95) (hR : R.length ≤ 1048576) : Ev (fun k => laws_FnMasks.l0 k l R true (R.length : Int) a b c d L a b c d L) true := by
 obtain ⟨a', b', c', d', rs, k1, hr, ⟨ia, ib, ic, id'⟩⟩ := DrawMaskBy_v l hn
 obtain ⟨⟨p, q, r, s, M, ok⟩, m1, m2, m3, m4⟩ := MaskBy_g rs (by omega) ia ib ic id'
 refine Ev.step (fun k => rfl) ?_
 simp only [laws_FnMasks.l0, if_neg (show ¬ ((R.length : Int) < (R.length : Int)) by omega)]
 refine Ev.bind k1 (Ev.bind m2 (Ev.bind m1 ?_))
 have hne : (ok != ok) = false := by cases ok <;> rfl
 rcases m4 with ⟨h1, h2⟩ | h1
 ·replace h1 : ok = true := h1
  subst h1
  refine Ev.bind h2 ?_
  simp only [hne, Bool.false_eq_true, if_false, if_true]
  refine Ev.step (f := fun k => laws_FnMasks.l2 k true rs true rs 0 a b c d L a b c d L) (fun k => ?_) (masks_cmp hM hK rs (by omega) rs.length 0 (by omega))
  simp only [laws_FnMasks.j3]
  rw [if_neg (by simp)]
 ·simp only [byFail, Prod.mk.injEq] at h1
  obtain ⟨rfl, rfl, rfl, rfl, rfl, rfl⟩ := h1
  have hnone : Ev (fun k => impl_RunsOf.f k 0 0 0 0 []) ([] : List S95) := by
   have hm := impl_MaskOk_v (a := 0) (b := 0) (c := 0) (d := 0) [] (by simp) (by omega) (by omega) (by omega) (by omega)
   rw [show maskOkB 0 0 0 0 [] = true by decide] at hm
   unfold impl_RunsOf.f
   refine Ev.bind hm ?_
   simp only [if_true]
   refine ev_done (fun k => ?_)
   simp only [impl_RunsOf.l0]
   rw [if_neg (by omega)]
  refine Ev.bind hnone ?_
  simp only [hne, Bool.false_eq_true, if_false]
  refine Ev.step (f := fun k => laws_FnMasks.l2 k true rs false [] 0 a b c d L a b c d L) (fun k => ?_) (Ev.step (fun k => ?_) (masks_end hM hK rs false [] 0))
  ·simp only [laws_FnMasks.j3]
   rw [if_neg (by simp)]
  ·simp only [laws_FnMasks.l2]
   split <;> rfl
end
section
variable {a b c d : Int} {L : List Int} (hb : maskBoxP a b c d) (hl : (L.length : Int) = (c - a) * (d - b)) (hA : allBits L = true)
include hb hl hA
theorem BitsAt_w (x y : Int) : Ev (fun k => impl_BitsAt.f k a b c d L x y) (bitsP a b c d L x y) := by
 have q := area_bd hb
 obtain ⟨p1, p2, p3, p4, p5, p6, p7, p8⟩ := id hb
 have hok : maskOkB a b c d L = true := by
  unfold maskOkB
  rw [if_neg (by omega), decide_eq_true hb, decide_eq_true hl, hA]
  rfl
 have hm := impl_MaskOk_v (a := a) (b := b) (c := c) (d := d) L (by omega) (by omega) (by omega) (by omega) (by omega)
 rw [hok] at hm
 unfold impl_BitsAt.f
 refine Ev.bind hm ?_
 simp only [if_true, impl_bitsAt_v x y hb hl, Option.bind_some]
 exact Ev.now _
theorem masks_cols (l : List Int) (R : List S95) (i : Int) (y x0 x1 v : Int) (h0 : a ≤ x0) (hc : x1 ≤ c) (hv : ∀ x, x0 ≤ x → x < x1 → bitsP a b c d L x y = v) (H : Ev (fun k => laws_FnMasks.l0 k l R true (wrap64 (i + 1)) a b c d L a b c d L) true) : ∀ (n : Nat) (x : Int), x + n = x1 → x0 ≤ x → Ev (fun k => laws_FnMasks.l1 k l R true i x a b c d L a b c d L y x0 x1 v) true := by
 obtain ⟨p1, p2, p3, p4, p5, p6, p7, p8⟩ := id hb
 intro n
 induction n with
 | zero =>
  intro x hx hx0
  refine Ev.step (fun k => ?_) H
  simp only [laws_FnMasks.l1]
  rw [if_neg (by omega)]
 | succ n ih =>
  intro x hx hx0
  have h := ih (x + 1) (by omega) (by omega)
  rw [← w64 (x := x + 1) (by omega) (by omega)] at h
  have hB := BitsAt_w hb hl hA x y
  rw [hv x hx0 (by omega)] at hB
  refine Ev.step (fun k => rfl) ?_
  simp only [laws_FnMasks.l1, if_pos (show x < x1 by omega)]
  refine Ev.bind hB ?_
  simp only [if_true]
  exact h
theorem masks_runs (l : List Int) (R : List S95) (hn : R.length ≤ 3600) (hok : ∀ r ∈ R, okRun (bitsP a b c d L) r.f0 a c r) (ha : ascR R) (H : Ev (fun k => laws_FnMasks.l0 k l R true (R.length : Int) a b c d L a b c d L) true) : ∀ (n i : Nat), i + n = R.length → Ev (fun k => laws_FnMasks.l0 k l R true (i : Int) a b c d L a b c d L) true := by
 intro n
 induction n with
 | zero =>
  intro i hi
  obtain rfl : i = R.length := by omega
  exact H
 | succ n ih =>
  intro i hi
  have hi2 : i < R.length := by omega
  have h := ih (i + 1) (by omega)
  rw [← step64 hi2 (by omega)] at h
  have e := rd_impl_Run R i hi2
  obtain ⟨_, o1, o2, o3, o4, o5⟩ := hok _ (List.getElem_mem hi2)
  have hc := masks_cols hb hl hA l R (i : Int) R[i].f0 R[i].f1 R[i].f2 R[i].f3 o1 o3 o5 h (R[i].f2 - R[i].f1).toNat R[i].f1 (by omega) (Int.le_refl _)
  refine Ev.step (f := fun k => laws_FnMasks.j1 k l R true (i : Int) false a b c d L a b c d L R[i].f0 R[i].f1 R[i].f2 R[i].f3) (fun k => ?_) (Ev.step (fun k => ?_) hc)
  ·cases i with
   | zero =>
    simp only [laws_FnMasks.l0, e]
    rw [if_pos (by omega), if_pos (by omega), if_neg o4, if_neg (by omega), if_neg (by omega)]
   | succ j =>
    have ej : wrap64 (((j + 1 : Nat) : Int) - 1) = (j : Int) := by rw [w64 (by omega) (by omega)]; omega
    have e2 := rd_impl_Run R j (by omega)
    have hadj := ascR_get R ha j hi2
    unfold adjR at hadj
    simp only [laws_FnMasks.l0, e, ej, e2]
    rw [if_pos (by omega), if_pos (by omega), if_neg o4, if_neg (by omega), if_pos (by omega), if_pos (by omega), if_pos (by omega), if_neg (by omega)]
    by_cases h1 : R[j].f0 = R[j + 1].f0
    ·rw [if_pos h1, if_neg (by omega)]
     by_cases h2 : R[j].f2 = R[j + 1].f1
     ·rw [if_pos h2, show (R[j].f3 == R[j + 1].f3) = false from beq_eq_false_iff_ne.mpr (by omega)]
     ·rw [if_neg h2]
    ·rw [if_neg h1]
  ·simp only [laws_FnMasks.j1]
   rw [if_neg (by simp)]
end
theorem FnMasks : laws_FnMasks.Pure := by
 intro l hl _ _
 refine Ev.rounds ?_
 unfold laws_FnMasks.f laws_big.f
 simp only [Option.bind_some, decide_eq_true_eq]
 by_cases hbig : (l.length : Int) > 1048576
 ·simp only [if_pos hbig]
  exact Ev.now true
 simp only [if_neg hbig]
 obtain ⟨a, b, c, d, L, a', b', c', d', L', k1, ⟨g1, g2, g3, g4⟩, _⟩ := DrawMasks_v l (by omega)
 have q := area_bd g1
 obtain ⟨h1, h2, h3, h4, h5, h6, h7, h8⟩ := id g1
 obtain ⟨w, hw⟩ : ∃ w : Nat, (w : Int) = c - a := ⟨(c - a).toNat, by omega⟩
 obtain ⟨m, hm⟩ : ∃ m : Nat, (m : Int) = d - b := ⟨(d - b).toNat, by omega⟩
 obtain ⟨_, r2, r3⟩ := RunsOf_all g1 g2 g3 w m hw hm
 have hB := MaskBy_self g1 g2 g3 w m hw hm
 obtain ⟨o1, _, o3⟩ := allRuns_ok (bitsP a b c d L) a c w hw m b
 have hok : maskOkB a b c d L = true := by
  unfold maskOkB
  rw [if_neg (by omega), decide_eq_true g1, decide_eq_true g2, g3]
  rfl
 have hK := impl_MaskOk_v (a := a) (b := b) (c := c) (d := d) L (by omega) (by omega) (by omega) (by omega) (by omega)
 rw [hok] at hK
 generalize allRuns (bitsP a b c d L) a w b m = R at r2 r3 hB o1 o3
 refine Ev.bind k1 (Ev.bind r2 (Ev.bind hB ?_))
 exact masks_runs g1 g2 g3 l R r3 (fun r hr => (o1 r hr).2) o3 (masks_tail (sameMask_v a b c d L (by omega)) hK l (by omega) R (by omega)) R.length 0 (by omega)

end Go.Proofs.Ytghbenapnhcllaa.Pure
