/- Functions of the program as Lean functions, and the proof that a call comes to just these: machine text of this session's own program (myprint.py). -/
import Derived.Test.YtjfienkbcacijaaMFnTreesx0
import Derived.Test.YtjfienkbcacijaaMFnTreesx1
import Derived.Test.YtjfienkbcacijaaMFnTreesx2
import Derived.Test.YtjfienkbcacijaaMFnTreesx11
namespace Go.Proofs.Ytjfienkbcacijaa.MFnTrees
open Go.RowKit Go.Proofs.YtjfienkbcacijaaW.PrintWords Go.Proofs.YtjfienkbcacijaaW.PrintLast Go.Proofs.YtjfienkbcacijaaW.PrintMore
attribute [local go_sem] max2_int min2_int max_two min_two max_three min_three max_four min_four   -- for this text's walks alone
set_option linter.unusedVariables false
set_option linter.unusedSimpArgs false

attribute [local go_sem high] eqA29 eqA67
theorem z12_1 {P : Prop} (h : P := by repeat (first | (with_reducible first | exact HB.out | apply below_alloc | apply pw_below_drewN | apply below_drew1 | refine below_set ?_ XR.out) | exact HB.out)) : P := h
theorem z12_3 {P : Prop} (h : P := by repeat (first | (with_reducible first | exact HB.out | apply below_alloc | apply pw_below_drewN | apply below_drew1 | refine below_set ?_ Ym.out) | exact HB.out)) : P := h
theorem z12_5 {P : Prop} (h : P := by (with_reducible repeat (first | refine blk_drewN ?_ _ | refine blk_drew ?_ | refine blk_alloc ?_ _)); with_reducible exact XD.out) : P := h
theorem z12_6 {P : Prop} (h : P := by repeat (first | (with_reducible first | exact HB.out | apply below_alloc | apply pw_below_drewN | apply below_drew1 | refine below_set ?_ X1.out) | exact HB.out)) : P := h
theorem z12_7 {P : Prop} (h : P := by first | rfl | (simp [errW_none, errW_some] <;> rfl) | (simp only [← hji20]; first | rfl | (simp [errW_none, errW_some] <;> rfl)) | (simp [*, errW_none, errW_some] <;> rfl)) : P := h
theorem z12_8 {P : Prop} (h : P := by repeat (first | (with_reducible first | exact HB.out | apply below_alloc | apply pw_below_drewN | apply below_drew1 | refine below_set ?_ X9.out) | exact HB.out)) : P := h
/-! ### impl_PathOk: function 76 -/
mutual
def impl_PathOk.j0 : Nat → Bool → List Int → List (S29) → Option (Bool)
 | 0, _, _, _ => none
 | k + 1, x23, XK, XN => if x23 = true then (some false) else (impl_PathOk.l0 k 0 XK (XK.length : Int) 0 XK XN)
def impl_PathOk.l0 : Nat → Int → List Int → Int → Int → List Int → List (S29) → Option (Bool)
 | 0, _, _, _, _, _, _ => none
 | k + 1, x3, x25, x26, x27, XK, XN => if x27 < x26 then (if 0 ≤ x27 then (if x27 < (x25.length : Int) then ((impl_NeedOf.f k (rd x25 x27)).bind fun XM => (if x27 = 0 then (if XM < 0 then (some false) else (if (rd x25 x27) = 1 then (impl_PathOk.l0 k (wrap64 (x3 + XM)) x25 x26 (wrap64 (x27 + 1)) XK XN) else (some false))) else (if 0 ≤ (wrap64 (x27 - 1)) then (if (wrap64 (x27 - 1)) < (XK.length : Int) then (if XM < 0 then (some false) else (if (rd XK (wrap64 (x27 - 1))) = 5 then (if (rd x25 x27) = 1 then (impl_PathOk.l0 k (wrap64 (x3 + XM)) x25 x26 (wrap64 (x27 + 1)) XK XN) else (some false)) else (impl_PathOk.l0 k (wrap64 (x3 + XM)) x25 x26 (wrap64 (x27 + 1)) XK XN))) else (none)) else (none)))) else (none)) else (none)) else (some (x3 == (XN.length : Int)))
end
def impl_PathOk.f (k : Nat) (l0_0 : List Int) (l0_1 : List (S29)) : Option (Bool) := if (l0_1.length : Int) > 24 then (impl_PathOk.j0 k true l0_0 l0_1) else (if (l0_0.length : Int) > 24 then (impl_PathOk.j0 k true l0_0 l0_1) else ((impl_pointsOk.f k l0_1).bind fun X8 => (impl_PathOk.j0 k (!X8) l0_0 l0_1)))
theorem impl_PathOk.mono_l : ∀ k, (∀ y0 y1 y2, LeO (impl_PathOk.j0 k y0 y1 y2) (impl_PathOk.j0 (k + 1) y0 y1 y2)) ∧ (∀ y0 y1 y2 y3 y4 y5, LeO (impl_PathOk.l0 k y0 y1 y2 y3 y4 y5) (impl_PathOk.l0 (k + 1) y0 y1 y2 y3 y4 y5))
 | 0 => ⟨fun _ _ _ r h => by simp [impl_PathOk.j0] at h, fun _ _ _ _ _ _ r h => by simp [impl_PathOk.l0] at h⟩
 | k + 1 => by
  obtain ⟨ih0, ih1⟩ := impl_PathOk.mono_l k
  refine ⟨?_, ?_⟩
  ·intro y0 y1 y2
   unfold impl_PathOk.j0
   with_reducible repeat' first | apply ih0 | apply ih1 | apply impl_NeedOf.mono | apply impl_pointsOk.mono | exact LeO.refl _ | exact LeO.none _ | refine LeO.ite ?_ ?_ | refine LeO.bind ?_ (fun _ => ?_)
  ·intro y0 y1 y2 y3 y4 y5
   unfold impl_PathOk.l0
   with_reducible repeat' first | apply ih0 | apply ih1 | apply impl_NeedOf.mono | apply impl_pointsOk.mono | exact LeO.refl _ | exact LeO.none _ | refine LeO.ite ?_ ?_ | refine LeO.bind ?_ (fun _ => ?_)
theorem impl_PathOk.mono : ∀ a0 a1 k, LeO (impl_PathOk.f k a0 a1) (impl_PathOk.f (k + 1) a0 a1) := by
 intro a0 a1 k; obtain ⟨ih0, ih1⟩ := impl_PathOk.mono_l k
 unfold impl_PathOk.f
 with_reducible repeat' first | apply ih0 | apply ih1 | apply impl_NeedOf.mono | apply impl_pointsOk.mono | exact LeO.refl _ | exact LeO.none _ | refine LeO.ite ?_ ?_ | refine LeO.bind ?_ (fun _ => ?_)
set_option maxHeartbeats 8000000 in
set_option maxRecDepth 100000 in
theorem impl_PathOk.calls (k : Nat) (XW : Option Addr) (XX : Nat) (l0_0 : List Int) (XY : Option Addr) (XZ : Nat) (l0_1 : List (S29)) (r : Bool) (w : World) (hr0_0 : Kd.C (Kd.int .i64) w XW l0_0.length l0_0) (hc0_0 : l0_0.length ≤ XX) (hr0_1 : Kd.C k29 w XY l0_1.length l0_1) (hc0_1 : l0_1.length ≤ XZ) (h : impl_PathOk.f k l0_0 l0_1 = some r) :
  Calls Try.prog 76 #[.agg #[.slice XW l0_0.length XX, .slice XY l0_1.length XZ]] w fun e w' => e = .returned (.bool r) ∧ Below w.heap.size w w' := by
 have hu63 := Try.underlying63; have Xe := mk0 hr0_0; have Yn := mk0 hc0_0; clear hr0_0 hc0_0; have Ya := mk0 hr0_1; have Yb := mk0 hc0_1; clear hr0_1 hc0_1; have HB := mk0 (Below.refl w.heap.size w)
 have H := h; unfold impl_PathOk.f at H
 clear h; have HC2 := mk0 H; clear H; go_enter Try.func76, Try.ntmps76
 go_upto_region 1 with (first | ((with_reducible refine gate_dst (N := 1) rfl ?_); (try (refine gate_guard (by rfl) ?_; dsimp only)); refine boxz (cs := #[.slice XW l0_0.length XX, .slice XY l0_1.length XZ]) (t := 63) rfl ?_; intro Yc hg w3 hbox hb; have Yo := mk0 (ge_go (a := w.heap.size) hg (below_size q_162)); have Ym := Yo; replace HB := bS q_162 hb; have XG := mk0 (hbox); clear hb hbox hg))
 (try simp only [Act.put, List.setIfInBounds_toArray, List.set_cons_zero, List.set_cons_succ])
 go_cut [23] (fun v23 wc => ∃ (kq : Nat) (X2 : Bool), v23 = .bool X2 ∧ Aside0 (impl_PathOk.j0 kq X2 l0_0 l0_1 = some r) ∧ Aside0 (kq ≤ k) ∧ Aside0 (wc.heap[Yc]? = some (.cells #[(.slice XW l0_0.length XX), (.slice XY l0_1.length XZ)] 63 (0, 0))) ∧ Aside0 (Below w.heap.size w wc))
 case first =>
  have H := HC2.out; clear HC2
  by_cases c4 : (l0_1.length : Int) > 24
  ·rw [if_pos c4] at H; have c4b0 := decide_eq_true c4
   have c4b1 : decide (24 < l0_1.length) = true := decide_eq_true (by omega)
   clear c4
   (first | rw [c4b0] | rw [c4b1] | skip)
   have H' := mk0 H
   clear H; refine bc_2 XG.out ?_; intros
   go_wp2
   go_meet
   case rel => exact ⟨_, (true), rs0, H', ⟨(by first | omega | exact Nat.le_refl _)⟩, ⟨pkb XG⟩, ⟨z12_3⟩⟩
  rw [if_neg c4] at H; have c4b0 := decide_eq_false c4
  have c4b1 : decide (24 < l0_1.length) = false := decide_eq_false (by omega)
  clear c4
  (first | rw [c4b0] | rw [c4b1] | skip)
  by_cases c6 : (l0_0.length : Int) > 24
  ·rw [if_pos c6] at H; have c6b0 := decide_eq_true c6
   have c6b1 : decide (24 < l0_0.length) = true := decide_eq_true (by omega)
   clear c6
   have H' := mk0 H
   clear H; refine bc_2 XG.out ?_; intros
   go_wp2
   go_meet
   case rel => exact ⟨_, (true), rs0, H', ⟨(by first | omega | exact Nat.le_refl _)⟩, ⟨pkb XG⟩, ⟨z12_3⟩⟩
  rw [if_neg c6] at H; have c6b0 := decide_eq_false c6
  have c6b1 : decide (24 < l0_0.length) = false := decide_eq_false (by omega)
  clear c6; obtain ⟨X8, A8, H⟩ := bnd H
  try dsimp only at H
  have H' := mk0 H
  clear H; refine bc_2 XG.out ?_; intros
  go_wp2_with (first | (go_at_call 49; (with_reducible refine (impl_pointsOk.calls k _ _ l0_1 X8 _ ?side1 ?side2 A8.out).mono ?_); (case side1 => repeat (first | exact (Kd.C_below Ya.out HB.out) | (with_reducible refine Kd.C_alloc ?_ _) | (with_reducible refine Kd.C_drewN ?_ _) | (with_reducible refine Kd.C_drew ?_))); (case side2 => exact Yb.out); rintro e w10 ⟨rfl, hb⟩; replace XG := bB XG hb; replace HB := bS z12_3 hb; clear hb))
  go_meet
  case rel => exact ⟨_, (!X8), rs0, H', ⟨(by first | omega | exact Nat.le_refl _)⟩, ⟨pkb XG⟩, ⟨z12_3⟩⟩
 case rest =>
  clear HC2; try clear p2
  obtain ⟨kq, X2, rfl, HA, HJ1, XG, HB⟩ := hcut
  cases kq with
  | zero => exact absurd HA.out (by simp [impl_PathOk.j0])
  | succ kj1 =>
   have H := HA.out; clear HA; simp only [impl_PathOk.j0] at H
   by_cases c11 : X2 = true
   ·subst c11; rw [if_pos rfl] at H
    obtain rfl := Option.some.inj H
    simp only [Option.some.injEq, Prod.mk.injEq] at H; obtain ⟨rfl⟩ := H
    go_wp2
    go_ret
    exact ⟨q_94, z12_3⟩
   replace c11 := Bool.eq_false_iff.mpr c11; subst c11; rw [if_neg (show ¬ (false = true) by decide)] at H
   have H' := mk0 H
   clear H; refine bc_2 XG.out ?_; intros
   go_wp2
   go_loopg [3, 27] kj1 (fun kq v3 v27 w' => ∃ (X0 : Int) (XE : Int), v3 = .int .i64 X0 ∧ v27 = .int .i64 XE ∧ Aside0 (impl_PathOk.l0 kq X0 l0_0 (l0_0.length : Int) XE l0_0 l0_1 = some r) ∧ Aside0 (kq ≤ kj1) ∧ Aside0 (w'.heap[Yc]? = some (.cells #[(.slice XW l0_0.length XX), (.slice XY l0_1.length XZ)] 63 (0, 0))) ∧ Aside0 (Below w.heap.size w w'))
   case atStart => exact ⟨(0), (0), rs0, rs0, H', ⟨Nat.le_refl _⟩, ⟨pkb XG⟩, ⟨z12_3⟩⟩
   case round =>
    clear H'; (try clear c11); obtain ⟨X0, XE, rfl, rfl, HA, HK2, XG, HB⟩ := hrel
    cases gk with
    | zero => exact absurd HA.out (by simp [impl_PathOk.l0])
    | succ k2 =>
     have H := HA.out; clear HA; simp only [impl_PathOk.l0] at H
     by_cases c13 : XE < (l0_0.length : Int)
     rotate_left
     ·rw [if_neg c13] at H; have c13b0 := decide_eq_false c13; clear c13
      obtain rfl := Option.some.inj H
      simp only [Option.some.injEq, Prod.mk.injEq] at H; obtain ⟨rfl⟩ := H
      refine bc_2 XG.out ?_; intros
      go_wp2
      go_ret
      exact ⟨q_94, z12_3⟩
     rw [if_pos c13] at H; have c13b0 := decide_eq_true c13; clear c13
     by_cases c14 : 0 ≤ XE
     rotate_left
     ·rw [if_neg c14] at H
      exact absurd H (by simp)
     rw [if_pos c14] at H; have c14b0 := decide_eq_true c14; clear c14
     by_cases c15 : XE < (l0_0.length : Int)
     rotate_left
     ·rw [if_neg c15] at H
      exact absurd H (by simp)
     rw [if_pos c15] at H; have c15b0 := decide_eq_true c15; clear c15; obtain ⟨XM, A16, H⟩ := bnd H
     try dsimp only at H
     by_cases c17 : XE = 0
     ·rw [if_pos c17] at H
      have c17b0 : (XE == 0) = true := beq_iff_eq.mpr c17
      have c17b1 : (XE != 0) = false := bne_eq_false_iff_eq.mpr c17
      clear c17
      by_cases c18 : XM < 0
      ·rw [if_pos c18] at H; have c18b0 := decide_eq_true c18; clear c18
       obtain rfl := Option.some.inj H
       simp only [Option.some.injEq, Prod.mk.injEq] at H; obtain ⟨rfl⟩ := H
       have XI : 0 ≤ (XE : Int) := of_decide_eq_true (by first | (with_reducible assumption) | assumption)
       have XJ : XE < (l0_0.length : Int) := of_decide_eq_true (by first | (with_reducible assumption) | assumption)
       obtain ⟨XO, e509, XF⟩ := Kd.at_int Xe.out XE XI XJ
       cases e509
       replace XF := cell_go HB XF; replace XI := eq_true XI; replace XJ := eq_true XJ
       go_wp2_with (first | ((with_reducible refine gate_callee (f := 94) rfl ?_); refine gl_ (some 33) Try.func94 #[.int .i64 (rd l0_0 XE)] rfl q_1 ?_; (with_reducible refine (impl_NeedOf.calls k2 (rd l0_0 XE) XM _ A16.out).mono ?_); rintro e w' ⟨rfl, ⟨nd, rfl⟩⟩; refine ⟨_, rfl, ?_⟩))
       go_ret
       exact ⟨q_94, z12_3⟩
      rw [if_neg c18] at H; have c18b0 := decide_eq_false c18; clear c18
      by_cases c19 : (rd l0_0 XE) = 1
      rotate_left
      ·rw [if_neg c19] at H
       have c19b0 : ((rd l0_0 XE) == 1) = false := beq_eq_false_iff_ne.mpr c19
       have c19b1 : ((rd l0_0 XE) != 1) = true := bne_iff_ne.mpr c19
       obtain rfl := Option.some.inj H
       simp only [Option.some.injEq, Prod.mk.injEq] at H; obtain ⟨rfl⟩ := H
       have XI : 0 ≤ (XE : Int) := of_decide_eq_true (by first | (with_reducible assumption) | assumption)
       have XJ : XE < (l0_0.length : Int) := of_decide_eq_true (by first | (with_reducible assumption) | assumption)
       obtain ⟨XO, e509, XF⟩ := Kd.at_int Xe.out XE XI XJ
       cases e509
       replace XF := cell_go HB XF; replace XI := eq_true XI; replace XJ := eq_true XJ
       go_wp2_with (first | ((with_reducible refine gate_callee (f := 94) rfl ?_); refine gl_ (some 33) Try.func94 #[.int .i64 (rd l0_0 XE)] rfl q_1 ?_; (with_reducible refine (impl_NeedOf.calls k2 (rd l0_0 XE) XM _ A16.out).mono ?_); rintro e w' ⟨rfl, ⟨nd, rfl⟩⟩; refine ⟨_, rfl, ?_⟩))
       go_ret
       exact ⟨q_94, z12_3⟩
      rw [if_pos c19] at H
      have c19b0 : ((rd l0_0 XE) == 1) = true := beq_iff_eq.mpr c19
      have c19b1 : ((rd l0_0 XE) != 1) = false := bne_eq_false_iff_eq.mpr c19
      clear c19
      have H' := mk0 H
      clear H
      have XI : 0 ≤ (XE : Int) := of_decide_eq_true (by first | (with_reducible assumption) | assumption)
      have XJ : XE < (l0_0.length : Int) := of_decide_eq_true (by first | (with_reducible assumption) | assumption)
      obtain ⟨XO, e509, XF⟩ := Kd.at_int Xe.out XE XI XJ
      cases e509
      replace XF := cell_go HB XF; replace XI := eq_true XI; replace XJ := eq_true XJ
      go_wp2_with (first | ((with_reducible refine gate_callee (f := 94) rfl ?_); refine gl_ (some 33) Try.func94 #[.int .i64 (rd l0_0 XE)] rfl q_1 ?_; (with_reducible refine (impl_NeedOf.calls k2 (rd l0_0 XE) XM _ A16.out).mono ?_); rintro e w' ⟨rfl, ⟨nd, rfl⟩⟩; refine ⟨_, rfl, ?_⟩))
      go_roundg k2
      case measure => have := HJ1.out; have := HK2.out; omega
      case rel => exact ⟨(wrap64 (X0 + XM)), (wrap64 (XE + 1)), rs0, rs0, H', ⟨(by have := HJ1.out; have := HK2.out; omega)⟩, ⟨pkb XG⟩, ⟨z12_3⟩⟩
     rw [if_neg c17] at H
     have c17b0 : (XE == 0) = false := beq_eq_false_iff_ne.mpr c17
     have c17b1 : (XE != 0) = true := bne_iff_ne.mpr c17
     obtain ⟨ji20, hji20⟩ : ∃ j_ : Int, (wrap64 (XE - 1)) = j_ := ⟨_, rfl⟩
     replace H : (if 0 ≤ (ji20) then (if (ji20) < (l0_0.length : Int) then (if XM < 0 then (some false) else (if (rd l0_0 (ji20)) = 5 then (if (rd l0_0 XE) = 1 then (impl_PathOk.l0 k2 (wrap64 (X0 + XM)) l0_0 (l0_0.length : Int) (wrap64 (XE + 1)) l0_0 l0_1) else (some false)) else (impl_PathOk.l0 k2 (wrap64 (X0 + XM)) l0_0 (l0_0.length : Int) (wrap64 (XE + 1)) l0_0 l0_1))) else (none)) else (none)) = some r := by first | (rw [hji20] at H; exact H) | (simp only [hji20] at H ⊢; exact H)
     (try rw [hji20] at A16)
     have hji20w : (IntKind.i64.wrap (XE - 1)) = ji20 := (i64_w _).trans hji20
     by_cases c21 : 0 ≤ (ji20)
     rotate_left
     ·rw [if_neg c21] at H
      exact absurd H (by simp)
     rw [if_pos c21] at H; have c21b0 := decide_eq_true c21; clear c21
     by_cases c22 : (ji20) < (l0_0.length : Int)
     rotate_left
     ·rw [if_neg c22] at H
      exact absurd H (by simp)
     rw [if_pos c22] at H; have c22b0 := decide_eq_true c22; clear c22
     by_cases c23 : XM < 0
     ·rw [if_pos c23] at H; have c23b0 := decide_eq_true c23; clear c23
      obtain rfl := Option.some.inj H
      simp only [Option.some.injEq, Prod.mk.injEq] at H; obtain ⟨rfl⟩ := H
      have XI : 0 ≤ (XE : Int) := of_decide_eq_true (by first | (with_reducible assumption) | assumption)
      have XJ : XE < (l0_0.length : Int) := of_decide_eq_true (by first | (with_reducible assumption) | assumption)
      obtain ⟨XO, e509, XF⟩ := Kd.at_int Xe.out XE XI XJ
      cases e509
      replace XF := cell_go HB XF; replace XI := eq_true XI; replace XJ := eq_true XJ
      go_wp2_with (first | ((with_reducible refine gate_callee (f := 94) rfl ?_); refine gl_ (some 33) Try.func94 #[.int .i64 (rd l0_0 XE)] rfl q_1 ?_; (with_reducible refine (impl_NeedOf.calls k2 (rd l0_0 XE) XM _ A16.out).mono ?_); rintro e w' ⟨rfl, ⟨nd, rfl⟩⟩; refine ⟨_, rfl, ?_⟩; refine bc_2 XG.out ?_; intros; have XP : 0 ≤ ((ji20) : Int) := of_decide_eq_true (by first | (with_reducible assumption) | assumption); have XQ : (ji20) < (l0_0.length : Int) := of_decide_eq_true (by first | (with_reducible assumption) | assumption); obtain ⟨XS, e511, XH⟩ := Kd.at_int Xe.out (ji20) XP XQ; obtain rfl : XO = XS := (by injection e511); replace XH := cell_go HB XH; replace XP := eq_true XP; replace XQ := eq_true XQ))
      go_ret
      exact ⟨z12_7, z12_3⟩
     rw [if_neg c23] at H; have c23b0 := decide_eq_false c23; clear c23
     by_cases c25 : (rd l0_0 (ji20)) = 5
     rotate_left
     ·rw [if_neg c25] at H
      have c25b0 : ((rd l0_0 (ji20)) == 5) = false := beq_eq_false_iff_ne.mpr c25
      have c25b1 : ((rd l0_0 (ji20)) != 5) = true := bne_iff_ne.mpr c25
      have H' := mk0 H
      clear H
      have XI : 0 ≤ (XE : Int) := of_decide_eq_true (by first | (with_reducible assumption) | assumption)
      have XJ : XE < (l0_0.length : Int) := of_decide_eq_true (by first | (with_reducible assumption) | assumption)
      obtain ⟨XO, e509, XF⟩ := Kd.at_int Xe.out XE XI XJ
      cases e509
      replace XF := cell_go HB XF; replace XI := eq_true XI; replace XJ := eq_true XJ
      go_wp2_with (first | ((with_reducible refine gate_callee (f := 94) rfl ?_); refine gl_ (some 33) Try.func94 #[.int .i64 (rd l0_0 XE)] rfl q_1 ?_; (with_reducible refine (impl_NeedOf.calls k2 (rd l0_0 XE) XM _ A16.out).mono ?_); rintro e w' ⟨rfl, ⟨nd, rfl⟩⟩; refine ⟨_, rfl, ?_⟩; refine bc_2 XG.out ?_; intros; have XP : 0 ≤ ((ji20) : Int) := of_decide_eq_true (by first | (with_reducible assumption) | assumption); have XQ : (ji20) < (l0_0.length : Int) := of_decide_eq_true (by first | (with_reducible assumption) | assumption); obtain ⟨XS, e511, XH⟩ := Kd.at_int Xe.out (ji20) XP XQ; obtain rfl : XO = XS := (by injection e511); replace XH := cell_go HB XH; replace XP := eq_true XP; replace XQ := eq_true XQ))
      go_roundg k2
      case measure => have := HJ1.out; have := HK2.out; omega
      case rel => exact ⟨(wrap64 (X0 + XM)), (wrap64 (XE + 1)), rs0, rs0, H', ⟨(by have := HJ1.out; have := HK2.out; omega)⟩, ⟨pkb XG⟩, ⟨z12_3⟩⟩
     rw [if_pos c25] at H
     have c25b0 : ((rd l0_0 (ji20)) == 5) = true := beq_iff_eq.mpr c25
     have c25b1 : ((rd l0_0 (ji20)) != 5) = false := bne_eq_false_iff_eq.mpr c25
     clear c25
     by_cases c26 : (rd l0_0 XE) = 1
     rotate_left
     ·rw [if_neg c26] at H
      have c26b0 : ((rd l0_0 XE) == 1) = false := beq_eq_false_iff_ne.mpr c26
      have c26b1 : ((rd l0_0 XE) != 1) = true := bne_iff_ne.mpr c26
      obtain rfl := Option.some.inj H
      simp only [Option.some.injEq, Prod.mk.injEq] at H; obtain ⟨rfl⟩ := H
      have XI : 0 ≤ (XE : Int) := of_decide_eq_true (by first | (with_reducible assumption) | assumption)
      have XJ : XE < (l0_0.length : Int) := of_decide_eq_true (by first | (with_reducible assumption) | assumption)
      obtain ⟨XO, e509, XF⟩ := Kd.at_int Xe.out XE XI XJ
      cases e509
      replace XF := cell_go HB XF; replace XI := eq_true XI; replace XJ := eq_true XJ
      go_wp2_with (first | ((with_reducible refine gate_callee (f := 94) rfl ?_); refine gl_ (some 33) Try.func94 #[.int .i64 (rd l0_0 XE)] rfl q_1 ?_; (with_reducible refine (impl_NeedOf.calls k2 (rd l0_0 XE) XM _ A16.out).mono ?_); rintro e w' ⟨rfl, ⟨nd, rfl⟩⟩; refine ⟨_, rfl, ?_⟩; refine bc_2 XG.out ?_; intros; have XP : 0 ≤ ((ji20) : Int) := of_decide_eq_true (by first | (with_reducible assumption) | assumption); have XQ : (ji20) < (l0_0.length : Int) := of_decide_eq_true (by first | (with_reducible assumption) | assumption); obtain ⟨XS, e511, XH⟩ := Kd.at_int Xe.out (ji20) XP XQ; obtain rfl : XO = XS := (by injection e511); replace XH := cell_go HB XH; replace XP := eq_true XP; replace XQ := eq_true XQ))
      go_ret
      exact ⟨z12_7, z12_3⟩
     rw [if_pos c26] at H
     have c26b0 : ((rd l0_0 XE) == 1) = true := beq_iff_eq.mpr c26
     have c26b1 : ((rd l0_0 XE) != 1) = false := bne_eq_false_iff_eq.mpr c26
     clear c26
     have H' := mk0 H
     clear H
     have XI : 0 ≤ (XE : Int) := of_decide_eq_true (by first | (with_reducible assumption) | assumption)
     have XJ : XE < (l0_0.length : Int) := of_decide_eq_true (by first | (with_reducible assumption) | assumption)
     obtain ⟨XO, e509, XF⟩ := Kd.at_int Xe.out XE XI XJ
     cases e509
     replace XF := cell_go HB XF; replace XI := eq_true XI; replace XJ := eq_true XJ
     go_wp2_with (first | ((with_reducible refine gate_callee (f := 94) rfl ?_); refine gl_ (some 33) Try.func94 #[.int .i64 (rd l0_0 XE)] rfl q_1 ?_; (with_reducible refine (impl_NeedOf.calls k2 (rd l0_0 XE) XM _ A16.out).mono ?_); rintro e w' ⟨rfl, ⟨nd, rfl⟩⟩; refine ⟨_, rfl, ?_⟩; refine bc_2 XG.out ?_; intros; have XP : 0 ≤ ((ji20) : Int) := of_decide_eq_true (by first | (with_reducible assumption) | assumption); have XQ : (ji20) < (l0_0.length : Int) := of_decide_eq_true (by first | (with_reducible assumption) | assumption); obtain ⟨XS, e511, XH⟩ := Kd.at_int Xe.out (ji20) XP XQ; obtain rfl : XO = XS := (by injection e511); replace XH := cell_go HB XH; replace XP := eq_true XP; replace XQ := eq_true XQ))
     go_roundg k2
     case measure => have := HJ1.out; have := HK2.out; omega
     case rel => exact ⟨(wrap64 (X0 + XM)), (wrap64 (XE + 1)), rs0, rs0, H', ⟨(by have := HJ1.out; have := HK2.out; omega)⟩, ⟨pkb XG⟩, ⟨z12_3⟩⟩

/-! ### impl_isMode: function 77 -/
def impl_isMode.f (a0 : Int) : Option (Bool) := (impl_inRange.f a0 1 5).bind fun X3 => (some X3)
set_option maxHeartbeats 8000000 in
set_option maxRecDepth 100000 in
theorem impl_isMode.calls (a0 : Int) (r : Bool) (w : World) (h : impl_isMode.f a0 = some r) :
  Calls Try.prog 77 #[.int .i64 a0] w fun e w' => e = .returned (.bool r) ∧ Drawn0 w w' := by
 have H : ((impl_inRange.f a0 1 5).bind fun X3 => (some X3)) = some r := h
 clear h; obtain ⟨X3, A2, H⟩ := bnd H
 try dsimp only at H
 obtain rfl := Option.some.inj H
 simp only [Option.some.injEq, Prod.mk.injEq] at H; obtain ⟨rfl⟩ := H
 go_enter Try.func77, Try.ntmps77
 go_wp2_with (first | ((with_reducible refine gate_callee (f := 48) rfl ?_); refine gl_ (some 4) Try.func48 #[.int .i64 a0, .int .i64 1, .int .i64 5] rfl q_1 ?_; (with_reducible refine (impl_inRange.calls a0 1 5 X3 _ A2.out).mono ?_); rintro e w' ⟨rfl, ⟨nd, rfl⟩⟩; refine ⟨_, rfl, ?_⟩))
 go_ret
 exact ⟨rs0, (by repeat (first | exact Drawn0.refl _ | apply Drawn0.step))⟩

/-! ### impl_isByte: function 78 -/
def impl_isByte.f (a0 : Int) : Option (Bool) := (impl_inRange.f a0 0 255).bind fun X4 => (some X4)
set_option maxHeartbeats 8000000 in
set_option maxRecDepth 100000 in
theorem impl_isByte.calls (a0 : Int) (r : Bool) (w : World) (h : impl_isByte.f a0 = some r) :
  Calls Try.prog 78 #[.int .i64 a0] w fun e w' => e = .returned (.bool r) ∧ Drawn0 w w' := by
 have H : ((impl_inRange.f a0 0 255).bind fun X4 => (some X4)) = some r := h
 clear h; obtain ⟨X4, A2, H⟩ := bnd H
 try dsimp only at H
 obtain rfl := Option.some.inj H
 simp only [Option.some.injEq, Prod.mk.injEq] at H; obtain ⟨rfl⟩ := H
 go_enter Try.func78, Try.ntmps78
 go_wp2_with (first | ((with_reducible refine gate_callee (f := 48) rfl ?_); refine gl_ (some 4) Try.func48 #[.int .i64 a0, .int .i64 0, .int .i64 255] rfl q_1 ?_; (with_reducible refine (impl_inRange.calls a0 0 255 X4 _ A2.out).mono ?_); rintro e w' ⟨rfl, ⟨nd, rfl⟩⟩; refine ⟨_, rfl, ?_⟩))
 go_ret
 exact ⟨rs0, (by repeat (first | exact Drawn0.refl _ | apply Drawn0.step))⟩

/-! ### impl_Path_isNone: function 79 -/
def impl_Path_isNone.f (l0_0 : List Int) (l0_1 : List (S29)) : Option (Bool) := if (l0_0.length : Int) = 0 then (some ((l0_1.length : Int) == 0)) else (some false)
set_option maxHeartbeats 8000000 in
set_option maxRecDepth 100000 in
theorem impl_Path_isNone.calls (XW : Option Addr) (XX : Nat) (l0_0 : List Int) (XY : Option Addr) (XZ : Nat) (l0_1 : List (S29)) (r : Bool) (w : World) (hr0_0 : Kd.C (Kd.int .i64) w XW l0_0.length l0_0) (hc0_0 : l0_0.length ≤ XX) (hr0_1 : Kd.C k29 w XY l0_1.length l0_1) (hc0_1 : l0_1.length ≤ XZ) (h : impl_Path_isNone.f l0_0 l0_1 = some r) :
  Calls Try.prog 79 #[.agg #[.slice XW l0_0.length XX, .slice XY l0_1.length XZ]] w fun e w' => e = .returned (.bool r) ∧ Below w.heap.size w w' := by
 have hu63 := Try.underlying63; have Xe := mk0 hr0_0; have Yn := mk0 hc0_0; clear hr0_0 hc0_0; have Ya := mk0 hr0_1; have Yb := mk0 hc0_1; clear hr0_1 hc0_1; have HB := mk0 (Below.refl w.heap.size w)
 have H := h; unfold impl_Path_isNone.f at H
 clear h
 by_cases c2 : (l0_0.length : Int) = 0
 ·rw [if_pos c2] at H
  have c2b0 : ((l0_0.length : Int) == 0) = true := beq_iff_eq.mpr c2
  have c2b1 : ((l0_0.length : Int) != 0) = false := bne_eq_false_iff_eq.mpr c2
  clear c2
  obtain rfl := Option.some.inj H
  simp only [Option.some.injEq, Prod.mk.injEq] at H; obtain ⟨rfl⟩ := H
  go_enter Try.func79, Try.ntmps79
  go_wp2_with (first | ((with_reducible refine gate_dst (N := 1) rfl ?_); (try (refine gate_guard (by rfl) ?_; dsimp only)); refine boxz (cs := #[.slice XW l0_0.length XX, .slice XY l0_1.length XZ]) (t := 63) rfl ?_; intro Yp hg w3 hbox hb; have X5 := mk0 (ge_go (a := w.heap.size) hg (below_size q_162)); have X9 := X5; replace HB := bS q_162 hb; have X6 := mk0 (hbox); clear hb hbox hg; refine bc_2 X6.out ?_; intros))
  go_ret
  exact ⟨q_94, z12_8⟩
 rw [if_neg c2] at H
 have c2b0 : ((l0_0.length : Int) == 0) = false := beq_eq_false_iff_ne.mpr c2
 have c2b1 : ((l0_0.length : Int) != 0) = true := bne_iff_ne.mpr c2
 have c2b2 : ¬ (l0_0 = []) := fun h_ => c2 (by rw [h_]; rfl)
 obtain rfl := Option.some.inj H
 simp only [Option.some.injEq, Prod.mk.injEq] at H; obtain ⟨rfl⟩ := H
 go_enter Try.func79, Try.ntmps79
 go_wp2_with (first | ((with_reducible refine gate_dst (N := 1) rfl ?_); (try (refine gate_guard (by rfl) ?_; dsimp only)); refine boxz (cs := #[.slice XW l0_0.length XX, .slice XY l0_1.length XZ]) (t := 63) rfl ?_; intro Yp hg w5 hbox hb; have X5 := mk0 (ge_go (a := w.heap.size) hg (below_size q_162)); have X9 := X5; replace HB := bS q_162 hb; have X6 := mk0 (hbox); clear hb hbox hg; refine bc_2 X6.out ?_; intros))
 go_ret
 exact ⟨q_94, z12_8⟩

/-! ### impl_ColorOk: function 95 -/
def impl_ColorOk.f (a0_0 : Int) (a0_1 : Int) (a0_2 : Int) (a0_3 : Int) : Option (Bool) := (impl_isByte.f a0_0).bind fun Yd => (if Yd = true then ((impl_isByte.f a0_1).bind fun Ye => (if Ye = true then ((impl_isByte.f a0_2).bind fun Yf => (if Yf = true then ((impl_isByte.f a0_3).bind fun Yg => (some Yg)) else (some false))) else (some false))) else (some false))
set_option maxHeartbeats 8000000 in
set_option maxRecDepth 100000 in
theorem impl_ColorOk.calls (a0_0 : Int) (a0_1 : Int) (a0_2 : Int) (a0_3 : Int) (r : Bool) (w : World) (h : impl_ColorOk.f a0_0 a0_1 a0_2 a0_3 = some r) :
  Calls Try.prog 95 #[.agg #[.int .i64 a0_0, .int .i64 a0_1, .int .i64 a0_2, .int .i64 a0_3]] w fun e w' => e = .returned (.bool r) ∧ Below w.heap.size w w' := by
 have hu65 := Try.underlying65; have HB := mk0 (Below.refl w.heap.size w)
 have H := h; unfold impl_ColorOk.f at H
 clear h; obtain ⟨Yd, A2, H⟩ := bnd H
 try dsimp only at H
 by_cases c3 : Yd = true
 rotate_left
 ·replace c3 := Bool.eq_false_iff.mpr c3; subst c3; rw [if_neg (show ¬ (false = true) by decide)] at H
  obtain rfl := Option.some.inj H
  simp only [Option.some.injEq, Prod.mk.injEq] at H; obtain ⟨rfl⟩ := H
  go_enter Try.func95, Try.ntmps95
  go_wp2_with (first | ((with_reducible refine gate_dst (N := 1) rfl ?_); refine boxz (cs := #[.int .i64 a0_0, .int .i64 a0_1, .int .i64 a0_2, .int .i64 a0_3]) (t := 65) rfl ?_; intro X7 hg w15 hbox hb; have XT := mk0 (ge_go (a := w.heap.size) hg (below_size q_162)); have X1 := XT; replace HB := bS q_162 hb; have XU := mk0 (hbox); clear hb hbox hg; refine bc_4 XU.out ?_; intros) | ((with_reducible refine gate_callee (f := 78) rfl ?_); refine gl_ (some 5) Try.func78 #[.int .i64 a0_0] rfl q_1 ?_; (with_reducible refine (impl_isByte.calls a0_0 false _ A2.out).mono ?_); rintro e w' ⟨rfl, ⟨nd, rfl⟩⟩; refine ⟨_, rfl, ?_⟩))
  go_ret
  exact ⟨q_94, z12_6⟩
 subst c3; rw [if_pos rfl] at H; obtain ⟨Ye, A4, H⟩ := bnd H
 try dsimp only at H
 by_cases c5 : Ye = true
 rotate_left
 ·replace c5 := Bool.eq_false_iff.mpr c5; subst c5; rw [if_neg (show ¬ (false = true) by decide)] at H
  obtain rfl := Option.some.inj H
  simp only [Option.some.injEq, Prod.mk.injEq] at H; obtain ⟨rfl⟩ := H
  go_enter Try.func95, Try.ntmps95
  go_wp2_with (first | ((with_reducible refine gate_dst (N := 1) rfl ?_); refine boxz (cs := #[.int .i64 a0_0, .int .i64 a0_1, .int .i64 a0_2, .int .i64 a0_3]) (t := 65) rfl ?_; intro X7 hg w13 hbox hb; have XT := mk0 (ge_go (a := w.heap.size) hg (below_size q_162)); have X1 := XT; replace HB := bS q_162 hb; have XU := mk0 (hbox); clear hb hbox hg; refine bc_4 XU.out ?_; intros) | ((with_reducible refine gate_callee (f := 78) rfl ?_); refine gl_ (some 5) Try.func78 #[.int .i64 a0_0] rfl q_1 ?_; (with_reducible refine (impl_isByte.calls a0_0 true _ A2.out).mono ?_); rintro e w' ⟨rfl, ⟨nd, rfl⟩⟩; refine ⟨_, rfl, ?_⟩) | (go_at_call 78; (with_reducible refine (impl_isByte.calls a0_1 false _ A4.out).mono ?_); rintro e w' ⟨rfl, ⟨nd, rfl⟩⟩))
  go_ret
  exact ⟨q_94, z12_6⟩
 subst c5; rw [if_pos rfl] at H; obtain ⟨Yf, A6, H⟩ := bnd H
 try dsimp only at H
 by_cases c7 : Yf = true
 rotate_left
 ·replace c7 := Bool.eq_false_iff.mpr c7; subst c7; rw [if_neg (show ¬ (false = true) by decide)] at H
  obtain rfl := Option.some.inj H
  simp only [Option.some.injEq, Prod.mk.injEq] at H; obtain ⟨rfl⟩ := H
  go_enter Try.func95, Try.ntmps95
  go_wp2_with (first | ((with_reducible refine gate_dst (N := 1) rfl ?_); refine boxz (cs := #[.int .i64 a0_0, .int .i64 a0_1, .int .i64 a0_2, .int .i64 a0_3]) (t := 65) rfl ?_; intro X7 hg w11 hbox hb; have XT := mk0 (ge_go (a := w.heap.size) hg (below_size q_162)); have X1 := XT; replace HB := bS q_162 hb; have XU := mk0 (hbox); clear hb hbox hg; refine bc_4 XU.out ?_; intros) | ((with_reducible refine gate_callee (f := 78) rfl ?_); refine gl_ (some 5) Try.func78 #[.int .i64 a0_0] rfl q_1 ?_; (with_reducible refine (impl_isByte.calls a0_0 true _ A2.out).mono ?_); rintro e w' ⟨rfl, ⟨nd, rfl⟩⟩; refine ⟨_, rfl, ?_⟩) | (go_at_call 78; (with_reducible refine (impl_isByte.calls a0_1 true _ A4.out).mono ?_); rintro e w' ⟨rfl, ⟨nd, rfl⟩⟩) | (go_at_call 78; (with_reducible refine (impl_isByte.calls a0_2 false _ A6.out).mono ?_); rintro e w' ⟨rfl, ⟨nd, rfl⟩⟩))
  go_ret
  exact ⟨q_94, z12_6⟩
 subst c7; rw [if_pos rfl] at H; obtain ⟨Yg, A8, H⟩ := bnd H
 try dsimp only at H
 obtain rfl := Option.some.inj H
 simp only [Option.some.injEq, Prod.mk.injEq] at H; obtain ⟨rfl⟩ := H
 go_enter Try.func95, Try.ntmps95
 go_wp2_with (first | ((with_reducible refine gate_dst (N := 1) rfl ?_); refine boxz (cs := #[.int .i64 a0_0, .int .i64 a0_1, .int .i64 a0_2, .int .i64 a0_3]) (t := 65) rfl ?_; intro X7 hg w9 hbox hb; have XT := mk0 (ge_go (a := w.heap.size) hg (below_size q_162)); have X1 := XT; replace HB := bS q_162 hb; have XU := mk0 (hbox); clear hb hbox hg; refine bc_4 XU.out ?_; intros) | ((with_reducible refine gate_callee (f := 78) rfl ?_); refine gl_ (some 5) Try.func78 #[.int .i64 a0_0] rfl q_1 ?_; (with_reducible refine (impl_isByte.calls a0_0 true _ A2.out).mono ?_); rintro e w' ⟨rfl, ⟨nd, rfl⟩⟩; refine ⟨_, rfl, ?_⟩) | (go_at_call 78; (with_reducible refine (impl_isByte.calls a0_1 true _ A4.out).mono ?_); rintro e w' ⟨rfl, ⟨nd, rfl⟩⟩) | (go_at_call 78; (with_reducible refine (impl_isByte.calls a0_2 true _ A6.out).mono ?_); rintro e w' ⟨rfl, ⟨nd, rfl⟩⟩) | (go_at_call 78; (with_reducible refine (impl_isByte.calls a0_3 Yg _ A8.out).mono ?_); rintro e w' ⟨rfl, ⟨nd, rfl⟩⟩))
 go_ret
 exact ⟨q_94, z12_6⟩

/-! ### impl_PaintOk: function 80 -/
def impl_PaintOk.f (a0_0 : Int) (a0_1 : Int) (a0_2 : Int) (a0_3 : Int) (a0_4 : Int) (a0_5 : Int) (a0_6 : Int) (a0_7 : Int) (a0_8 : Int) (a0_9 : Int) (a0_10 : Int) (a0_11 : Int) (a0_12 : Int) : Option (Bool) := if a0_0 = 1 then ((impl_ColorOk.f a0_1 a0_2 a0_3 a0_4).bind fun Yh => (if Yh = true then (some (a0_0 == 1 && ((a0_5 == 0 && (a0_6 == 0 && (a0_7 == 0 && (a0_8 == 0)))) && ((a0_9 == 0 && (a0_10 == 0)) && ((a0_11 == 0 && (a0_12 == 0))))))) else (some false))) else (if a0_0 = 2 then ((impl_ColorOk.f a0_1 a0_2 a0_3 a0_4).bind fun Yi => (if Yi = true then ((impl_ColorOk.f a0_5 a0_6 a0_7 a0_8).bind fun Yj => (if Yj = true then ((impl_PointOk.f a0_9 a0_10).bind fun Yk => (if Yk = true then ((impl_PointOk.f a0_11 a0_12).bind fun Yl => (if Yl = true then (some (!(a0_9 == a0_11) || (!(a0_10 == a0_12)))) else (some false))) else (some false))) else (some false))) else (some false))) else (some false))
set_option maxHeartbeats 8000000 in
set_option maxRecDepth 100000 in
theorem impl_PaintOk.calls (a0_0 : Int) (a0_1 : Int) (a0_2 : Int) (a0_3 : Int) (a0_4 : Int) (a0_5 : Int) (a0_6 : Int) (a0_7 : Int) (a0_8 : Int) (a0_9 : Int) (a0_10 : Int) (a0_11 : Int) (a0_12 : Int) (r : Bool) (w : World) (h : impl_PaintOk.f a0_0 a0_1 a0_2 a0_3 a0_4 a0_5 a0_6 a0_7 a0_8 a0_9 a0_10 a0_11 a0_12 = some r) :
  Calls Try.prog 80 #[.agg #[.int .i64 a0_0, .int .i64 a0_1, .int .i64 a0_2, .int .i64 a0_3, .int .i64 a0_4, .int .i64 a0_5, .int .i64 a0_6, .int .i64 a0_7, .int .i64 a0_8, .int .i64 a0_9, .int .i64 a0_10, .int .i64 a0_11, .int .i64 a0_12]] w fun e w' => e = .returned (.bool r) ∧ Below w.heap.size w w' := by
 have hu67 := Try.underlying67; have hu65 := Try.underlying65; have hu29 := Try.underlying29; have HB := mk0 (Below.refl w.heap.size w)
 have H := h; unfold impl_PaintOk.f at H
 clear h
 by_cases c2 : a0_0 = 1
 ·rw [if_pos c2] at H
  have c2b0 : (a0_0 == 1) = true := beq_iff_eq.mpr c2
  have c2b1 : (a0_0 != 1) = false := bne_eq_false_iff_eq.mpr c2
  clear c2; obtain ⟨Yh, A3, H⟩ := bnd H
  try dsimp only at H
  by_cases c4 : Yh = true
  rotate_left
  ·replace c4 := Bool.eq_false_iff.mpr c4; subst c4; rw [if_neg (show ¬ (false = true) by decide)] at H
   obtain rfl := Option.some.inj H
   simp only [Option.some.injEq, Prod.mk.injEq] at H; obtain ⟨rfl⟩ := H
   go_enter Try.func80, Try.ntmps80
   go_wp2_with (first | ((with_reducible refine gate_dst (N := 1) rfl ?_); refine boxz (cs := #[.int .i64 a0_0, .int .i64 a0_1, .int .i64 a0_2, .int .i64 a0_3, .int .i64 a0_4, .int .i64 a0_5, .int .i64 a0_6, .int .i64 a0_7, .int .i64 a0_8, .int .i64 a0_9, .int .i64 a0_10, .int .i64 a0_11, .int .i64 a0_12]) (t := 67) rfl ?_; intro XV hg w9 hbox hb; have XL := mk0 (ge_go (a := w.heap.size) hg (below_size q_162)); have XR := XL; replace HB := bS q_162 hb; have XD := mk0 (hbox); clear hb hbox hg; refine bc_13 XD.out ?_; intros) | ((with_reducible refine gate_callee (f := 95) rfl ?_); refine gl_ (some 9) Try.func95 #[.agg #[.int .i64 a0_1, .int .i64 a0_2, .int .i64 a0_3, .int .i64 a0_4]] rfl q_1 ?_; (with_reducible refine (impl_ColorOk.calls a0_1 a0_2 a0_3 a0_4 false _ A3.out).mono ?_); rintro e w11 ⟨rfl, hb⟩; refine ⟨_, rfl, ?_⟩; replace XD := bB XD hb; replace HB := bS z12_1 hb; clear hb) | ((with_reducible refine gate_load (t := 67) rfl ?_); refine load_blk (t := 67) rfl rfl XD rfl z12_5 Try.underlying67 rfl (show (Try.prog.info? 67).map (·.size) = some 13 by kernel_rfl) rfl ?_))
   go_ret
   exact ⟨q_94, z12_1⟩
  subst c4; rw [if_pos rfl] at H
  obtain rfl := Option.some.inj H
  simp only [Option.some.injEq, Prod.mk.injEq] at H; obtain ⟨rfl⟩ := H
  go_enter Try.func80, Try.ntmps80
  go_wp2_with (first | ((with_reducible refine gate_dst (N := 1) rfl ?_); refine boxz (cs := #[.int .i64 a0_0, .int .i64 a0_1, .int .i64 a0_2, .int .i64 a0_3, .int .i64 a0_4, .int .i64 a0_5, .int .i64 a0_6, .int .i64 a0_7, .int .i64 a0_8, .int .i64 a0_9, .int .i64 a0_10, .int .i64 a0_11, .int .i64 a0_12]) (t := 67) rfl ?_; intro XV hg w5 hbox hb; have XL := mk0 (ge_go (a := w.heap.size) hg (below_size q_162)); have XR := XL; replace HB := bS q_162 hb; have XD := mk0 (hbox); clear hb hbox hg; refine bc_13 XD.out ?_; intros) | ((with_reducible refine gate_callee (f := 95) rfl ?_); refine gl_ (some 9) Try.func95 #[.agg #[.int .i64 a0_1, .int .i64 a0_2, .int .i64 a0_3, .int .i64 a0_4]] rfl q_1 ?_; (with_reducible refine (impl_ColorOk.calls a0_1 a0_2 a0_3 a0_4 true _ A3.out).mono ?_); rintro e w7 ⟨rfl, hb⟩; refine ⟨_, rfl, ?_⟩; replace XD := bB XD hb; replace HB := bS z12_1 hb; clear hb; refine bc_13 XD.out ?_; intros) | ((with_reducible refine gate_load (t := 67) rfl ?_); refine load_blk (t := 67) rfl rfl XD rfl z12_5 Try.underlying67 rfl (show (Try.prog.info? 67).map (·.size) = some 13 by kernel_rfl) rfl ?_))
  go_ret
  exact ⟨q_94, z12_1⟩
 rw [if_neg c2] at H
 have c2b0 : (a0_0 == 1) = false := beq_eq_false_iff_ne.mpr c2
 have c2b1 : (a0_0 != 1) = true := bne_iff_ne.mpr c2
 by_cases c12 : a0_0 = 2
 rotate_left
 ·rw [if_neg c12] at H
  have c12b0 : (a0_0 == 2) = false := beq_eq_false_iff_ne.mpr c12
  have c12b1 : (a0_0 != 2) = true := bne_iff_ne.mpr c12
  obtain rfl := Option.some.inj H
  simp only [Option.some.injEq, Prod.mk.injEq] at H; obtain ⟨rfl⟩ := H
  go_enter Try.func80, Try.ntmps80
  go_wp2_with (first | ((with_reducible refine gate_dst (N := 1) rfl ?_); refine boxz (cs := #[.int .i64 a0_0, .int .i64 a0_1, .int .i64 a0_2, .int .i64 a0_3, .int .i64 a0_4, .int .i64 a0_5, .int .i64 a0_6, .int .i64 a0_7, .int .i64 a0_8, .int .i64 a0_9, .int .i64 a0_10, .int .i64 a0_11, .int .i64 a0_12]) (t := 67) rfl ?_; intro XV hg w55 hbox hb; have XL := mk0 (ge_go (a := w.heap.size) hg (below_size q_162)); have XR := XL; replace HB := bS q_162 hb; have XD := mk0 (hbox); clear hb hbox hg; refine bc_13 XD.out ?_; intros) | ((with_reducible refine gate_load (t := 67) rfl ?_); refine load_blk (t := 67) rfl rfl XD rfl z12_5 Try.underlying67 rfl (show (Try.prog.info? 67).map (·.size) = some 13 by kernel_rfl) rfl ?_))
  go_ret
  exact ⟨q_94, z12_1⟩
 rw [if_pos c12] at H
 have c12b0 : (a0_0 == 2) = true := beq_iff_eq.mpr c12
 have c12b1 : (a0_0 != 2) = false := bne_eq_false_iff_eq.mpr c12
 clear c12; obtain ⟨Yi, A13, H⟩ := bnd H
 try dsimp only at H
 by_cases c14 : Yi = true
 rotate_left
 ·replace c14 := Bool.eq_false_iff.mpr c14; subst c14; rw [if_neg (show ¬ (false = true) by decide)] at H
  obtain rfl := Option.some.inj H
  simp only [Option.some.injEq, Prod.mk.injEq] at H; obtain ⟨rfl⟩ := H
  go_enter Try.func80, Try.ntmps80
  go_wp2_with (first | ((with_reducible refine gate_dst (N := 1) rfl ?_); refine boxz (cs := #[.int .i64 a0_0, .int .i64 a0_1, .int .i64 a0_2, .int .i64 a0_3, .int .i64 a0_4, .int .i64 a0_5, .int .i64 a0_6, .int .i64 a0_7, .int .i64 a0_8, .int .i64 a0_9, .int .i64 a0_10, .int .i64 a0_11, .int .i64 a0_12]) (t := 67) rfl ?_; intro XV hg w52 hbox hb; have XL := mk0 (ge_go (a := w.heap.size) hg (below_size q_162)); have XR := XL; replace HB := bS q_162 hb; have XD := mk0 (hbox); clear hb hbox hg; refine bc_13 XD.out ?_; intros) | ((with_reducible refine gate_callee (f := 95) rfl ?_); refine gl_ (some 21) Try.func95 #[.agg #[.int .i64 a0_1, .int .i64 a0_2, .int .i64 a0_3, .int .i64 a0_4]] rfl q_1 ?_; (with_reducible refine (impl_ColorOk.calls a0_1 a0_2 a0_3 a0_4 false _ A13.out).mono ?_); rintro e w54 ⟨rfl, hb⟩; refine ⟨_, rfl, ?_⟩; replace XD := bB XD hb; replace HB := bS z12_1 hb; clear hb) | ((with_reducible refine gate_load (t := 67) rfl ?_); refine load_blk (t := 67) rfl rfl XD rfl z12_5 Try.underlying67 rfl (show (Try.prog.info? 67).map (·.size) = some 13 by kernel_rfl) rfl ?_))
  go_ret
  exact ⟨q_94, z12_1⟩
 subst c14; rw [if_pos rfl] at H; obtain ⟨Yj, A15, H⟩ := bnd H
 try dsimp only at H
 by_cases c16 : Yj = true
 rotate_left
 ·replace c16 := Bool.eq_false_iff.mpr c16; subst c16; rw [if_neg (show ¬ (false = true) by decide)] at H
  obtain rfl := Option.some.inj H
  simp only [Option.some.injEq, Prod.mk.injEq] at H; obtain ⟨rfl⟩ := H
  go_enter Try.func80, Try.ntmps80
  go_wp2_with (first | ((with_reducible refine gate_dst (N := 1) rfl ?_); refine boxz (cs := #[.int .i64 a0_0, .int .i64 a0_1, .int .i64 a0_2, .int .i64 a0_3, .int .i64 a0_4, .int .i64 a0_5, .int .i64 a0_6, .int .i64 a0_7, .int .i64 a0_8, .int .i64 a0_9, .int .i64 a0_10, .int .i64 a0_11, .int .i64 a0_12]) (t := 67) rfl ?_; intro XV hg w47 hbox hb; have XL := mk0 (ge_go (a := w.heap.size) hg (below_size q_162)); have XR := XL; replace HB := bS q_162 hb; have XD := mk0 (hbox); clear hb hbox hg; refine bc_13 XD.out ?_; intros) | ((with_reducible refine gate_callee (f := 95) rfl ?_); refine gl_ (some 21) Try.func95 #[.agg #[.int .i64 a0_1, .int .i64 a0_2, .int .i64 a0_3, .int .i64 a0_4]] rfl q_1 ?_; (with_reducible refine (impl_ColorOk.calls a0_1 a0_2 a0_3 a0_4 true _ A13.out).mono ?_); rintro e w49 ⟨rfl, hb⟩; refine ⟨_, rfl, ?_⟩; replace XD := bB XD hb; replace HB := bS z12_1 hb; clear hb; refine bc_13 XD.out ?_; intros) | (go_at_call 95; (with_reducible refine (impl_ColorOk.calls a0_5 a0_6 a0_7 a0_8 false _ A15.out).mono ?_); rintro e w51 ⟨rfl, hb⟩; replace XD := bB XD hb; replace HB := bS z12_1 hb; clear hb) | ((with_reducible refine gate_load (t := 67) rfl ?_); refine load_blk (t := 67) rfl rfl XD rfl z12_5 Try.underlying67 rfl (show (Try.prog.info? 67).map (·.size) = some 13 by kernel_rfl) rfl ?_))
  go_ret
  exact ⟨q_94, z12_1⟩
 subst c16; rw [if_pos rfl] at H; obtain ⟨Yk, A17, H⟩ := bnd H
 try dsimp only at H
 by_cases c18 : Yk = true
 rotate_left
 ·replace c18 := Bool.eq_false_iff.mpr c18; subst c18; rw [if_neg (show ¬ (false = true) by decide)] at H
  obtain rfl := Option.some.inj H
  simp only [Option.some.injEq, Prod.mk.injEq] at H; obtain ⟨rfl⟩ := H
  go_enter Try.func80, Try.ntmps80
  go_wp2_with (first | ((with_reducible refine gate_dst (N := 1) rfl ?_); refine boxz (cs := #[.int .i64 a0_0, .int .i64 a0_1, .int .i64 a0_2, .int .i64 a0_3, .int .i64 a0_4, .int .i64 a0_5, .int .i64 a0_6, .int .i64 a0_7, .int .i64 a0_8, .int .i64 a0_9, .int .i64 a0_10, .int .i64 a0_11, .int .i64 a0_12]) (t := 67) rfl ?_; intro XV hg w40 hbox hb; have XL := mk0 (ge_go (a := w.heap.size) hg (below_size q_162)); have XR := XL; replace HB := bS q_162 hb; have XD := mk0 (hbox); clear hb hbox hg; refine bc_13 XD.out ?_; intros) | ((with_reducible refine gate_callee (f := 95) rfl ?_); refine gl_ (some 21) Try.func95 #[.agg #[.int .i64 a0_1, .int .i64 a0_2, .int .i64 a0_3, .int .i64 a0_4]] rfl q_1 ?_; (with_reducible refine (impl_ColorOk.calls a0_1 a0_2 a0_3 a0_4 true _ A13.out).mono ?_); rintro e w42 ⟨rfl, hb⟩; refine ⟨_, rfl, ?_⟩; replace XD := bB XD hb; replace HB := bS z12_1 hb; clear hb; refine bc_13 XD.out ?_; intros) | (go_at_call 95; (with_reducible refine (impl_ColorOk.calls a0_5 a0_6 a0_7 a0_8 true _ A15.out).mono ?_); rintro e w44 ⟨rfl, hb⟩; replace XD := bB XD hb; replace HB := bS z12_1 hb; clear hb; refine bc_13 XD.out ?_; intros) | (go_at_call 60; (with_reducible refine (impl_PointOk.calls a0_9 a0_10 false _ A17.out).mono ?_); rintro e w46 ⟨rfl, hb⟩; replace XD := bB XD hb; replace HB := bS z12_1 hb; clear hb) | ((with_reducible refine gate_load (t := 67) rfl ?_); refine load_blk (t := 67) rfl rfl XD rfl z12_5 Try.underlying67 rfl (show (Try.prog.info? 67).map (·.size) = some 13 by kernel_rfl) rfl ?_))
  go_ret
  exact ⟨q_94, z12_1⟩
 subst c18; rw [if_pos rfl] at H; obtain ⟨Yl, A19, H⟩ := bnd H
 try dsimp only at H
 by_cases c20 : Yl = true
 rotate_left
 ·replace c20 := Bool.eq_false_iff.mpr c20; subst c20; rw [if_neg (show ¬ (false = true) by decide)] at H
  obtain rfl := Option.some.inj H
  simp only [Option.some.injEq, Prod.mk.injEq] at H; obtain ⟨rfl⟩ := H
  go_enter Try.func80, Try.ntmps80
  go_wp2_with (first | ((with_reducible refine gate_dst (N := 1) rfl ?_); refine boxz (cs := #[.int .i64 a0_0, .int .i64 a0_1, .int .i64 a0_2, .int .i64 a0_3, .int .i64 a0_4, .int .i64 a0_5, .int .i64 a0_6, .int .i64 a0_7, .int .i64 a0_8, .int .i64 a0_9, .int .i64 a0_10, .int .i64 a0_11, .int .i64 a0_12]) (t := 67) rfl ?_; intro XV hg w31 hbox hb; have XL := mk0 (ge_go (a := w.heap.size) hg (below_size q_162)); have XR := XL; replace HB := bS q_162 hb; have XD := mk0 (hbox); clear hb hbox hg; refine bc_13 XD.out ?_; intros) | ((with_reducible refine gate_callee (f := 95) rfl ?_); refine gl_ (some 21) Try.func95 #[.agg #[.int .i64 a0_1, .int .i64 a0_2, .int .i64 a0_3, .int .i64 a0_4]] rfl q_1 ?_; (with_reducible refine (impl_ColorOk.calls a0_1 a0_2 a0_3 a0_4 true _ A13.out).mono ?_); rintro e w33 ⟨rfl, hb⟩; refine ⟨_, rfl, ?_⟩; replace XD := bB XD hb; replace HB := bS z12_1 hb; clear hb; refine bc_13 XD.out ?_; intros) | (go_at_call 95; (with_reducible refine (impl_ColorOk.calls a0_5 a0_6 a0_7 a0_8 true _ A15.out).mono ?_); rintro e w35 ⟨rfl, hb⟩; replace XD := bB XD hb; replace HB := bS z12_1 hb; clear hb; refine bc_13 XD.out ?_; intros) | (go_at_call 60; (with_reducible refine (impl_PointOk.calls a0_9 a0_10 true _ A17.out).mono ?_); rintro e w37 ⟨rfl, hb⟩; replace XD := bB XD hb; replace HB := bS z12_1 hb; clear hb; refine bc_13 XD.out ?_; intros) | (go_at_call 60; (with_reducible refine (impl_PointOk.calls a0_11 a0_12 false _ A19.out).mono ?_); rintro e w39 ⟨rfl, hb⟩; replace XD := bB XD hb; replace HB := bS z12_1 hb; clear hb) | ((with_reducible refine gate_load (t := 67) rfl ?_); refine load_blk (t := 67) rfl rfl XD rfl z12_5 Try.underlying67 rfl (show (Try.prog.info? 67).map (·.size) = some 13 by kernel_rfl) rfl ?_))
  go_ret
  exact ⟨q_94, z12_1⟩
 subst c20; rw [if_pos rfl] at H
 obtain rfl := Option.some.inj H
 simp only [Option.some.injEq, Prod.mk.injEq] at H; obtain ⟨rfl⟩ := H
 go_enter Try.func80, Try.ntmps80
 go_wp2_with (first | ((with_reducible refine gate_dst (N := 1) rfl ?_); refine boxz (cs := #[.int .i64 a0_0, .int .i64 a0_1, .int .i64 a0_2, .int .i64 a0_3, .int .i64 a0_4, .int .i64 a0_5, .int .i64 a0_6, .int .i64 a0_7, .int .i64 a0_8, .int .i64 a0_9, .int .i64 a0_10, .int .i64 a0_11, .int .i64 a0_12]) (t := 67) rfl ?_; intro XV hg w21 hbox hb; have XL := mk0 (ge_go (a := w.heap.size) hg (below_size q_162)); have XR := XL; replace HB := bS q_162 hb; have XD := mk0 (hbox); clear hb hbox hg; refine bc_13 XD.out ?_; intros) | ((with_reducible refine gate_callee (f := 95) rfl ?_); refine gl_ (some 21) Try.func95 #[.agg #[.int .i64 a0_1, .int .i64 a0_2, .int .i64 a0_3, .int .i64 a0_4]] rfl q_1 ?_; (with_reducible refine (impl_ColorOk.calls a0_1 a0_2 a0_3 a0_4 true _ A13.out).mono ?_); rintro e w23 ⟨rfl, hb⟩; refine ⟨_, rfl, ?_⟩; replace XD := bB XD hb; replace HB := bS z12_1 hb; clear hb; refine bc_13 XD.out ?_; intros) | (go_at_call 95; (with_reducible refine (impl_ColorOk.calls a0_5 a0_6 a0_7 a0_8 true _ A15.out).mono ?_); rintro e w25 ⟨rfl, hb⟩; replace XD := bB XD hb; replace HB := bS z12_1 hb; clear hb; refine bc_13 XD.out ?_; intros) | (go_at_call 60; (with_reducible refine (impl_PointOk.calls a0_9 a0_10 true _ A17.out).mono ?_); rintro e w27 ⟨rfl, hb⟩; replace XD := bB XD hb; replace HB := bS z12_1 hb; clear hb; refine bc_13 XD.out ?_; intros) | (go_at_call 60; (with_reducible refine (impl_PointOk.calls a0_11 a0_12 true _ A19.out).mono ?_); rintro e w29 ⟨rfl, hb⟩; replace XD := bB XD hb; replace HB := bS z12_1 hb; clear hb; refine bc_13 XD.out ?_; intros) | ((with_reducible refine gate_load (t := 67) rfl ?_); refine load_blk (t := 67) rfl rfl XD rfl z12_5 Try.underlying67 rfl (show (Try.prog.info? 67).map (·.size) = some 13 by kernel_rfl) rfl ?_))
 go_ret
 exact ⟨q_94, z12_1⟩

end Go.Proofs.Ytjfienkbcacijaa.MFnTrees
