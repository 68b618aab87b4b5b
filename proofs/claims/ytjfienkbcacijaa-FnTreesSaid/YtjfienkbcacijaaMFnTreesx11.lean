/- Functions of the program as Lean functions, and the proof that a call comes to just these: machine text of this session's own program (myprint.py). -/
import Derived.Test.YtjfienkbcacijaaMFnTreesx0
import Derived.Test.YtjfienkbcacijaaMFnTreesx5
import Derived.Test.YtjfienkbcacijaaMFnTreesx10
namespace Go.Proofs.Ytjfienkbcacijaa.MFnTrees
open Go.RowKit Go.Proofs.YtjfienkbcacijaaW.PrintWords Go.Proofs.YtjfienkbcacijaaW.PrintLast Go.Proofs.YtjfienkbcacijaaW.PrintMore
attribute [local go_sem] max2_int min2_int max_two min_two max_three min_three max_four min_four   -- for this text's walks alone
set_option linter.unusedVariables false
set_option linter.unusedSimpArgs false

theorem z11_2 {P : Prop} (h : P := by first | exact of_decide_eq_true (by with_reducible assumption) | exact of_decide_eq_true (by assumption) | omega | (simp; done)) : P := h
theorem z11_5 {P : Prop} (h : P := by repeat (first | (with_reducible first | exact HB.out | apply below_alloc | apply pw_below_drewN | apply below_drew1 | refine below_set ?_ Yh.out) | exact HB.out)) : P := h
theorem z11_6 {P : Prop} (h : P := by repeat (first | (with_reducible first | exact HB.out | apply below_alloc | apply pw_below_drewN | apply below_drew1 | refine below_set ?_ X5.out) | exact HB.out)) : P := h
theorem z11_7 {P : Prop} (h : P := by repeat (first | (with_reducible first | exact HB.out | apply below_alloc | apply pw_below_drewN | apply below_drew1 | refine below_set ?_ (IsS104.ge HI488.out) | refine below_set ?_ XT.out) | exact HB.out)) : P := h
theorem z11_8 {P : Prop} (h : P := by apply blk_fin; (focus ((with_reducible repeat (first | apply blk_putQ | refine blk_drewN ?_ _ | refine blk_drew ?_ | refine blk_alloc ?_ _)); exact XJ.out)); first | (simp only [List.setIfInBounds_toArray, List.set_cons_zero, List.set_cons_succ]; done) | rfl) : P := h
theorem z11_9 {P : Prop} (h : P := by repeat (first | (with_reducible first | exact HB.out | apply below_alloc | apply pw_below_drewN | apply below_drew1 | refine below_set ?_ X6.out) | exact HB.out)) : P := h
/-! ### spec_DrawScene: function 38 -/
def spec_DrawScene.f (k : Nat) (l0 : List Int) : Option ((List (S69))) := (spec_l01New.f k l0).bind fun XU => ((spec_l15Scene.f k XU.1 XU.2.1 XU.2.2).bind fun Yi => (some Yi.1))
theorem spec_DrawScene.mono : ∀ a0 k, LeO (spec_DrawScene.f k a0) (spec_DrawScene.f (k + 1) a0) := by
 intro a0 k
 unfold spec_DrawScene.f
 with_reducible repeat' first | apply spec_l01New.mono | apply spec_l15Scene.mono | exact LeO.refl _ | exact LeO.none _ | refine LeO.ite ?_ ?_ | refine LeO.bind ?_ (fun _ => ?_)
set_option maxHeartbeats 8000000 in
set_option maxRecDepth 100000 in
theorem spec_DrawScene.calls (k : Nat) (A0 : Option Addr) (c0 : Nat) (l0 : List Int) (r : List (S69)) (w : World) (hr0 : Kd.C (Kd.int .u8) w A0 l0.length l0) (hc0 : l0.length ≤ c0) (h : spec_DrawScene.f k l0 = some r) :
  Calls Try.prog 38 #[.slice A0 l0.length c0] w fun e w' => ∃ v0_ : Value, e = .returned (.agg #[v0_]) ∧ Kd.N k69 69 w' w.heap.size (fun k_ => (w.heap.size ≤ k_)) v0_ r ∧ Below w.heap.size w w' := by
 have hu53 := Try.underlying53; have HR0 := mk0 hr0; have HC0 := mk0 hc0; clear hr0 hc0; have HB := mk0 (Below.refl w.heap.size w)
 have H := h; unfold spec_DrawScene.f at H
 clear h
 obtain ⟨⟨Yj, Yk, Yl⟩, A2, H⟩ := bnd H
 try dsimp only at H
 obtain ⟨⟨X8, Yw, Yx⟩, A3, H⟩ := bnd H
 try dsimp only at H
 obtain rfl := Option.some.inj H
 simp only [Option.some.injEq, Prod.mk.injEq] at H; obtain ⟨rfl⟩ := H
 go_enter Try.func38, Try.ntmps38
 go_wp2_with (first | ((with_reducible refine gate_dst (N := 2) rfl ?_); refine boxz (cs := #[.slice none 0 0]) (t := 53) rfl ?_; intro XQ hg w4 hbox hb; have Ym := mk0 (ge_go (a := w.heap.size) hg (below_size q_162)); have XT := Ym; replace HB := bS q_162 hb; have XE := mk0 (hbox); clear hb hbox hg) | ((with_reducible refine gate_callee (f := 45) rfl ?_); refine gl_ (some 4) Try.func45 #[.slice A0 l0.length c0] rfl q_1 ?_; (with_reducible refine (spec_l01New.calls k _ _ l0 Yj Yk Yl w _ ?side1 ?side2 ?side3 A2.out).mono ?_); (case side1 => repeat (first | (with_reducible first | exact HB.out | apply below_alloc | apply pw_below_drewN | apply below_drew1 | refine below_set ?_ XT.out) | exact HB.out)); (case side2 => exact HR0.out); (case side3 => exact HC0.out); rintro e w5 ⟨g488, rfl, hi, hb, hb2⟩; refine ⟨_, rfl, ?_⟩; replace HB := mk0 (hb); have HI488 := mk0 (hi); have XI := mk0 (IsS104.ne_blk hi (blk_belowB XE (pkb XE) hb2) (by decide)); have XK := mk0 (Ne.symm (IsS104.ne_blk hi (blk_belowB XE (pkb XE) hb2) (by decide))); replace XE := mk0 (blk_belowB XE (pkb XE) hb2); clear hb hb2 hi; (try clear hk)) | ((with_reducible refine gate_callee (f := 73) rfl ?_); refine gl_ (some 5) Try.func73 #[.pointer (some ⟨g488, 0, none⟩)] rfl q_1 ?_; (with_reducible refine (spec_l15Scene.calls k g488 Yj Yk Yl X8 Yw Yx w _ ?side1 ?side2 A3.out).mono ?_); (case side1 => repeat (first | (with_reducible first | exact HI488.out | apply IsS104.alloc | apply IsS104.drewN | apply IsS104.drew | apply IsS104.set_1 | apply IsS104.set_2 | apply IsS104.farB XI.out) | exact HI488.out)); (case side2 => repeat (first | (with_reducible first | exact HB.out | apply below_alloc | apply pw_below_drewN | apply below_drew1 | refine below_set ?_ (IsS104.ge HI488.out) | refine below_set ?_ XT.out) | exact HB.out)); rintro e w6 ⟨v490, rfl, ho0, hi, hb, hk⟩; refine ⟨_, rfl, ?_⟩; have X7 := mk0 (Kd.N_lower (Kd.N_mono (ok' := fun k_ => (w.heap.size ≤ k_) ∧ k_ ≠ XQ ∧ k_ ≠ g488) ho0 (fun k_ hk_ => ⟨(Nat.le_trans (below_size z11_7) hk_), (fB XE (pkb XE) k_ hk_), (IsS104.fresh (by repeat (first | (with_reducible first | exact HI488.out | apply IsS104.alloc | apply IsS104.drewN | apply IsS104.drew | apply IsS104.set_1 | apply IsS104.set_2 | apply IsS104.farB XI.out) | exact HI488.out)) k_ hk_)⟩)) (below_size z11_7)); replace XE := kB XE hk (pkb XE) XK; replace HB := mk0 (hb); replace HI488 := mk0 (hi); clear hb hk hi ho0; (try clear hb2); obtain ⟨Ao7, co7, eo7⟩ := Kd.N_slice X7.out; subst eo7; have Yy := XK.out; have Yz := XI.out; refine bc_1 XE.out ?_; intros))
 refine bodyPost_ret (results_cell_row rfl _ _ XQ 53 #[.slice Ao7 X8.length co7] (0, 0) _ rfl (by apply blk_fin; (focus ((with_reducible repeat (first | apply blk_putQ | refine blk_drewN ?_ _ | refine blk_drew ?_ | refine blk_alloc ?_ _)); exact XE.out)); first | (simp only [List.setIfInBounds_toArray, List.set_cons_zero, List.set_cons_succ]; done) | rfl) Try.underlying53 rfl (by kernel_rfl)) rfl ?_
 exact ⟨_, q_94, (by (with_reducible repeat (first | apply Kd.N_alloc | apply Kd.N_drewN | apply Kd.N_drew)); exact Kd.N_mono (Kd.N_far (p := ⟨XQ, 0, none⟩) (Kd.N_mono X7.out (fun k_ hk => (⟨hk, hk.2.1⟩ : _ ∧ k_ ≠ XQ))) (fun _ hk => hk.2) (.slice Ao7 X8.length co7)) (fun _ hk => hk.1.1)), z11_7⟩

/-! ### impl_inRange: function 48 -/
def impl_inRange.f (a0 : Int) (a1 : Int) (a2 : Int) : Option (Bool) := if a0 ≥ a1 then (some (decide (a0 ≤ a2))) else (some false)
set_option maxHeartbeats 8000000 in
set_option maxRecDepth 100000 in
theorem impl_inRange.calls (a0 : Int) (a1 : Int) (a2 : Int) (r : Bool) (w : World) (h : impl_inRange.f a0 a1 a2 = some r) :
  Calls Try.prog 48 #[.int .i64 a0, .int .i64 a1, .int .i64 a2] w fun e w' => e = .returned (.bool r) ∧ Drawn0 w w' := by
 have H : (if a0 ≥ a1 then (some (decide (a0 ≤ a2))) else (some false)) = some r := h
 clear h
 by_cases c4 : a0 ≥ a1
 ·rw [if_pos c4] at H; have c4b0 := decide_eq_true c4; clear c4
  obtain rfl := Option.some.inj H
  simp only [Option.some.injEq, Prod.mk.injEq] at H; obtain ⟨rfl⟩ := H
  go_enter Try.func48, Try.ntmps48
  go_wp2
  go_ret
  exact ⟨rs0, q_200⟩
 ·rw [if_neg c4] at H; have c4b0 := decide_eq_false c4; clear c4
  obtain rfl := Option.some.inj H
  simp only [Option.some.injEq, Prod.mk.injEq] at H; obtain ⟨rfl⟩ := H
  go_enter Try.func48, Try.ntmps48
  go_wp2
  go_ret
  exact ⟨rs0, q_200⟩

/-! ### impl_DashOk: function 12 -/
def impl_DashOk.l0 : Nat → List Int → List Int → Int → Int → Option (Bool)
 | 0, _, _, _, _ => none
 | k + 1, x0, x5, x6, x7 => if x7 < x6 then (if 0 ≤ x7 then (if x7 < (x5.length : Int) then ((impl_inRange.f (rd x5 x7) 1 20000).bind fun X9 => (if X9 = true then (impl_DashOk.l0 k x0 x5 x6 (wrap64 (x7 + 1))) else (some false))) else (none)) else (none)) else (if ((x0.length : Int) % 2) = 0 then (some (decide ((x0.length : Int) ≤ 4))) else (some false))
def impl_DashOk.f (k : Nat) (l0 : List Int) : Option (Bool) := impl_DashOk.l0 k l0 l0 (l0.length : Int) 0
theorem impl_DashOk.mono_l : ∀ k, (∀ y0 y1 y2 y3, LeO (impl_DashOk.l0 k y0 y1 y2 y3) (impl_DashOk.l0 (k + 1) y0 y1 y2 y3))
 | 0 => fun _ _ _ _ r h => by simp [impl_DashOk.l0] at h
 | k + 1 => by
  have ih0 := impl_DashOk.mono_l k
  ·intro y0 y1 y2 y3
   unfold impl_DashOk.l0
   with_reducible repeat' first | apply ih0 | exact LeO.refl _ | exact LeO.none _ | refine LeO.ite ?_ ?_ | refine LeO.bind ?_ (fun _ => ?_)
theorem impl_DashOk.mono : ∀ a0 k, LeO (impl_DashOk.f k a0) (impl_DashOk.f (k + 1) a0) := by
 intro a0 k; have ih0 := impl_DashOk.mono_l k
 unfold impl_DashOk.f
 with_reducible repeat' first | apply ih0 | exact LeO.refl _ | exact LeO.none _ | refine LeO.ite ?_ ?_ | refine LeO.bind ?_ (fun _ => ?_)
set_option maxHeartbeats 8000000 in
set_option maxRecDepth 100000 in
theorem impl_DashOk.calls (k : Nat) (A0 : Option Addr) (c0 : Nat) (l0 : List Int) (r : Bool) (w : World) (hr0 : Kd.C (Kd.int .i64) w A0 l0.length l0) (hc0 : l0.length ≤ c0) (h : impl_DashOk.f k l0 = some r) :
  Calls Try.prog 12 #[.slice A0 l0.length c0] w fun e w' => e = .returned (.bool r) ∧ Drawn0 w w' := by
 have HR0 := mk0 hr0; have HC0 := mk0 hc0; clear hr0 hc0
 have H : (impl_DashOk.l0 k l0 l0 (l0.length : Int) 0) = some r := h
 clear h
 have H' := mk0 H
 clear H; go_enter Try.func12, Try.ntmps12
 go_wp2
 go_loopg [7] k (fun kq v7 w' => ∃ (XD : Int), v7 = .int .i64 XD ∧ Aside0 (impl_DashOk.l0 kq l0 l0 (l0.length : Int) XD = some r) ∧ Aside0 (kq ≤ k) ∧ Drawn0 w w')
 case atStart => exact ⟨(0), rs0, H', ⟨Nat.le_refl _⟩, q_200⟩
 case round =>
  clear H'
  obtain ⟨XD, rfl, HA, HK1, ⟨m1, rfl⟩⟩ := hrel
  cases gk with
  | zero => exact absurd HA.out (by simp [impl_DashOk.l0])
  | succ k1 =>
   have H := HA.out; clear HA; simp only [impl_DashOk.l0] at H
   by_cases c2 : XD < (l0.length : Int)
   rotate_left
   ·rw [if_neg c2] at H; have c2b0 := decide_eq_false c2; clear c2
    by_cases c7 : ((l0.length : Int) % 2) = 0
    rotate_left
    ·rw [if_neg c7] at H
     have c7b0 : (((l0.length : Int) % 2) == 0) = false := beq_eq_false_iff_ne.mpr c7
     have c7b1 : (((l0.length : Int) % 2) != 0) = true := bne_iff_ne.mpr c7
     obtain rfl := Option.some.inj H
     simp only [Option.some.injEq, Prod.mk.injEq] at H; obtain ⟨rfl⟩ := H
     go_wp2
     go_ret
     exact ⟨rs0, q_200⟩
    rw [if_pos c7] at H
    have c7b0 : (((l0.length : Int) % 2) == 0) = true := beq_iff_eq.mpr c7
    have c7b1 : (((l0.length : Int) % 2) != 0) = false := bne_eq_false_iff_eq.mpr c7
    clear c7
    obtain rfl := Option.some.inj H
    simp only [Option.some.injEq, Prod.mk.injEq] at H; obtain ⟨rfl⟩ := H
    go_wp2
    go_ret
    exact ⟨rs0, q_200⟩
   rw [if_pos c2] at H; have c2b0 := decide_eq_true c2; clear c2
   by_cases c3 : 0 ≤ XD
   rotate_left
   ·rw [if_neg c3] at H
    exact absurd H (by simp)
   rw [if_pos c3] at H; have c3b0 := decide_eq_true c3; clear c3
   by_cases c4 : XD < (l0.length : Int)
   rotate_left
   ·rw [if_neg c4] at H
    exact absurd H (by simp)
   rw [if_pos c4] at H; have c4b0 := decide_eq_true c4; clear c4; obtain ⟨X9, A5, H⟩ := bnd H
   try dsimp only at H
   by_cases c6 : X9 = true
   ·subst c6; rw [if_pos rfl] at H
    have H' := mk0 H
    clear H
    have XM : 0 ≤ (XD : Int) := of_decide_eq_true (by first | (with_reducible assumption) | assumption)
    have XN : XD < (l0.length : Int) := of_decide_eq_true (by first | (with_reducible assumption) | assumption)
    obtain ⟨Yn, e494, XZ⟩ := Kd.at_int HR0.out XD XM XN
    cases e494
    replace XM := eq_true XM; replace XN := eq_true XN
    go_wp2_with (first | ((with_reducible refine gate_callee (f := 48) rfl ?_); refine gl_ (some 12) Try.func48 #[.int .i64 (rd l0 XD), .int .i64 1, .int .i64 20000] rfl q_1 ?_; (with_reducible refine (impl_inRange.calls (rd l0 XD) 1 20000 true _ A5.out).mono ?_); rintro e w' ⟨rfl, ⟨nd, rfl⟩⟩; refine ⟨_, rfl, ?_⟩))
    go_roundg k1
    case measure => have := HK1.out; omega
    case rel => exact ⟨(wrap64 (XD + 1)), rs0, H', ⟨(by have := HK1.out; omega)⟩, q_200⟩
   replace c6 := Bool.eq_false_iff.mpr c6; subst c6; rw [if_neg (show ¬ (false = true) by decide)] at H
   obtain rfl := Option.some.inj H
   simp only [Option.some.injEq, Prod.mk.injEq] at H; obtain ⟨rfl⟩ := H
   have XM : 0 ≤ (XD : Int) := of_decide_eq_true (by first | (with_reducible assumption) | assumption)
   have XN : XD < (l0.length : Int) := of_decide_eq_true (by first | (with_reducible assumption) | assumption)
   obtain ⟨Yn, e494, XZ⟩ := Kd.at_int HR0.out XD XM XN
   cases e494
   replace XM := eq_true XM; replace XN := eq_true XN
   go_wp2_with (first | ((with_reducible refine gate_callee (f := 48) rfl ?_); refine gl_ (some 12) Try.func48 #[.int .i64 (rd l0 XD), .int .i64 1, .int .i64 20000] rfl q_1 ?_; (with_reducible refine (impl_inRange.calls (rd l0 XD) 1 20000 false _ A5.out).mono ?_); rintro e w' ⟨rfl, ⟨nd, rfl⟩⟩; refine ⟨_, rfl, ?_⟩))
   go_ret
   exact ⟨rs0, q_200⟩

/-! ### impl_isFar: function 86 -/
def impl_isFar.f (a0 : Int) : Option (Bool) := (impl_inRange.f a0 (-8388608) 8388608).bind fun Ya => (some Ya)
set_option maxHeartbeats 8000000 in
set_option maxRecDepth 100000 in
theorem impl_isFar.calls (a0 : Int) (r : Bool) (w : World) (h : impl_isFar.f a0 = some r) :
  Calls Try.prog 86 #[.int .i64 a0] w fun e w' => e = .returned (.bool r) ∧ Drawn0 w w' := by
 have H := h; unfold impl_isFar.f at H
 clear h; obtain ⟨Ya, A2, H⟩ := bnd H
 try dsimp only at H
 obtain rfl := Option.some.inj H
 simp only [Option.some.injEq, Prod.mk.injEq] at H; obtain ⟨rfl⟩ := H
 go_enter Try.func86, Try.ntmps86
 go_wp2_with (first | ((with_reducible refine gate_callee (f := 48) rfl ?_); refine gl_ (some 4) Try.func48 #[.int .i64 a0, .int .i64 (-8388608), .int .i64 8388608] rfl q_1 ?_; (with_reducible refine (impl_inRange.calls a0 (-8388608) 8388608 Ya _ A2.out).mono ?_); rintro e w' ⟨rfl, ⟨nd, rfl⟩⟩; refine ⟨_, rfl, ?_⟩))
 go_ret
 exact ⟨rs0, q_200⟩

/-! ### impl_MatOk: function 75 -/
def impl_MatOk.l0 : Nat → Int → Int → Int → Int → Int → Int → Int → Int → Int → Int → Int → Option (Bool)
 | 0, _, _, _, _, _, _, _, _, _, _, _ => none
 | k + 1, x14, Yo, Yp, Yq, Yr, X0, X1, X2, X3, XR, XS => if x14 < 4 then (if 0 ≤ x14 then ((impl_inRange.f (ix4 x14 Yo Yp Yq Yr) (-1048576) 1048576).bind fun Yb => (if Yb = true then (impl_MatOk.l0 k (wrap64 (x14 + 1)) Yo Yp Yq Yr X0 X1 X2 X3 XR XS) else (some false))) else (none)) else ((impl_isFar.f XR).bind fun Yc => (if Yc = true then ((impl_isFar.f XS).bind fun Yd => (some Yd)) else (some false)))
def impl_MatOk.f (k : Nat) (a0_0 : Int) (a0_1 : Int) (a0_2 : Int) (a0_3 : Int) (a0_4 : Int) (a0_5 : Int) : Option (Bool) := impl_MatOk.l0 k 0 a0_0 a0_1 a0_2 a0_3 a0_0 a0_1 a0_2 a0_3 a0_4 a0_5
theorem impl_MatOk.mono_l : ∀ k, (∀ y0 y1 y2 y3 y4 y5 y6 y7 y8 y9 y10, LeO (impl_MatOk.l0 k y0 y1 y2 y3 y4 y5 y6 y7 y8 y9 y10) (impl_MatOk.l0 (k + 1) y0 y1 y2 y3 y4 y5 y6 y7 y8 y9 y10))
 | 0 => fun _ _ _ _ _ _ _ _ _ _ _ r h => by simp [impl_MatOk.l0] at h
 | k + 1 => by
  have ih0 := impl_MatOk.mono_l k
  ·intro y0 y1 y2 y3 y4 y5 y6 y7 y8 y9 y10
   unfold impl_MatOk.l0
   with_reducible repeat' first | apply ih0 | exact LeO.refl _ | exact LeO.none _ | refine LeO.ite ?_ ?_ | refine LeO.bind ?_ (fun _ => ?_)
theorem impl_MatOk.mono : ∀ a0 a1 a2 a3 a4 a5 k, LeO (impl_MatOk.f k a0 a1 a2 a3 a4 a5) (impl_MatOk.f (k + 1) a0 a1 a2 a3 a4 a5) := by
 intro a0 a1 a2 a3 a4 a5 k; have ih0 := impl_MatOk.mono_l k
 unfold impl_MatOk.f
 with_reducible repeat' first | apply ih0 | exact LeO.refl _ | exact LeO.none _ | refine LeO.ite ?_ ?_ | refine LeO.bind ?_ (fun _ => ?_)
set_option maxHeartbeats 8000000 in
set_option maxRecDepth 100000 in
theorem impl_MatOk.calls (k : Nat) (a0_0 : Int) (a0_1 : Int) (a0_2 : Int) (a0_3 : Int) (a0_4 : Int) (a0_5 : Int) (r : Bool) (w : World) (h : impl_MatOk.f k a0_0 a0_1 a0_2 a0_3 a0_4 a0_5 = some r) :
  Calls Try.prog 75 #[.agg #[.int .i64 a0_0, .int .i64 a0_1, .int .i64 a0_2, .int .i64 a0_3, .int .i64 a0_4, .int .i64 a0_5]] w fun e w' => e = .returned (.bool r) ∧ Below w.heap.size w w' := by
 have hu61 := Try.underlying61; have hu124 := Try.underlying124; have HB := mk0 (Below.refl w.heap.size w)
 have H := h; unfold impl_MatOk.f at H
 clear h
 have H' := mk0 H
 clear H; go_enter Try.func75, Try.ntmps75
 go_wp2_with (first | ((with_reducible refine gate_index (t := 124) rfl ?_); refine index_one rfl (t := 124) (e := 3) rfl Try.underlying124 Try.underlying3 (show (Try.prog.info? 3).map (·.size) = some 1 by kernel_rfl) rfl rfl z11_2 z11_2 ?_) | ((with_reducible refine gate_dst (N := 1) rfl ?_); refine boxz (cs := #[.int .i64 a0_0, .int .i64 a0_1, .int .i64 a0_2, .int .i64 a0_3, .int .i64 a0_4, .int .i64 a0_5]) (t := 61) rfl ?_; intro Ys hg w2 hbox hb; have Yt := mk0 (ge_go (a := w.heap.size) hg (below_size q_162)); have Yh := Yt; replace HB := bS q_162 hb; have XL := mk0 (hbox); clear hb hbox hg; refine bc_6 XL.out ?_; intros))
 go_loopg [14] k (fun kq v14 w' => ∃ (XF : Int), v14 = .int .i64 XF ∧ Aside0 (impl_MatOk.l0 kq XF a0_0 a0_1 a0_2 a0_3 a0_0 a0_1 a0_2 a0_3 a0_4 a0_5 = some r) ∧ Aside0 (kq ≤ k) ∧ Aside0 (w'.heap[Ys]? = some (.cells #[.int .i64 a0_0, .int .i64 a0_1, .int .i64 a0_2, .int .i64 a0_3, .int .i64 a0_4, .int .i64 a0_5] 61 (0, 0))) ∧ Aside0 (Below w.heap.size w w'))
 case atStart => exact ⟨(0), rs0, H', ⟨Nat.le_refl _⟩, ⟨pkb XL⟩, ⟨z11_5⟩⟩
 case round =>
  clear H'; obtain ⟨XF, rfl, HA, HK1, XL, HB⟩ := hrel
  cases gk with
  | zero => exact absurd HA.out (by simp [impl_MatOk.l0])
  | succ k1 =>
   have H := HA.out; clear HA; simp only [impl_MatOk.l0] at H
   by_cases c4 : XF < 4
   rotate_left
   ·rw [if_neg c4] at H; have c4b0 := decide_eq_false c4; clear c4; obtain ⟨Yc, A8, H⟩ := bnd H
    try dsimp only at H
    by_cases c9 : Yc = true
    rotate_left
    ·replace c9 := Bool.eq_false_iff.mpr c9; subst c9; rw [if_neg (show ¬ (false = true) by decide)] at H
     obtain rfl := Option.some.inj H
     simp only [Option.some.injEq, Prod.mk.injEq] at H; obtain ⟨rfl⟩ := H
     refine bc_6 XL.out ?_; intros
     go_wp2_with (first | ((with_reducible refine gate_index (t := 124) rfl ?_); refine index_one rfl (t := 124) (e := 3) rfl Try.underlying124 Try.underlying3 (show (Try.prog.info? 3).map (·.size) = some 1 by kernel_rfl) rfl rfl z11_2 z11_2 ?_) | ((with_reducible refine gate_callee (f := 86) rfl ?_); refine gl_ (some 23) Try.func86 #[.int .i64 a0_4] rfl q_1 ?_; (with_reducible refine (impl_isFar.calls a0_4 false _ A8.out).mono ?_); rintro e w' ⟨rfl, ⟨nd, rfl⟩⟩; refine ⟨_, rfl, ?_⟩))
     go_ret
     exact ⟨q_94, z11_5⟩
    subst c9; rw [if_pos rfl] at H; obtain ⟨Yd, A10, H⟩ := bnd H
    try dsimp only at H
    obtain rfl := Option.some.inj H
    simp only [Option.some.injEq, Prod.mk.injEq] at H; obtain ⟨rfl⟩ := H
    refine bc_6 XL.out ?_; intros
    go_wp2_with (first | ((with_reducible refine gate_index (t := 124) rfl ?_); refine index_one rfl (t := 124) (e := 3) rfl Try.underlying124 Try.underlying3 (show (Try.prog.info? 3).map (·.size) = some 1 by kernel_rfl) rfl rfl z11_2 z11_2 ?_) | ((with_reducible refine gate_callee (f := 86) rfl ?_); refine gl_ (some 23) Try.func86 #[.int .i64 a0_4] rfl q_1 ?_; (with_reducible refine (impl_isFar.calls a0_4 true _ A8.out).mono ?_); rintro e w' ⟨rfl, ⟨nd, rfl⟩⟩; refine ⟨_, rfl, ?_⟩) | (go_at_call 86; (with_reducible refine (impl_isFar.calls a0_5 Yd _ A10.out).mono ?_); rintro e w' ⟨rfl, ⟨nd, rfl⟩⟩))
    go_ret
    exact ⟨q_94, z11_5⟩
   rw [if_pos c4] at H; have c4b0 := decide_eq_true c4; clear c4
   by_cases c5 : 0 ≤ XF
   rotate_left
   ·rw [if_neg c5] at H
    exact absurd H (by simp)
   rw [if_pos c5] at H; have c5b0 := decide_eq_true c5; clear c5; obtain ⟨Yb, A6, H⟩ := bnd H
   try dsimp only at H
   by_cases c7 : Yb = true
   ·subst c7; rw [if_pos rfl] at H
    have H' := mk0 H
    clear H
    go_wp2_with (first | ((with_reducible refine gate_index (t := 124) rfl ?_); refine index_one rfl (t := 124) (e := 3) rfl Try.underlying124 Try.underlying3 (show (Try.prog.info? 3).map (·.size) = some 1 by kernel_rfl) rfl rfl z11_2 z11_2 ?_) | ((with_reducible refine gate_callee (f := 48) rfl ?_); refine gl_ (some 18) Try.func48 #[.int .i64 (ix4 XF a0_0 a0_1 a0_2 a0_3), .int .i64 (-1048576), .int .i64 1048576] rfl q_1 ?_; (with_reducible refine (impl_inRange.calls (ix4 XF a0_0 a0_1 a0_2 a0_3) (-1048576) 1048576 true _ A6.out).mono ?_); rintro e w' ⟨rfl, ⟨nd, rfl⟩⟩; refine ⟨_, rfl, ?_⟩))
    go_roundg k1
    case measure => have := HK1.out; omega
    case rel => exact ⟨(wrap64 (XF + 1)), rs0, H', ⟨(by have := HK1.out; omega)⟩, ⟨pkb XL⟩, ⟨z11_5⟩⟩
   replace c7 := Bool.eq_false_iff.mpr c7; subst c7; rw [if_neg (show ¬ (false = true) by decide)] at H
   obtain rfl := Option.some.inj H
   simp only [Option.some.injEq, Prod.mk.injEq] at H; obtain ⟨rfl⟩ := H
   go_wp2_with (first | ((with_reducible refine gate_index (t := 124) rfl ?_); refine index_one rfl (t := 124) (e := 3) rfl Try.underlying124 Try.underlying3 (show (Try.prog.info? 3).map (·.size) = some 1 by kernel_rfl) rfl rfl z11_2 z11_2 ?_) | ((with_reducible refine gate_callee (f := 48) rfl ?_); refine gl_ (some 18) Try.func48 #[.int .i64 (ix4 XF a0_0 a0_1 a0_2 a0_3), .int .i64 (-1048576), .int .i64 1048576] rfl q_1 ?_; (with_reducible refine (impl_inRange.calls (ix4 XF a0_0 a0_1 a0_2 a0_3) (-1048576) 1048576 false _ A6.out).mono ?_); rintro e w' ⟨rfl, ⟨nd, rfl⟩⟩; refine ⟨_, rfl, ?_⟩))
   go_ret
   exact ⟨q_94, z11_5⟩

/-! ### impl_PointOk: function 60 -/
def impl_PointOk.f (a0_0 : Int) (a0_1 : Int) : Option (Bool) := (impl_isFar.f a0_0).bind fun Ye => (if Ye = true then ((impl_isFar.f a0_1).bind fun Yf => (some Yf)) else (some false))
set_option maxHeartbeats 8000000 in
set_option maxRecDepth 100000 in
theorem impl_PointOk.calls (a0_0 : Int) (a0_1 : Int) (r : Bool) (w : World) (h : impl_PointOk.f a0_0 a0_1 = some r) :
  Calls Try.prog 60 #[.agg #[.int .i64 a0_0, .int .i64 a0_1]] w fun e w' => e = .returned (.bool r) ∧ Below w.heap.size w w' := by
 have hu29 := Try.underlying29; have HB := mk0 (Below.refl w.heap.size w)
 have H := h; unfold impl_PointOk.f at H
 clear h; obtain ⟨Ye, A2, H⟩ := bnd H
 try dsimp only at H
 by_cases c3 : Ye = true
 rotate_left
 ·replace c3 := Bool.eq_false_iff.mpr c3; subst c3; rw [if_neg (show ¬ (false = true) by decide)] at H
  obtain rfl := Option.some.inj H
  simp only [Option.some.injEq, Prod.mk.injEq] at H; obtain ⟨rfl⟩ := H
  go_enter Try.func60, Try.ntmps60
  go_wp2_with (first | ((with_reducible refine gate_dst (N := 1) rfl ?_); refine boxz (cs := #[.int .i64 a0_0, .int .i64 a0_1]) (t := 29) rfl ?_; intro Yu hg w7 hbox hb; have XV := mk0 (ge_go (a := w.heap.size) hg (below_size q_162)); have X6 := XV; replace HB := bS q_162 hb; have XW := mk0 (hbox); clear hb hbox hg; refine bc_2 XW.out ?_; intros) | ((with_reducible refine gate_callee (f := 86) rfl ?_); refine gl_ (some 5) Try.func86 #[.int .i64 a0_0] rfl q_1 ?_; (with_reducible refine (impl_isFar.calls a0_0 false _ A2.out).mono ?_); rintro e w' ⟨rfl, ⟨nd, rfl⟩⟩; refine ⟨_, rfl, ?_⟩))
  go_ret
  exact ⟨q_94, z11_9⟩
 subst c3; rw [if_pos rfl] at H; obtain ⟨Yf, A4, H⟩ := bnd H
 try dsimp only at H
 obtain rfl := Option.some.inj H
 simp only [Option.some.injEq, Prod.mk.injEq] at H; obtain ⟨rfl⟩ := H
 go_enter Try.func60, Try.ntmps60
 go_wp2_with (first | ((with_reducible refine gate_dst (N := 1) rfl ?_); refine boxz (cs := #[.int .i64 a0_0, .int .i64 a0_1]) (t := 29) rfl ?_; intro Yu hg w5 hbox hb; have XV := mk0 (ge_go (a := w.heap.size) hg (below_size q_162)); have X6 := XV; replace HB := bS q_162 hb; have XW := mk0 (hbox); clear hb hbox hg; refine bc_2 XW.out ?_; intros) | ((with_reducible refine gate_callee (f := 86) rfl ?_); refine gl_ (some 5) Try.func86 #[.int .i64 a0_0] rfl q_1 ?_; (with_reducible refine (impl_isFar.calls a0_0 true _ A2.out).mono ?_); rintro e w' ⟨rfl, ⟨nd, rfl⟩⟩; refine ⟨_, rfl, ?_⟩) | (go_at_call 86; (with_reducible refine (impl_isFar.calls a0_1 Yf _ A4.out).mono ?_); rintro e w' ⟨rfl, ⟨nd, rfl⟩⟩))
 go_ret
 exact ⟨q_94, z11_9⟩

/-! ### impl_pointsOk: function 49 -/
def impl_pointsOk.l0 : Nat → List (S29) → Int → Int → Option (Bool)
 | 0, _, _, _ => none
 | k + 1, x5, x6, x7 => if x7 < x6 then (if 0 ≤ x7 then (if x7 < (x5.length : Int) then ((impl_PointOk.f ((rd_T29 x5 x7).f0) ((rd_T29 x5 x7).f1)).bind fun Yg => (if Yg = true then (impl_pointsOk.l0 k x5 x6 (wrap64 (x7 + 1))) else (some false))) else (none)) else (none)) else (some true)
def impl_pointsOk.f (k : Nat) (l0 : List (S29)) : Option (Bool) := impl_pointsOk.l0 k l0 (l0.length : Int) 0
theorem impl_pointsOk.mono_l : ∀ k, (∀ y0 y1 y2, LeO (impl_pointsOk.l0 k y0 y1 y2) (impl_pointsOk.l0 (k + 1) y0 y1 y2))
 | 0 => fun _ _ _ r h => by simp [impl_pointsOk.l0] at h
 | k + 1 => by
  have ih0 := impl_pointsOk.mono_l k
  ·intro y0 y1 y2
   unfold impl_pointsOk.l0
   with_reducible repeat' first | apply ih0 | exact LeO.refl _ | exact LeO.none _ | refine LeO.ite ?_ ?_ | refine LeO.bind ?_ (fun _ => ?_)
theorem impl_pointsOk.mono : ∀ a0 k, LeO (impl_pointsOk.f k a0) (impl_pointsOk.f (k + 1) a0) := by
 intro a0 k; have ih0 := impl_pointsOk.mono_l k
 unfold impl_pointsOk.f
 with_reducible repeat' first | apply ih0 | exact LeO.refl _ | exact LeO.none _ | refine LeO.ite ?_ ?_ | refine LeO.bind ?_ (fun _ => ?_)
set_option maxHeartbeats 8000000 in
set_option maxRecDepth 100000 in
theorem impl_pointsOk.calls (k : Nat) (A0 : Option Addr) (c0 : Nat) (l0 : List (S29)) (r : Bool) (w : World) (hr0 : Kd.C k29 w A0 l0.length l0) (hc0 : l0.length ≤ c0) (h : impl_pointsOk.f k l0 = some r) :
  Calls Try.prog 49 #[.slice A0 l0.length c0] w fun e w' => e = .returned (.bool r) ∧ Below w.heap.size w w' := by
 have hu29 := Try.underlying29; have HR0 := mk0 hr0; have HC0 := mk0 hc0; clear hr0 hc0; have HB := mk0 (Below.refl w.heap.size w)
 have H : (impl_pointsOk.l0 k l0 (l0.length : Int) 0) = some r := h
 clear h
 have H' := mk0 H
 clear H; go_enter Try.func49, Try.ntmps49
 go_wp2
 go_loopg [7] k (fun kq v7 w' => ∃ (XD : Int), v7 = .int .i64 XD ∧ Aside0 (impl_pointsOk.l0 kq l0 (l0.length : Int) XD = some r) ∧ Aside0 (kq ≤ k) ∧ Aside0 (Below w.heap.size w w'))
 case atStart => exact ⟨(0), rs0, H', ⟨Nat.le_refl _⟩, ⟨q_162⟩⟩
 case round =>
  clear H'; obtain ⟨XD, rfl, HA, HK1, HB⟩ := hrel
  cases gk with
  | zero => exact absurd HA.out (by simp [impl_pointsOk.l0])
  | succ k1 =>
   have H := HA.out; clear HA; simp only [impl_pointsOk.l0] at H
   by_cases c2 : XD < (l0.length : Int)
   rotate_left
   ·rw [if_neg c2] at H; have c2b0 := decide_eq_false c2; clear c2
    obtain rfl := Option.some.inj H
    simp only [Option.some.injEq, Prod.mk.injEq] at H; obtain ⟨rfl⟩ := H
    go_wp2
    go_ret
    exact ⟨q_94, q_162⟩
   rw [if_pos c2] at H; have c2b0 := decide_eq_true c2; clear c2
   by_cases c3 : 0 ≤ XD
   rotate_left
   ·rw [if_neg c3] at H
    exact absurd H (by simp)
   rw [if_pos c3] at H; have c3b0 := decide_eq_true c3; clear c3
   by_cases c4 : XD < (l0.length : Int)
   rotate_left
   ·rw [if_neg c4] at H
    exact absurd H (by simp)
   rw [if_pos c4] at H; have c4b0 := decide_eq_true c4; clear c4; obtain ⟨Yg, A5, H⟩ := bnd H
   try dsimp only at H
   by_cases c6 : Yg = true
   ·subst c6; rw [if_pos rfl] at H
    have H' := mk0 H
    clear H
    have XO : 0 ≤ (XD : Int) := of_decide_eq_true (by first | (with_reducible assumption) | assumption)
    have XP : XD < (l0.length : Int) := of_decide_eq_true (by first | (with_reducible assumption) | assumption)
    obtain ⟨Yv, e504, XG, XH⟩ := at_T29 HR0.out XD XO XP
    cases e504
    replace XG := cell_go HB XG; replace XH := cell_go HB XH; replace XO := eq_true XO; replace XP := eq_true XP
    go_wp2_with (first | ((with_reducible refine gate_dst (N := 4) rfl ?_); refine boxz (cs := #[.int .i64 0, .int .i64 0]) (t := 29) rfl ?_; intro XX hg w7 hbox hb; have XY := mk0 (ge_go (a := w.heap.size) hg (below_size q_162)); have X5 := XY; replace HB := bS q_162 hb; have XJ := mk0 (hbox); clear hb hbox hg; refine bc_2 XJ.out ?_; intros) | ((with_reducible refine gate_callee (f := 60) rfl ?_); refine gl_ (some 12) Try.func60 #[.agg #[.int .i64 ((rd_T29 l0 XD).f0), .int .i64 ((rd_T29 l0 XD).f1)]] rfl q_1 ?_; (with_reducible refine (impl_PointOk.calls ((rd_T29 l0 XD).f0) ((rd_T29 l0 XD).f1) true _ A5.out).mono ?_); rintro e w9 ⟨rfl, hb⟩; refine ⟨_, rfl, ?_⟩; replace XJ := mk0 (blk_below (g := XX) (o := .cells #[.int .i64 ((rd_T29 l0 XD).f0), .int .i64 ((rd_T29 l0 XD).f1)] 29 (0, 0)) z11_8 hb); replace HB := bS z11_6 hb; clear hb))
    go_roundg k1
    case measure => have := HK1.out; omega
    case rel => exact ⟨(wrap64 (XD + 1)), rs0, H', ⟨(by have := HK1.out; omega)⟩, ⟨z11_6⟩⟩
   replace c6 := Bool.eq_false_iff.mpr c6; subst c6; rw [if_neg (show ¬ (false = true) by decide)] at H
   obtain rfl := Option.some.inj H
   simp only [Option.some.injEq, Prod.mk.injEq] at H; obtain ⟨rfl⟩ := H
   have XO : 0 ≤ (XD : Int) := of_decide_eq_true (by first | (with_reducible assumption) | assumption)
   have XP : XD < (l0.length : Int) := of_decide_eq_true (by first | (with_reducible assumption) | assumption)
   obtain ⟨Yv, e504, XG, XH⟩ := at_T29 HR0.out XD XO XP
   cases e504
   replace XG := cell_go HB XG; replace XH := cell_go HB XH; replace XO := eq_true XO; replace XP := eq_true XP
   go_wp2_with (first | ((with_reducible refine gate_dst (N := 4) rfl ?_); refine boxz (cs := #[.int .i64 0, .int .i64 0]) (t := 29) rfl ?_; intro XX hg w10 hbox hb; have XY := mk0 (ge_go (a := w.heap.size) hg (below_size q_162)); have X5 := XY; replace HB := bS q_162 hb; have XJ := mk0 (hbox); clear hb hbox hg; refine bc_2 XJ.out ?_; intros) | ((with_reducible refine gate_callee (f := 60) rfl ?_); refine gl_ (some 12) Try.func60 #[.agg #[.int .i64 ((rd_T29 l0 XD).f0), .int .i64 ((rd_T29 l0 XD).f1)]] rfl q_1 ?_; (with_reducible refine (impl_PointOk.calls ((rd_T29 l0 XD).f0) ((rd_T29 l0 XD).f1) false _ A5.out).mono ?_); rintro e w12 ⟨rfl, hb⟩; refine ⟨_, rfl, ?_⟩; replace XJ := mk0 (blk_below (g := XX) (o := .cells #[.int .i64 ((rd_T29 l0 XD).f0), .int .i64 ((rd_T29 l0 XD).f1)] 29 (0, 0)) z11_8 hb); replace HB := bS z11_6 hb; clear hb))
   go_ret
   exact ⟨q_94, z11_6⟩

/-! ### impl_NeedOf: function 94 -/
def impl_NeedOf.j0 : Nat → Int → Bool → Option (Int)
 | 0, _, _ => none
 | k + 1, x3, x4 => if x4 = true then (some 1) else (if x3 = 3 then (some 2) else (if x3 = 4 then (some 3) else (if x3 = 5 then (some 0) else (some (-1)))))
def impl_NeedOf.f (k : Nat) (a0 : Int) : Option (Int) := if a0 = 1 then (impl_NeedOf.j0 k a0 (a0 == 1)) else (impl_NeedOf.j0 k a0 (a0 == 2))
theorem impl_NeedOf.mono_l : ∀ k, (∀ y0 y1, LeO (impl_NeedOf.j0 k y0 y1) (impl_NeedOf.j0 (k + 1) y0 y1))
 | 0 => fun _ _ r h => by simp [impl_NeedOf.j0] at h
 | k + 1 => by
  have ih0 := impl_NeedOf.mono_l k
  ·intro y0 y1
   unfold impl_NeedOf.j0
   with_reducible repeat' first | apply ih0 | exact LeO.refl _ | exact LeO.none _ | refine LeO.ite ?_ ?_ | refine LeO.bind ?_ (fun _ => ?_)
theorem impl_NeedOf.mono : ∀ a0 k, LeO (impl_NeedOf.f k a0) (impl_NeedOf.f (k + 1) a0) := by
 intro a0 k; have ih0 := impl_NeedOf.mono_l k
 unfold impl_NeedOf.f
 with_reducible repeat' first | apply ih0 | exact LeO.refl _ | exact LeO.none _ | refine LeO.ite ?_ ?_ | refine LeO.bind ?_ (fun _ => ?_)
set_option maxHeartbeats 8000000 in
set_option maxRecDepth 100000 in
theorem impl_NeedOf.calls (k : Nat) (a0 : Int) (r : Int) (w : World) (h : impl_NeedOf.f k a0 = some r) :
  Calls Try.prog 94 #[.int .i64 a0] w fun e w' => e = .returned (.int .i64 r) ∧ Drawn0 w w' := by
 have H := h; unfold impl_NeedOf.f at H
 clear h; have HC2 := mk0 H; clear H; go_enter Try.func94, Try.ntmps94
 go_upto_if 4 with (fail)
 go_cut [4] (fun v4 wc => ∃ (kq : Nat) (X4 : Bool), v4 = .bool X4 ∧ Aside0 (impl_NeedOf.j0 kq a0 X4 = some r) ∧ Aside0 (kq ≤ k) ∧ Drawn0 w wc)
 case first =>
  have H := HC2.out; clear HC2
  by_cases c3 : a0 = 1
  rotate_left
  ·rw [if_neg c3] at H
   have c3b0 : (a0 == 1) = false := beq_eq_false_iff_ne.mpr c3
   have c3b1 : (a0 != 1) = true := bne_iff_ne.mpr c3
   (first | rw [c3b0] | (simp only [i64_w, i32_w]; rw [c3b0]) | skip)
   have H' := mk0 H
   clear H
   go_wp2
   go_meet
   case rel => exact ⟨_, ((a0 == 2)), rs0, H', ⟨(by first | omega | exact Nat.le_refl _)⟩, q_200⟩
  rw [if_pos c3] at H
  have c3b0 : (a0 == 1) = true := beq_iff_eq.mpr c3
  have c3b1 : (a0 != 1) = false := bne_eq_false_iff_eq.mpr c3
  clear c3
  (first | rw [c3b0] | (simp only [i64_w, i32_w]; rw [c3b0]) | skip)
  have H' := mk0 H
  clear H
  go_wp2
  go_meet
  case rel => exact ⟨_, ((a0 == 1)), rs0, H', ⟨(by first | omega | exact Nat.le_refl _)⟩, q_200⟩
 case rest =>
  clear HC2; try clear p2
  obtain ⟨kq, X4, rfl, HA, HJ1, ⟨mc1, rfl⟩⟩ := hcut
  cases kq with
  | zero => exact absurd HA.out (by simp [impl_NeedOf.j0])
  | succ kj1 =>
   have H := HA.out; clear HA; simp only [impl_NeedOf.j0] at H
   by_cases c4 : X4 = true
   ·subst c4; rw [if_pos rfl] at H
    obtain rfl := Option.some.inj H
    simp only [Option.some.injEq, Prod.mk.injEq] at H; obtain ⟨rfl⟩ := H
    go_wp2
    go_ret
    exact ⟨rs0, q_200⟩
   replace c4 := Bool.eq_false_iff.mpr c4; subst c4; rw [if_neg (show ¬ (false = true) by decide)] at H
   by_cases c5 : a0 = 3
   ·rw [if_pos c5] at H
    have c5b0 : (a0 == 3) = true := beq_iff_eq.mpr c5
    have c5b1 : (a0 != 3) = false := bne_eq_false_iff_eq.mpr c5
    clear c5
    obtain rfl := Option.some.inj H
    simp only [Option.some.injEq, Prod.mk.injEq] at H; obtain ⟨rfl⟩ := H
    go_wp2
    go_ret
    exact ⟨rs0, q_200⟩
   rw [if_neg c5] at H
   have c5b0 : (a0 == 3) = false := beq_eq_false_iff_ne.mpr c5
   have c5b1 : (a0 != 3) = true := bne_iff_ne.mpr c5
   by_cases c6 : a0 = 4
   ·rw [if_pos c6] at H
    have c6b0 : (a0 == 4) = true := beq_iff_eq.mpr c6
    have c6b1 : (a0 != 4) = false := bne_eq_false_iff_eq.mpr c6
    clear c6
    obtain rfl := Option.some.inj H
    simp only [Option.some.injEq, Prod.mk.injEq] at H; obtain ⟨rfl⟩ := H
    go_wp2
    go_ret
    exact ⟨rs0, q_200⟩
   rw [if_neg c6] at H
   have c6b0 : (a0 == 4) = false := beq_eq_false_iff_ne.mpr c6
   have c6b1 : (a0 != 4) = true := bne_iff_ne.mpr c6
   by_cases c7 : a0 = 5
   rotate_left
   ·rw [if_neg c7] at H
    have c7b0 : (a0 == 5) = false := beq_eq_false_iff_ne.mpr c7
    have c7b1 : (a0 != 5) = true := bne_iff_ne.mpr c7
    obtain rfl := Option.some.inj H
    simp only [Option.some.injEq, Prod.mk.injEq] at H; obtain ⟨rfl⟩ := H
    go_wp2
    go_ret
    exact ⟨rs0, q_200⟩
   rw [if_pos c7] at H
   have c7b0 : (a0 == 5) = true := beq_iff_eq.mpr c7
   have c7b1 : (a0 != 5) = false := bne_eq_false_iff_eq.mpr c7
   clear c7
   obtain rfl := Option.some.inj H
   simp only [Option.some.injEq, Prod.mk.injEq] at H; obtain ⟨rfl⟩ := H
   go_wp2
   go_ret
   exact ⟨rs0, q_200⟩

end Go.Proofs.Ytjfienkbcacijaa.MFnTrees
