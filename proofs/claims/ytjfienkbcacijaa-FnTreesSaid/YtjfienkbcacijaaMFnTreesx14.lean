/- Functions of the program as Lean functions, and the proof that a call comes to just these: machine text of this session's own program (myprint.py). -/
import Derived.Test.YtjfienkbcacijaaMFnTreesx0
import Derived.Test.YtjfienkbcacijaaMFnTreesx4
namespace Go.Proofs.Ytjfienkbcacijaa.MFnTrees
open Go.RowKit Go.Proofs.YtjfienkbcacijaaW.PrintWords Go.Proofs.YtjfienkbcacijaaW.PrintLast Go.Proofs.YtjfienkbcacijaaW.PrintMore
attribute [local go_sem] max2_int min2_int max_two min_two max_three min_three max_four min_four   -- for this text's walks alone
set_option linter.unusedVariables false
set_option linter.unusedSimpArgs false

theorem z14_0 {P : Prop} (h : P := by repeat (first | (with_reducible first | exact HB.out | apply below_alloc | apply pw_below_drewN | apply below_drew1 | refine below_set ?_ Zr.out) | exact HB.out)) : P := h
theorem z14_6 {P : Prop} (h : P := by repeat (first | exact Xe.out | (with_reducible refine Kd.C_alloc ?_ _) | (with_reducible refine Kd.C_drewN ?_ _) | (with_reducible refine Kd.C_drew ?_))) : P := h
/-! ### impl_DepthOf: function 42 -/
def impl_DepthOf.l0 : Nat → Int → Int → List (S69) → Option (Int)
 | 0, _, _, _ => none
 | k + 1, x1, x5, Ya => if x5 ≤ 8 then ((impl_NodeAt.f k Ya x1).bind fun XD => (if XD < 0 then (some 0) else (if 0 ≤ XD then (if XD < (Ya.length : Int) then (if ((rd_T69 Ya XD).f1) = 0 then (some x5) else (impl_DepthOf.l0 k ((rd_T69 Ya XD).f1) (wrap64 (x5 + 1)) Ya)) else (none)) else (none)))) else (some 0)
def impl_DepthOf.f (k : Nat) (l0_0 : List (S69)) (a1 : Int) : Option (Int) := if a1 = 0 then (some 0) else (impl_DepthOf.l0 k a1 1 l0_0)
theorem impl_DepthOf.mono_l : ∀ k, (∀ y0 y1 y2, LeO (impl_DepthOf.l0 k y0 y1 y2) (impl_DepthOf.l0 (k + 1) y0 y1 y2))
 | 0 => fun _ _ _ r h => by simp [impl_DepthOf.l0] at h
 | k + 1 => by
  have ih0 := impl_DepthOf.mono_l k
  ·intro y0 y1 y2
   unfold impl_DepthOf.l0
   with_reducible repeat' first | apply ih0 | apply impl_NodeAt.mono | exact LeO.refl _ | exact LeO.none _ | refine LeO.ite ?_ ?_ | refine LeO.bind ?_ (fun _ => ?_)
theorem impl_DepthOf.mono : ∀ a0 a1 k, LeO (impl_DepthOf.f k a0 a1) (impl_DepthOf.f (k + 1) a0 a1) := by
 intro a0 a1 k; have ih0 := impl_DepthOf.mono_l k
 unfold impl_DepthOf.f
 with_reducible repeat' first | apply ih0 | apply impl_NodeAt.mono | exact LeO.refl _ | exact LeO.none _ | refine LeO.ite ?_ ?_ | refine LeO.bind ?_ (fun _ => ?_)
set_option maxHeartbeats 8000000 in
set_option maxRecDepth 100000 in
theorem impl_DepthOf.calls (k : Nat) (XF : Option Addr) (XG : Nat) (l0_0 : List (S69)) (a1 : Int) (r : Int) (w : World) (hr0_0 : Kd.C k69 w XF l0_0.length l0_0) (hc0_0 : l0_0.length ≤ XG) (h : impl_DepthOf.f k l0_0 a1 = some r) :
  Calls Try.prog 42 #[.agg #[.slice XF l0_0.length XG], .int .i64 a1] w fun e w' => e = .returned (.int .i64 r) ∧ Below w.heap.size w w' := by
 have hu53 := Try.underlying53; have Xe := mk0 hr0_0; have Yo := mk0 hc0_0; clear hr0_0 hc0_0; have HB := mk0 (Below.refl w.heap.size w)
 have H : (if a1 = 0 then (some 0) else (impl_DepthOf.l0 k a1 1 l0_0)) = some r := h
 clear h
 by_cases c3 : a1 = 0
 ·rw [if_pos c3] at H
  have c3b0 : (a1 == 0) = true := beq_iff_eq.mpr c3
  have c3b1 : (a1 != 0) = false := bne_eq_false_iff_eq.mpr c3
  clear c3
  obtain rfl := Option.some.inj H
  simp only [Option.some.injEq, Prod.mk.injEq] at H; obtain ⟨rfl⟩ := H
  go_enter Try.func42, Try.ntmps42
  go_wp2_with (first | ((with_reducible refine gate_dst (N := 2) rfl ?_); refine boxz (cs := #[.slice XF l0_0.length XG]) (t := 53) rfl ?_; intro Zs hg w4 hbox hb; have Y7 := mk0 (ge_go (a := w.heap.size) hg (below_size q_162)); have Zr := Y7; replace HB := bS q_162 hb; have XE := mk0 (hbox); clear hb hbox hg))
  go_ret
  exact ⟨q_94, z14_0⟩
 rw [if_neg c3] at H
 have c3b0 : (a1 == 0) = false := beq_eq_false_iff_ne.mpr c3
 have c3b1 : (a1 != 0) = true := bne_iff_ne.mpr c3
 have H' := mk0 H
 clear H; go_enter Try.func42, Try.ntmps42
 go_wp2_with (first | ((with_reducible refine gate_dst (N := 2) rfl ?_); refine boxz (cs := #[.slice XF l0_0.length XG]) (t := 53) rfl ?_; intro Zs hg w5 hbox hb; have Y7 := mk0 (ge_go (a := w.heap.size) hg (below_size q_162)); have Zr := Y7; replace HB := bS q_162 hb; have XE := mk0 (hbox); clear hb hbox hg))
 go_loopg [1, 5] k (fun kq v1 v5 w' => ∃ (Yp : Int) (Y8 : Int), v1 = .int .i64 Yp ∧ v5 = .int .i64 Y8 ∧ Aside0 (impl_DepthOf.l0 kq Yp Y8 l0_0 = some r) ∧ Aside0 (kq ≤ k) ∧ Aside0 (w'.heap[Zs]? = some (.cells #[(.slice XF l0_0.length XG)] 53 (0, 0))) ∧ Aside0 (Below w.heap.size w w'))
 case atStart => exact ⟨(a1), (1), rs0, rs0, H', ⟨Nat.le_refl _⟩, ⟨pkb XE⟩, ⟨z14_0⟩⟩
 case round =>
  clear H'
  try clear c3
  try clear c3b0
  try clear c3b1
  obtain ⟨Yp, Y8, rfl, rfl, HA, HK1, XE, HB⟩ := hrel
  cases gk with
  | zero => exact absurd HA.out (by simp [impl_DepthOf.l0])
  | succ k1 =>
   have H := HA.out; clear HA; simp only [impl_DepthOf.l0] at H
   by_cases c6 : Y8 ≤ 8
   rotate_left
   ·rw [if_neg c6] at H; have c6b0 := decide_eq_false c6; clear c6
    obtain rfl := Option.some.inj H
    simp only [Option.some.injEq, Prod.mk.injEq] at H; obtain ⟨rfl⟩ := H
    go_wp2
    go_ret
    exact ⟨q_94, z14_0⟩
   rw [if_pos c6] at H; have c6b0 := decide_eq_true c6; clear c6; obtain ⟨XD, A7, H⟩ := bnd H
   try dsimp only at H
   by_cases c8 : XD < 0
   ·rw [if_pos c8] at H; have c8b0 := decide_eq_true c8; clear c8
    obtain rfl := Option.some.inj H
    simp only [Option.some.injEq, Prod.mk.injEq] at H; obtain ⟨rfl⟩ := H
    refine bc_1 XE.out ?_; intros
    go_wp2_with (first | ((with_reducible refine gate_callee (f := 41) rfl ?_); refine gl_ (some 15) Try.func41 #[.agg #[.slice XF l0_0.length XG], .int .i64 Yp] rfl q_1 ?_; (with_reducible refine (impl_NodeAt.calls k1 _ _ l0_0 Yp XD _ ?side1 ?side2 A7.out).mono ?_); (case side1 => exact q_192); (case side2 => exact Yo.out); rintro e w10 ⟨rfl, hb⟩; refine ⟨_, rfl, ?_⟩; replace XE := bB XE hb; replace HB := bS z14_0 hb; clear hb))
    go_ret
    exact ⟨q_94, z14_0⟩
   rw [if_neg c8] at H; have c8b0 := decide_eq_false c8; clear c8
   by_cases c11 : 0 ≤ XD
   rotate_left
   ·rw [if_neg c11] at H
    exact absurd H (by simp)
   rw [if_pos c11] at H; have c11b0 := decide_eq_true c11; clear c11
   by_cases c12 : XD < (l0_0.length : Int)
   rotate_left
   ·rw [if_neg c12] at H
    exact absurd H (by simp)
   rw [if_pos c12] at H; have c12b0 := decide_eq_true c12; clear c12
   by_cases c13 : ((rd_T69 l0_0 XD).f1) = 0
   ·rw [if_pos c13] at H
    have c13b0 : (((rd_T69 l0_0 XD).f1) == 0) = true := beq_iff_eq.mpr c13
    have c13b1 : (((rd_T69 l0_0 XD).f1) != 0) = false := bne_eq_false_iff_eq.mpr c13
    clear c13
    obtain rfl := Option.some.inj H
    simp only [Option.some.injEq, Prod.mk.injEq] at H; obtain ⟨rfl⟩ := H
    refine bc_1 XE.out ?_; intros
    go_wp2_with (first | ((with_reducible refine gate_callee (f := 41) rfl ?_); refine gl_ (some 15) Try.func41 #[.agg #[.slice XF l0_0.length XG], .int .i64 Yp] rfl q_1 ?_; (with_reducible refine (impl_NodeAt.calls k1 _ _ l0_0 Yp XD _ ?side1 ?side2 A7.out).mono ?_); (case side1 => exact q_192); (case side2 => exact Yo.out); rintro e w15 ⟨rfl, hb⟩; refine ⟨_, rfl, ?_⟩; replace XE := bB XE hb; replace HB := bS z14_0 hb; clear hb; refine bc_1 XE.out ?_; intros; have YT : 0 ≤ (XD : Int) := of_decide_eq_true (by first | (with_reducible assumption) | assumption); have YU : XD < (l0_0.length : Int) := of_decide_eq_true (by first | (with_reducible assumption) | assumption); obtain ⟨Zx, Zt, Zu, Zh, Zi, Zj, Zk, Zl, Zm, Zn, Zo, e540, Yb, Yc, Yd, Ye, Yf, Yg, Yh, Yi, Yj, Yk, XH, XI, XJ, XK, XL, XM, XN, XO, XP, XQ, XR, XS, XT, XU, XV, XW, XX, XY, XZ, X0, X1, Yl, Ym, X2, X3, X4, X5, X6, X7, X8, X9⟩ := at_T69 Xe.out XD YT YU; cases e540; replace Yb := cell_go HB Yb; replace Yc := cell_go HB Yc; replace Yd := cell_go HB Yd; replace Ye := cell_go HB Ye; replace Yf := cell_go HB Yf; replace Yg := cell_go HB Yg; replace Yh := cell_go HB Yh; replace Yi := cell_go HB Yi; replace Yj := cell_go HB Yj; replace Yk := cell_go HB Yk; replace XH := cell_go HB XH; replace XI := cell_go HB XI; replace XJ := cell_go HB XJ; replace XK := cell_go HB XK; replace XL := cell_go HB XL; replace XM := cell_go HB XM; replace XN := cell_go HB XN; replace XO := cell_go HB XO; replace XP := cell_go HB XP; replace XQ := cell_go HB XQ; replace XR := cell_go HB XR; replace XS := cell_go HB XS; replace XT := cell_go HB XT; replace XU := cell_go HB XU; replace XV := cell_go HB XV; replace XW := cell_go HB XW; replace XX := cell_go HB XX; replace XY := cell_go HB XY; replace XZ := cell_go HB XZ; replace X0 := cell_go HB X0; replace X1 := cell_go HB X1; have Zp := mk0 Ym; have Zq := mk0 Yl; clear Ym Yl; have Y9 := mk0 X3; have Za := mk0 X2; clear X3 X2; have Zb := mk0 X5; have Zc := mk0 X4; clear X5 X4; have Zd := mk0 X7; have Ze := mk0 X6; clear X7 X6; have Zf := mk0 X9; have Zg := mk0 X8; clear X9 X8; replace YT := eq_true YT; replace YU := eq_true YU))
    go_ret
    exact ⟨q_94, z14_0⟩
   rw [if_neg c13] at H
   have c13b0 : (((rd_T69 l0_0 XD).f1) == 0) = false := beq_eq_false_iff_ne.mpr c13
   have c13b1 : (((rd_T69 l0_0 XD).f1) != 0) = true := bne_iff_ne.mpr c13
   have H' := mk0 H
   clear H; refine bc_1 XE.out ?_; intros
   go_wp2_with (first | ((with_reducible refine gate_callee (f := 41) rfl ?_); refine gl_ (some 15) Try.func41 #[.agg #[.slice XF l0_0.length XG], .int .i64 Yp] rfl q_1 ?_; (with_reducible refine (impl_NodeAt.calls k1 _ _ l0_0 Yp XD _ ?side1 ?side2 A7.out).mono ?_); (case side1 => exact q_192); (case side2 => exact Yo.out); rintro e w18 ⟨rfl, hb⟩; refine ⟨_, rfl, ?_⟩; replace XE := bB XE hb; replace HB := bS z14_0 hb; clear hb; refine bc_1 XE.out ?_; intros; have YT : 0 ≤ (XD : Int) := of_decide_eq_true (by first | (with_reducible assumption) | assumption); have YU : XD < (l0_0.length : Int) := of_decide_eq_true (by first | (with_reducible assumption) | assumption); obtain ⟨Zx, Zt, Zu, Zh, Zi, Zj, Zk, Zl, Zm, Zn, Zo, e540, Yb, Yc, Yd, Ye, Yf, Yg, Yh, Yi, Yj, Yk, XH, XI, XJ, XK, XL, XM, XN, XO, XP, XQ, XR, XS, XT, XU, XV, XW, XX, XY, XZ, X0, X1, Yl, Ym, X2, X3, X4, X5, X6, X7, X8, X9⟩ := at_T69 Xe.out XD YT YU; cases e540; replace Yb := cell_go HB Yb; replace Yc := cell_go HB Yc; replace Yd := cell_go HB Yd; replace Ye := cell_go HB Ye; replace Yf := cell_go HB Yf; replace Yg := cell_go HB Yg; replace Yh := cell_go HB Yh; replace Yi := cell_go HB Yi; replace Yj := cell_go HB Yj; replace Yk := cell_go HB Yk; replace XH := cell_go HB XH; replace XI := cell_go HB XI; replace XJ := cell_go HB XJ; replace XK := cell_go HB XK; replace XL := cell_go HB XL; replace XM := cell_go HB XM; replace XN := cell_go HB XN; replace XO := cell_go HB XO; replace XP := cell_go HB XP; replace XQ := cell_go HB XQ; replace XR := cell_go HB XR; replace XS := cell_go HB XS; replace XT := cell_go HB XT; replace XU := cell_go HB XU; replace XV := cell_go HB XV; replace XW := cell_go HB XW; replace XX := cell_go HB XX; replace XY := cell_go HB XY; replace XZ := cell_go HB XZ; replace X0 := cell_go HB X0; replace X1 := cell_go HB X1; have Zp := mk0 Ym; have Zq := mk0 Yl; clear Ym Yl; have Y9 := mk0 X3; have Za := mk0 X2; clear X3 X2; have Zb := mk0 X5; have Zc := mk0 X4; clear X5 X4; have Zd := mk0 X7; have Ze := mk0 X6; clear X7 X6; have Zf := mk0 X9; have Zg := mk0 X8; clear X9 X8; replace YT := eq_true YT; replace YU := eq_true YU))
   go_roundg k1
   case measure => have := HK1.out; omega
   case rel => exact ⟨((rd_T69 l0_0 XD).f1), (wrap64 (Y8 + 1)), rs0, rs0, H', ⟨(by have := HK1.out; omega)⟩, ⟨pkb XE⟩, ⟨z14_0⟩⟩

/-! ### impl_Scene_isParent: function 74 -/
def impl_Scene_isParent.f (k : Nat) (l0_0 : List (S69)) (a1 : Int) : Option (Bool) := (impl_NodeAt.f k l0_0 a1).bind fun Yn => (if a1 = 0 then (some true) else (if Yn ≥ 0 then (if 0 ≤ Yn then (if Yn < (l0_0.length : Int) then (some ((rd_T69 l0_0 Yn).f2)) else (none)) else (none)) else (some false)))
theorem impl_Scene_isParent.mono : ∀ a0 a1 k, LeO (impl_Scene_isParent.f k a0 a1) (impl_Scene_isParent.f (k + 1) a0 a1) := by
 intro a0 a1 k
 unfold impl_Scene_isParent.f
 with_reducible repeat' first | apply impl_NodeAt.mono | exact LeO.refl _ | exact LeO.none _ | refine LeO.ite ?_ ?_ | refine LeO.bind ?_ (fun _ => ?_)
set_option maxHeartbeats 8000000 in
set_option maxRecDepth 100000 in
theorem impl_Scene_isParent.calls (k : Nat) (g0 : Nat) (XF : Option Addr) (XG : Nat) (l0_0 : List (S69)) (a1 : Int) (r : Bool) (w : World) (hb0 : w.heap[g0]? = some (.cells #[.slice XF l0_0.length XG] 53 (0, 0))) (hr0_0 : Kd.C k69 w XF l0_0.length l0_0) (hc0_0 : l0_0.length ≤ XG) (h : impl_Scene_isParent.f k l0_0 a1 = some r) :
  Calls Try.prog 74 #[.pointer (some ⟨g0, 0, none⟩), .int .i64 a1] w fun e w' => e = .returned (.bool r) ∧ Below w.heap.size w w' := by
 have hu53 := Try.underlying53; have Xe := mk0 hr0_0; have Yo := mk0 hc0_0; clear hr0_0 hc0_0; have BK0 := mk0 hb0; clear hb0; have HB := mk0 (Below.refl w.heap.size w)
 have H := h; unfold impl_Scene_isParent.f at H
 clear h; obtain ⟨Yn, A3, H⟩ := bnd H
 try dsimp only at H
 by_cases c4 : a1 = 0
 ·rw [if_pos c4] at H
  have c4b0 : (a1 == 0) = true := beq_iff_eq.mpr c4
  have c4b1 : (a1 != 0) = false := bne_eq_false_iff_eq.mpr c4
  clear c4
  obtain rfl := Option.some.inj H
  simp only [Option.some.injEq, Prod.mk.injEq] at H; obtain ⟨rfl⟩ := H
  have hcz5_0 : w.cell? ⟨g0, 0, none⟩ = some (.slice XF l0_0.length XG) := (blk_cell BK0.out 0).trans rfl
  have hfz5_0 := blk_frozen BK0.out 0; go_enter Try.func74, Try.ntmps74
  go_wp2_with (first | ((with_reducible refine gate_callee (f := 41) rfl ?_); refine gl_ (some 10) Try.func41 #[.agg #[.slice XF l0_0.length XG], .int .i64 a1] rfl q_1 ?_; (with_reducible refine (impl_NodeAt.calls k _ _ l0_0 a1 Yn _ ?side1 ?side2 A3.out).mono ?_); (case side1 => exact z14_6); (case side2 => exact Yo.out); rintro e w6 ⟨rfl, hb⟩; refine ⟨_, rfl, ?_⟩; replace BK0 := mk0 (blk_below (g := g0) (o := .cells #[.slice XF l0_0.length XG] 53 (0, 0)) (pkb BK0) hb); replace HB := bS q_131 hb; clear hb))
  go_ret
  exact ⟨q_94, q_131⟩
 rw [if_neg c4] at H
 have c4b0 : (a1 == 0) = false := beq_eq_false_iff_ne.mpr c4
 have c4b1 : (a1 != 0) = true := bne_iff_ne.mpr c4
 by_cases c7 : Yn ≥ 0
 rotate_left
 ·rw [if_neg c7] at H; have c7b0 := decide_eq_false c7; clear c7
  obtain rfl := Option.some.inj H
  simp only [Option.some.injEq, Prod.mk.injEq] at H; obtain ⟨rfl⟩ := H
  have hcz13_0 : w.cell? ⟨g0, 0, none⟩ = some (.slice XF l0_0.length XG) := (blk_cell BK0.out 0).trans rfl
  have hfz13_0 := blk_frozen BK0.out 0; go_enter Try.func74, Try.ntmps74
  go_wp2_with (first | ((with_reducible refine gate_callee (f := 41) rfl ?_); refine gl_ (some 10) Try.func41 #[.agg #[.slice XF l0_0.length XG], .int .i64 a1] rfl q_1 ?_; (with_reducible refine (impl_NodeAt.calls k _ _ l0_0 a1 Yn _ ?side1 ?side2 A3.out).mono ?_); (case side1 => exact z14_6); (case side2 => exact Yo.out); rintro e w14 ⟨rfl, hb⟩; refine ⟨_, rfl, ?_⟩; replace BK0 := mk0 (blk_below (g := g0) (o := .cells #[.slice XF l0_0.length XG] 53 (0, 0)) (pkb BK0) hb); replace HB := bS q_131 hb; clear hb))
  go_ret
  exact ⟨q_94, q_131⟩
 rw [if_pos c7] at H; have c7b0 := decide_eq_true c7; clear c7
 by_cases c8 : 0 ≤ Yn
 rotate_left
 ·rw [if_neg c8] at H
  exact absurd H (by simp)
 rw [if_pos c8] at H; have c8b0 := decide_eq_true c8; clear c8
 by_cases c9 : Yn < (l0_0.length : Int)
 rotate_left
 ·rw [if_neg c9] at H
  exact absurd H (by simp)
 rw [if_pos c9] at H; have c9b0 := decide_eq_true c9; clear c9
 obtain rfl := Option.some.inj H
 simp only [Option.some.injEq, Prod.mk.injEq] at H; obtain ⟨rfl⟩ := H
 have hcz10_0 : w.cell? ⟨g0, 0, none⟩ = some (.slice XF l0_0.length XG) := (blk_cell BK0.out 0).trans rfl
 have hfz10_0 := blk_frozen BK0.out 0; go_enter Try.func74, Try.ntmps74
 go_wp2_with (first | ((with_reducible refine gate_callee (f := 41) rfl ?_); refine gl_ (some 10) Try.func41 #[.agg #[.slice XF l0_0.length XG], .int .i64 a1] rfl q_1 ?_; (with_reducible refine (impl_NodeAt.calls k _ _ l0_0 a1 Yn _ ?side1 ?side2 A3.out).mono ?_); (case side1 => exact z14_6); (case side2 => exact Yo.out); rintro e w11 ⟨rfl, hb⟩; refine ⟨_, rfl, ?_⟩; replace BK0 := mk0 (blk_below (g := g0) (o := .cells #[.slice XF l0_0.length XG] 53 (0, 0)) (pkb BK0) hb); replace HB := bS q_131 hb; clear hb; have hcz12_0 : w11.cell? ⟨g0, 0, none⟩ = some (.slice XF l0_0.length XG) := (blk_cell BK0.out 0).trans rfl; have hfz12_0 := blk_frozen BK0.out 0; have Zv : 0 ≤ (Yn : Int) := of_decide_eq_true (by first | (with_reducible assumption) | assumption); have Zw : Yn < (l0_0.length : Int) := of_decide_eq_true (by first | (with_reducible assumption) | assumption); obtain ⟨ZS, ZQ, ZR, ZG, ZH, ZI, ZJ, ZK, ZL, ZM, ZN, e542, YV, YW, YX, YY, YZ, Y0, Y1, Y2, Y3, Y4, Yq, Yr, Ys, Yt, Yu, Yv, Yw, Yx, Yy, Yz, YA, YB, YC, YD, YE, YF, YG, YH, YI, YJ, YK, Y5, Y6, YL, YM, YN, YO, YP, YQ, YR, YS⟩ := at_T69 Xe.out Yn Zv Zw; cases e542; replace YV := cell_go HB YV; replace YW := cell_go HB YW; replace YX := cell_go HB YX; replace YY := cell_go HB YY; replace YZ := cell_go HB YZ; replace Y0 := cell_go HB Y0; replace Y1 := cell_go HB Y1; replace Y2 := cell_go HB Y2; replace Y3 := cell_go HB Y3; replace Y4 := cell_go HB Y4; replace Yq := cell_go HB Yq; replace Yr := cell_go HB Yr; replace Ys := cell_go HB Ys; replace Yt := cell_go HB Yt; replace Yu := cell_go HB Yu; replace Yv := cell_go HB Yv; replace Yw := cell_go HB Yw; replace Yx := cell_go HB Yx; replace Yy := cell_go HB Yy; replace Yz := cell_go HB Yz; replace YA := cell_go HB YA; replace YB := cell_go HB YB; replace YC := cell_go HB YC; replace YD := cell_go HB YD; replace YE := cell_go HB YE; replace YF := cell_go HB YF; replace YG := cell_go HB YG; replace YH := cell_go HB YH; replace YI := cell_go HB YI; replace YJ := cell_go HB YJ; replace YK := cell_go HB YK; have ZO := mk0 Y6; have ZP := mk0 Y5; clear Y6 Y5; have Zy := mk0 YM; have Zz := mk0 YL; clear YM YL; have ZA := mk0 YO; have ZB := mk0 YN; clear YO YN; have ZC := mk0 YQ; have ZD := mk0 YP; clear YQ YP; have ZE := mk0 YS; have ZF := mk0 YR; clear YS YR; replace Zv := eq_true Zv; replace Zw := eq_true Zw))
 go_ret
 exact ⟨q_94, q_131⟩

end Go.Proofs.Ytjfienkbcacijaa.MFnTrees
