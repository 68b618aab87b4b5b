/- Functions of the program as Lean functions, and the proof that a call comes to just these: machine text of this session's own program (myprint.py). -/
import Derived.Test.YtjfienkbcacijaaMFnTreesx0
import Derived.Test.YtjfienkbcacijaaMFnTreesx2
import Derived.Test.YtjfienkbcacijaaMFnTreesx11
import Derived.Test.YtjfienkbcacijaaMFnTreesx12
namespace Go.Proofs.Ytjfienkbcacijaa.MFnTrees
open Go.RowKit Go.Proofs.YtjfienkbcacijaaW.PrintWords Go.Proofs.YtjfienkbcacijaaW.PrintLast Go.Proofs.YtjfienkbcacijaaW.PrintMore
attribute [local go_sem] max2_int min2_int max_two min_two max_three min_three max_four min_four   -- for this text's walks alone
set_option linter.unusedVariables false
set_option linter.unusedSimpArgs false

attribute [local go_sem high] eqA67
theorem z13_0 {P : Prop} (h : P := by repeat (first | (with_reducible first | exact HB.out | apply below_alloc | apply pw_below_drewN | apply below_drew1 | refine below_set ?_ YH.out) | exact HB.out)) : P := h
theorem z13_2 {P : Prop} (h : P := by repeat (first | exact (Kd.C_below Ys.out HB.out) | (with_reducible refine Kd.C_alloc ?_ _) | (with_reducible refine Kd.C_drewN ?_ _) | (with_reducible refine Kd.C_drew ?_))) : P := h
theorem z13_3 {P : Prop} (h : P := by repeat (first | exact (Kd.C_below YI.out HB.out) | (with_reducible refine Kd.C_alloc ?_ _) | (with_reducible refine Kd.C_drewN ?_ _) | (with_reducible refine Kd.C_drew ?_))) : P := h
/-! ### impl_NodeOk: function 40 -/
mutual
def impl_NodeOk.j0 : Nat → Bool → Int → Int → Bool → Int → Int → Int → Int → Int → Int → List Int → List (S29) → Bool → Int → List Int → Int → Int → Int → Int → Int → Int → Int → Int → Int → Int → Int → Int → Int → Int → Int → List Int → List (S29) → Option (Bool)
 | 0, _, _, _, _, _, _, _, _, _, _, _, _, _, _, _, _, _, _, _, _, _, _, _, _, _, _, _, _, _, _, _, _ => none
 | k + 1, x37, XZ, X0, XT, X1, X2, X3, X4, X5, X6, XU, XV, XW, XE, XF, XG, XH, XI, XJ, XK, XL, XM, XN, XO, XP, XQ, XR, XS, XX, XY, X7, X8 => if x37 = true then (some false) else ((impl_inRange.f XE 0 2048).bind fun Yt => (if Yt = true then ((impl_DashOk.f k XF).bind fun Yu => (if Yu = true then ((impl_isMode.f XX).bind fun Yv => (if Yv = true then ((impl_isByte.f XY).bind fun Yp => (impl_NodeOk.j1 k (!Yp) XZ X0 XT X1 X2 X3 X4 X5 X6 XU XV XW XE XF XG XH XI XJ XK XL XM XN XO XP XQ XR XS XX XY X7 X8)) else (impl_NodeOk.j1 k true XZ X0 XT X1 X2 X3 X4 X5 X6 XU XV XW XE XF XG XH XI XJ XK XL XM XN XO XP XQ XR XS XX XY X7 X8))) else (impl_NodeOk.j1 k true XZ X0 XT X1 X2 X3 X4 X5 X6 XU XV XW XE XF XG XH XI XJ XK XL XM XN XO XP XQ XR XS XX XY X7 X8))) else (impl_NodeOk.j1 k true XZ X0 XT X1 X2 X3 X4 X5 X6 XU XV XW XE XF XG XH XI XJ XK XL XM XN XO XP XQ XR XS XX XY X7 X8)))
def impl_NodeOk.j1 : Nat → Bool → Int → Int → Bool → Int → Int → Int → Int → Int → Int → List Int → List (S29) → Bool → Int → List Int → Int → Int → Int → Int → Int → Int → Int → Int → Int → Int → Int → Int → Int → Int → Int → List Int → List (S29) → Option (Bool)
 | 0, _, _, _, _, _, _, _, _, _, _, _, _, _, _, _, _, _, _, _, _, _, _, _, _, _, _, _, _, _, _, _, _ => none
 | k + 1, x59, XZ, X0, XT, X1, X2, X3, X4, X5, X6, XU, XV, XW, XE, XF, XG, XH, XI, XJ, XK, XL, XM, XN, XO, XP, XQ, XR, XS, XX, XY, X7, X8 => if x59 = true then (some false) else (if XT = true then (if (XG == 0 && ((XH == 0 && (XI == 0 && (XJ == 0 && (XK == 0)))) && ((XL == 0 && (XM == 0 && (XN == 0 && (XO == 0)))) && ((XP == 0 && (XQ == 0)) && ((XR == 0 && (XS == 0))))))) = true then ((impl_Path_isNone.f XU XV).bind fun Yw => (if Yw = true then (if XE = 0 then (if (XF.length : Int) = 0 then (some (!XW)) else (some false)) else (some false)) else (some false))) else (some false)) else ((impl_PaintOk.f XG XH XI XJ XK XL XM XN XO XP XQ XR XS).bind fun Yx => (some Yx)))
end
def impl_NodeOk.f (k : Nat) (a0_0 : Int) (a0_1 : Int) (a0_2 : Bool) (a0_3 : Int) (a0_4 : Int) (a0_5 : Int) (a0_6 : Int) (a0_7 : Int) (a0_8 : Int) (l0_9 : List Int) (l0_10 : List (S29)) (a0_11 : Bool) (a0_12 : Int) (l0_13 : List Int) (a0_14 : Int) (a0_15 : Int) (a0_16 : Int) (a0_17 : Int) (a0_18 : Int) (a0_19 : Int) (a0_20 : Int) (a0_21 : Int) (a0_22 : Int) (a0_23 : Int) (a0_24 : Int) (a0_25 : Int) (a0_26 : Int) (a0_27 : Int) (a0_28 : Int) (l0_29 : List Int) (l0_30 : List (S29)) : Option (Bool) := (impl_inRange.f a0_0 1 99).bind fun Yy => (if Yy = true then ((impl_inRange.f a0_1 0 99).bind fun Yz => (if Yz = true then (if a0_0 = a0_1 then (impl_NodeOk.j0 k true a0_0 a0_1 a0_2 a0_3 a0_4 a0_5 a0_6 a0_7 a0_8 l0_9 l0_10 a0_11 a0_12 l0_13 a0_14 a0_15 a0_16 a0_17 a0_18 a0_19 a0_20 a0_21 a0_22 a0_23 a0_24 a0_25 a0_26 a0_27 a0_28 l0_29 l0_30) else ((impl_MatOk.f k a0_3 a0_4 a0_5 a0_6 a0_7 a0_8).bind fun YA => (if YA = true then ((impl_PathOk.f k l0_9 l0_10).bind fun YB => (if YB = true then ((impl_PathOk.f k l0_29 l0_30).bind fun Yq => (impl_NodeOk.j0 k (!Yq) a0_0 a0_1 a0_2 a0_3 a0_4 a0_5 a0_6 a0_7 a0_8 l0_9 l0_10 a0_11 a0_12 l0_13 a0_14 a0_15 a0_16 a0_17 a0_18 a0_19 a0_20 a0_21 a0_22 a0_23 a0_24 a0_25 a0_26 a0_27 a0_28 l0_29 l0_30)) else (impl_NodeOk.j0 k true a0_0 a0_1 a0_2 a0_3 a0_4 a0_5 a0_6 a0_7 a0_8 l0_9 l0_10 a0_11 a0_12 l0_13 a0_14 a0_15 a0_16 a0_17 a0_18 a0_19 a0_20 a0_21 a0_22 a0_23 a0_24 a0_25 a0_26 a0_27 a0_28 l0_29 l0_30))) else (impl_NodeOk.j0 k true a0_0 a0_1 a0_2 a0_3 a0_4 a0_5 a0_6 a0_7 a0_8 l0_9 l0_10 a0_11 a0_12 l0_13 a0_14 a0_15 a0_16 a0_17 a0_18 a0_19 a0_20 a0_21 a0_22 a0_23 a0_24 a0_25 a0_26 a0_27 a0_28 l0_29 l0_30)))) else (impl_NodeOk.j0 k true a0_0 a0_1 a0_2 a0_3 a0_4 a0_5 a0_6 a0_7 a0_8 l0_9 l0_10 a0_11 a0_12 l0_13 a0_14 a0_15 a0_16 a0_17 a0_18 a0_19 a0_20 a0_21 a0_22 a0_23 a0_24 a0_25 a0_26 a0_27 a0_28 l0_29 l0_30))) else (impl_NodeOk.j0 k true a0_0 a0_1 a0_2 a0_3 a0_4 a0_5 a0_6 a0_7 a0_8 l0_9 l0_10 a0_11 a0_12 l0_13 a0_14 a0_15 a0_16 a0_17 a0_18 a0_19 a0_20 a0_21 a0_22 a0_23 a0_24 a0_25 a0_26 a0_27 a0_28 l0_29 l0_30))
theorem impl_NodeOk.mono_l : ∀ k, (∀ y0 y1 y2 y3 y4 y5 y6 y7 y8 y9 y10 y11 y12 y13 y14 y15 y16 y17 y18 y19 y20 y21 y22 y23 y24 y25 y26 y27 y28 y29 y30 y31, LeO (impl_NodeOk.j0 k y0 y1 y2 y3 y4 y5 y6 y7 y8 y9 y10 y11 y12 y13 y14 y15 y16 y17 y18 y19 y20 y21 y22 y23 y24 y25 y26 y27 y28 y29 y30 y31) (impl_NodeOk.j0 (k + 1) y0 y1 y2 y3 y4 y5 y6 y7 y8 y9 y10 y11 y12 y13 y14 y15 y16 y17 y18 y19 y20 y21 y22 y23 y24 y25 y26 y27 y28 y29 y30 y31)) ∧ (∀ y0 y1 y2 y3 y4 y5 y6 y7 y8 y9 y10 y11 y12 y13 y14 y15 y16 y17 y18 y19 y20 y21 y22 y23 y24 y25 y26 y27 y28 y29 y30 y31, LeO (impl_NodeOk.j1 k y0 y1 y2 y3 y4 y5 y6 y7 y8 y9 y10 y11 y12 y13 y14 y15 y16 y17 y18 y19 y20 y21 y22 y23 y24 y25 y26 y27 y28 y29 y30 y31) (impl_NodeOk.j1 (k + 1) y0 y1 y2 y3 y4 y5 y6 y7 y8 y9 y10 y11 y12 y13 y14 y15 y16 y17 y18 y19 y20 y21 y22 y23 y24 y25 y26 y27 y28 y29 y30 y31))
 | 0 => ⟨fun _ _ _ _ _ _ _ _ _ _ _ _ _ _ _ _ _ _ _ _ _ _ _ _ _ _ _ _ _ _ _ _ r h => by simp [impl_NodeOk.j0] at h, fun _ _ _ _ _ _ _ _ _ _ _ _ _ _ _ _ _ _ _ _ _ _ _ _ _ _ _ _ _ _ _ _ r h => by simp [impl_NodeOk.j1] at h⟩
 | k + 1 => by
  obtain ⟨ih0, ih1⟩ := impl_NodeOk.mono_l k
  refine ⟨?_, ?_⟩
  ·intro y0 y1 y2 y3 y4 y5 y6 y7 y8 y9 y10 y11 y12 y13 y14 y15 y16 y17 y18 y19 y20 y21 y22 y23 y24 y25 y26 y27 y28 y29 y30 y31
   unfold impl_NodeOk.j0
   with_reducible repeat' first | apply ih0 | apply ih1 | apply impl_DashOk.mono | apply impl_MatOk.mono | apply impl_PathOk.mono | exact LeO.refl _ | exact LeO.none _ | refine LeO.ite ?_ ?_ | refine LeO.bind ?_ (fun _ => ?_)
  ·intro y0 y1 y2 y3 y4 y5 y6 y7 y8 y9 y10 y11 y12 y13 y14 y15 y16 y17 y18 y19 y20 y21 y22 y23 y24 y25 y26 y27 y28 y29 y30 y31
   unfold impl_NodeOk.j1
   with_reducible repeat' first | apply ih0 | apply ih1 | apply impl_DashOk.mono | apply impl_MatOk.mono | apply impl_PathOk.mono | exact LeO.refl _ | exact LeO.none _ | refine LeO.ite ?_ ?_ | refine LeO.bind ?_ (fun _ => ?_)
theorem impl_NodeOk.mono : ∀ a0 a1 a2 a3 a4 a5 a6 a7 a8 a9 a10 a11 a12 a13 a14 a15 a16 a17 a18 a19 a20 a21 a22 a23 a24 a25 a26 a27 a28 a29 a30 k, LeO (impl_NodeOk.f k a0 a1 a2 a3 a4 a5 a6 a7 a8 a9 a10 a11 a12 a13 a14 a15 a16 a17 a18 a19 a20 a21 a22 a23 a24 a25 a26 a27 a28 a29 a30) (impl_NodeOk.f (k + 1) a0 a1 a2 a3 a4 a5 a6 a7 a8 a9 a10 a11 a12 a13 a14 a15 a16 a17 a18 a19 a20 a21 a22 a23 a24 a25 a26 a27 a28 a29 a30) := by
 intro a0 a1 a2 a3 a4 a5 a6 a7 a8 a9 a10 a11 a12 a13 a14 a15 a16 a17 a18 a19 a20 a21 a22 a23 a24 a25 a26 a27 a28 a29 a30 k; obtain ⟨ih0, ih1⟩ := impl_NodeOk.mono_l k
 unfold impl_NodeOk.f
 with_reducible repeat' first | apply ih0 | apply ih1 | apply impl_DashOk.mono | apply impl_MatOk.mono | apply impl_PathOk.mono | exact LeO.refl _ | exact LeO.none _ | refine LeO.ite ?_ ?_ | refine LeO.bind ?_ (fun _ => ?_)
set_option maxHeartbeats 8000000 in
set_option maxRecDepth 100000 in
theorem impl_NodeOk.calls (k : Nat) (a0_0 : Int) (a0_1 : Int) (a0_2 : Bool) (a0_3 : Int) (a0_4 : Int) (a0_5 : Int) (a0_6 : Int) (a0_7 : Int) (a0_8 : Int) (Yn : Option Addr) (Yo : Nat) (l0_9 : List Int) (Yc : Option Addr) (Yd : Nat) (l0_10 : List (S29)) (a0_11 : Bool) (a0_12 : Int) (Ye : Option Addr) (Yf : Nat) (l0_13 : List Int) (a0_14 : Int) (a0_15 : Int) (a0_16 : Int) (a0_17 : Int) (a0_18 : Int) (a0_19 : Int) (a0_20 : Int) (a0_21 : Int) (a0_22 : Int) (a0_23 : Int) (a0_24 : Int) (a0_25 : Int) (a0_26 : Int) (a0_27 : Int) (a0_28 : Int) (Yg : Option Addr) (Yh : Nat) (l0_29 : List Int) (Yi : Option Addr) (Yj : Nat) (l0_30 : List (S29)) (r : Bool) (w : World) (hr0_9 : Kd.C (Kd.int .i64) w Yn l0_9.length l0_9) (hc0_9 : l0_9.length ≤ Yo) (hr0_10 : Kd.C k29 w Yc l0_10.length l0_10) (hc0_10 : l0_10.length ≤ Yd) (hr0_13 : Kd.C (Kd.int .i64) w Ye l0_13.length l0_13) (hc0_13 : l0_13.length ≤ Yf) (hr0_29 : Kd.C (Kd.int .i64) w Yg l0_29.length l0_29) (hc0_29 : l0_29.length ≤ Yh) (hr0_30 : Kd.C k29 w Yi l0_30.length l0_30) (hc0_30 : l0_30.length ≤ Yj) (h : impl_NodeOk.f k a0_0 a0_1 a0_2 a0_3 a0_4 a0_5 a0_6 a0_7 a0_8 l0_9 l0_10 a0_11 a0_12 l0_13 a0_14 a0_15 a0_16 a0_17 a0_18 a0_19 a0_20 a0_21 a0_22 a0_23 a0_24 a0_25 a0_26 a0_27 a0_28 l0_29 l0_30 = some r) :
  Calls Try.prog 40 #[.agg #[.int .i64 a0_0, .int .i64 a0_1, .bool a0_2, .int .i64 a0_3, .int .i64 a0_4, .int .i64 a0_5, .int .i64 a0_6, .int .i64 a0_7, .int .i64 a0_8, .slice Yn l0_9.length Yo, .slice Yc l0_10.length Yd, .bool a0_11, .int .i64 a0_12, .slice Ye l0_13.length Yf, .int .i64 a0_14, .int .i64 a0_15, .int .i64 a0_16, .int .i64 a0_17, .int .i64 a0_18, .int .i64 a0_19, .int .i64 a0_20, .int .i64 a0_21, .int .i64 a0_22, .int .i64 a0_23, .int .i64 a0_24, .int .i64 a0_25, .int .i64 a0_26, .int .i64 a0_27, .int .i64 a0_28, .slice Yg l0_29.length Yh, .slice Yi l0_30.length Yj]] w fun e w' => e = .returned (.bool r) ∧ Below w.heap.size w w' := by
 have hu69 := Try.underlying69; have hu61 := Try.underlying61; have hu63 := Try.underlying63; have hu67 := Try.underlying67; have YI := mk0 hr0_9; have Ya := mk0 hc0_9; clear hr0_9 hc0_9; have Ys := mk0 hr0_10; have X9 := mk0 hc0_10; clear hr0_10 hc0_10; have Yk := mk0 hr0_13; have Yl := mk0 hc0_13; clear hr0_13 hc0_13; have YC := mk0 hr0_29; have YD := mk0 hc0_29; clear hr0_29 hc0_29; have YE := mk0 hr0_30; have YF := mk0 hc0_30; clear hr0_30 hc0_30; have HB := mk0 (Below.refl w.heap.size w)
 have H := h; unfold impl_NodeOk.f at H
 clear h; have HC2 := mk0 H; clear H; go_enter Try.func40, Try.ntmps40
 go_upto_region 1 with (first | ((with_reducible refine gate_dst (N := 1) rfl ?_); (try (refine gate_guard (by rfl) ?_; dsimp only)); refine boxz (cs := #[.int .i64 a0_0, .int .i64 a0_1, .bool a0_2, .int .i64 a0_3, .int .i64 a0_4, .int .i64 a0_5, .int .i64 a0_6, .int .i64 a0_7, .int .i64 a0_8, .slice Yn l0_9.length Yo, .slice Yc l0_10.length Yd, .bool a0_11, .int .i64 a0_12, .slice Ye l0_13.length Yf, .int .i64 a0_14, .int .i64 a0_15, .int .i64 a0_16, .int .i64 a0_17, .int .i64 a0_18, .int .i64 a0_19, .int .i64 a0_20, .int .i64 a0_21, .int .i64 a0_22, .int .i64 a0_23, .int .i64 a0_24, .int .i64 a0_25, .int .i64 a0_26, .int .i64 a0_27, .int .i64 a0_28, .slice Yg l0_29.length Yh, .slice Yi l0_30.length Yj]) (t := 69) rfl ?_; intro Yr hg w3 hbox hb; have YJ := mk0 (ge_go (a := w.heap.size) hg (below_size q_162)); have YH := YJ; replace HB := bS q_162 hb; have XD := mk0 (hbox); clear hb hbox hg))
 (try simp only [Act.put, List.setIfInBounds_toArray, List.set_cons_zero, List.set_cons_succ])
 go_cut [37] (fun v37 wc => ∃ (kq : Nat) (Ym : Bool), v37 = .bool Ym ∧ Aside0 (impl_NodeOk.j0 kq Ym a0_0 a0_1 a0_2 a0_3 a0_4 a0_5 a0_6 a0_7 a0_8 l0_9 l0_10 a0_11 a0_12 l0_13 a0_14 a0_15 a0_16 a0_17 a0_18 a0_19 a0_20 a0_21 a0_22 a0_23 a0_24 a0_25 a0_26 a0_27 a0_28 l0_29 l0_30 = some r) ∧ Aside0 (kq ≤ k) ∧ Aside0 (wc.heap[Yr]? = some (.cells #[.int .i64 a0_0, .int .i64 a0_1, .bool a0_2, .int .i64 a0_3, .int .i64 a0_4, .int .i64 a0_5, .int .i64 a0_6, .int .i64 a0_7, .int .i64 a0_8, (.slice Yn l0_9.length Yo), (.slice Yc l0_10.length Yd), .bool a0_11, .int .i64 a0_12, (.slice Ye l0_13.length Yf), .int .i64 a0_14, .int .i64 a0_15, .int .i64 a0_16, .int .i64 a0_17, .int .i64 a0_18, .int .i64 a0_19, .int .i64 a0_20, .int .i64 a0_21, .int .i64 a0_22, .int .i64 a0_23, .int .i64 a0_24, .int .i64 a0_25, .int .i64 a0_26, .int .i64 a0_27, .int .i64 a0_28, (.slice Yg l0_29.length Yh), (.slice Yi l0_30.length Yj)] 69 (0, 0))) ∧ Aside0 (Below w.heap.size w wc))
 case first =>
  have H := HC2.out; clear HC2; obtain ⟨Yy, A4, H⟩ := bnd H
  try dsimp only at H
  by_cases c5 : Yy = true
  rotate_left
  ·replace c5 := Bool.eq_false_iff.mpr c5; subst c5; rw [if_neg (show ¬ (false = true) by decide)] at H
   have H' := mk0 H
   clear H; refine bc_31 XD.out ?_; intros
   go_wp2_with (first | ((with_reducible refine gate_callee (f := 48) rfl ?_); refine gl_ (some 5) Try.func48 #[.int .i64 a0_0, .int .i64 1, .int .i64 99] rfl q_1 ?_; (with_reducible refine (impl_inRange.calls a0_0 1 99 false _ A4.out).mono ?_); rintro e w' ⟨rfl, ⟨nd, rfl⟩⟩; refine ⟨_, rfl, ?_⟩))
   go_meet
   case rel => exact ⟨_, (true), rs0, H', ⟨(by first | omega | exact Nat.le_refl _)⟩, ⟨pkb XD⟩, ⟨z13_0⟩⟩
  subst c5; rw [if_pos rfl] at H; obtain ⟨Yz, A6, H⟩ := bnd H
  try dsimp only at H
  by_cases c7 : Yz = true
  rotate_left
  ·replace c7 := Bool.eq_false_iff.mpr c7; subst c7; rw [if_neg (show ¬ (false = true) by decide)] at H
   have H' := mk0 H
   clear H; refine bc_31 XD.out ?_; intros
   go_wp2_with (first | ((with_reducible refine gate_callee (f := 48) rfl ?_); refine gl_ (some 5) Try.func48 #[.int .i64 a0_0, .int .i64 1, .int .i64 99] rfl q_1 ?_; (with_reducible refine (impl_inRange.calls a0_0 1 99 true _ A4.out).mono ?_); rintro e w' ⟨rfl, ⟨nd, rfl⟩⟩; refine ⟨_, rfl, ?_⟩) | (go_at_call 48; (with_reducible refine (impl_inRange.calls a0_1 0 99 false _ A6.out).mono ?_); rintro e w' ⟨rfl, ⟨nd, rfl⟩⟩))
   go_meet
   case rel => exact ⟨_, (true), rs0, H', ⟨(by first | omega | exact Nat.le_refl _)⟩, ⟨pkb XD⟩, ⟨z13_0⟩⟩
  subst c7; rw [if_pos rfl] at H
  by_cases c8 : a0_0 = a0_1
  ·rw [if_pos c8] at H
   have c8b0 : (a0_0 == a0_1) = true := beq_iff_eq.mpr c8
   have c8b1 : (a0_0 != a0_1) = false := bne_eq_false_iff_eq.mpr c8
   clear c8
   (first | rw [c8b0] | (simp only [i64_w, i32_w]; rw [c8b0]) | skip)
   have H' := mk0 H
   clear H; refine bc_31 XD.out ?_; intros
   go_wp2_with (first | ((with_reducible refine gate_callee (f := 48) rfl ?_); refine gl_ (some 5) Try.func48 #[.int .i64 a0_0, .int .i64 1, .int .i64 99] rfl q_1 ?_; (with_reducible refine (impl_inRange.calls a0_0 1 99 true _ A4.out).mono ?_); rintro e w' ⟨rfl, ⟨nd, rfl⟩⟩; refine ⟨_, rfl, ?_⟩) | (go_at_call 48; (with_reducible refine (impl_inRange.calls a0_1 0 99 true _ A6.out).mono ?_); rintro e w' ⟨rfl, ⟨nd, rfl⟩⟩))
   go_meet
   case rel => exact ⟨_, (true), rs0, H', ⟨(by first | omega | exact Nat.le_refl _)⟩, ⟨pkb XD⟩, ⟨z13_0⟩⟩
  rw [if_neg c8] at H
  have c8b0 : (a0_0 == a0_1) = false := beq_eq_false_iff_ne.mpr c8
  have c8b1 : (a0_0 != a0_1) = true := bne_iff_ne.mpr c8
  (first | rw [c8b0] | (simp only [i64_w, i32_w]; rw [c8b0]) | skip)
  obtain ⟨YA, A10, H⟩ := bnd H
  try dsimp only at H
  by_cases c11 : YA = true
  rotate_left
  ·replace c11 := Bool.eq_false_iff.mpr c11; subst c11; rw [if_neg (show ¬ (false = true) by decide)] at H
   have H' := mk0 H
   clear H; refine bc_31 XD.out ?_; intros
   go_wp2_with (first | ((with_reducible refine gate_callee (f := 48) rfl ?_); refine gl_ (some 5) Try.func48 #[.int .i64 a0_0, .int .i64 1, .int .i64 99] rfl q_1 ?_; (with_reducible refine (impl_inRange.calls a0_0 1 99 true _ A4.out).mono ?_); rintro e w' ⟨rfl, ⟨nd, rfl⟩⟩; refine ⟨_, rfl, ?_⟩) | (go_at_call 48; (with_reducible refine (impl_inRange.calls a0_1 0 99 true _ A6.out).mono ?_); rintro e w' ⟨rfl, ⟨nd, rfl⟩⟩) | (go_at_call 75; (with_reducible refine (impl_MatOk.calls k a0_3 a0_4 a0_5 a0_6 a0_7 a0_8 false _ A10.out).mono ?_); rintro e w26 ⟨rfl, hb⟩; replace XD := bB XD hb; replace HB := bS z13_0 hb; clear hb))
   go_meet
   case rel => exact ⟨_, (true), rs0, H', ⟨(by first | omega | exact Nat.le_refl _)⟩, ⟨pkb XD⟩, ⟨z13_0⟩⟩
  subst c11; rw [if_pos rfl] at H; obtain ⟨YB, A12, H⟩ := bnd H
  try dsimp only at H
  by_cases c13 : YB = true
  rotate_left
  ·replace c13 := Bool.eq_false_iff.mpr c13; subst c13; rw [if_neg (show ¬ (false = true) by decide)] at H
   have H' := mk0 H
   clear H; refine bc_31 XD.out ?_; intros
   go_wp2_with (first | ((with_reducible refine gate_callee (f := 48) rfl ?_); refine gl_ (some 5) Try.func48 #[.int .i64 a0_0, .int .i64 1, .int .i64 99] rfl q_1 ?_; (with_reducible refine (impl_inRange.calls a0_0 1 99 true _ A4.out).mono ?_); rintro e w' ⟨rfl, ⟨nd, rfl⟩⟩; refine ⟨_, rfl, ?_⟩) | (go_at_call 48; (with_reducible refine (impl_inRange.calls a0_1 0 99 true _ A6.out).mono ?_); rintro e w' ⟨rfl, ⟨nd, rfl⟩⟩) | (go_at_call 75; (with_reducible refine (impl_MatOk.calls k a0_3 a0_4 a0_5 a0_6 a0_7 a0_8 true _ A10.out).mono ?_); rintro e w22 ⟨rfl, hb⟩; replace XD := bB XD hb; replace HB := bS z13_0 hb; clear hb; refine bc_31 XD.out ?_; intros) | (go_at_call 76; (with_reducible refine (impl_PathOk.calls k _ _ l0_9 _ _ l0_10 false _ ?side1 ?side2 ?side3 ?side4 A12.out).mono ?_); (case side1 => exact z13_3); (case side2 => exact Ya.out); (case side3 => exact z13_2); (case side4 => exact X9.out); rintro e w24 ⟨rfl, hb⟩; replace XD := bB XD hb; replace HB := bS z13_0 hb; clear hb))
   go_meet
   case rel => exact ⟨_, (true), rs0, H', ⟨(by first | omega | exact Nat.le_refl _)⟩, ⟨pkb XD⟩, ⟨z13_0⟩⟩
  subst c13; rw [if_pos rfl] at H; obtain ⟨Yq, A14, H⟩ := bnd H
  try dsimp only at H
  have H' := mk0 H
  clear H; refine bc_31 XD.out ?_; intros
  go_wp2_with (first | ((with_reducible refine gate_callee (f := 48) rfl ?_); refine gl_ (some 5) Try.func48 #[.int .i64 a0_0, .int .i64 1, .int .i64 99] rfl q_1 ?_; (with_reducible refine (impl_inRange.calls a0_0 1 99 true _ A4.out).mono ?_); rintro e w' ⟨rfl, ⟨nd, rfl⟩⟩; refine ⟨_, rfl, ?_⟩) | (go_at_call 48; (with_reducible refine (impl_inRange.calls a0_1 0 99 true _ A6.out).mono ?_); rintro e w' ⟨rfl, ⟨nd, rfl⟩⟩) | (go_at_call 75; (with_reducible refine (impl_MatOk.calls k a0_3 a0_4 a0_5 a0_6 a0_7 a0_8 true _ A10.out).mono ?_); rintro e w16 ⟨rfl, hb⟩; replace XD := bB XD hb; replace HB := bS z13_0 hb; clear hb; refine bc_31 XD.out ?_; intros) | (go_at_call 76; (with_reducible refine (impl_PathOk.calls k _ _ l0_9 _ _ l0_10 true _ ?side1 ?side2 ?side3 ?side4 A12.out).mono ?_); (case side1 => exact z13_3); (case side2 => exact Ya.out); (case side3 => exact z13_2); (case side4 => exact X9.out); rintro e w18 ⟨rfl, hb⟩; replace XD := bB XD hb; replace HB := bS z13_0 hb; clear hb; refine bc_31 XD.out ?_; intros) | (go_at_call 76; (with_reducible refine (impl_PathOk.calls k _ _ l0_29 _ _ l0_30 Yq _ ?side1 ?side2 ?side3 ?side4 A14.out).mono ?_); (case side1 => repeat (first | exact (Kd.C_below YC.out HB.out) | (with_reducible refine Kd.C_alloc ?_ _) | (with_reducible refine Kd.C_drewN ?_ _) | (with_reducible refine Kd.C_drew ?_))); (case side2 => exact YD.out); (case side3 => repeat (first | exact (Kd.C_below YE.out HB.out) | (with_reducible refine Kd.C_alloc ?_ _) | (with_reducible refine Kd.C_drewN ?_ _) | (with_reducible refine Kd.C_drew ?_))); (case side4 => exact YF.out); rintro e w20 ⟨rfl, hb⟩; replace XD := bB XD hb; replace HB := bS z13_0 hb; clear hb))
  go_meet
  case rel => exact ⟨_, (!Yq), rs0, H', ⟨(by first | omega | exact Nat.le_refl _)⟩, ⟨pkb XD⟩, ⟨z13_0⟩⟩
 case rest =>
  clear HC2; try clear c1
  obtain ⟨kq, Ym, rfl, HA, HJ1, XD, HB⟩ := hcut
  cases kq with
  | zero => exact absurd HA.out (by simp [impl_NodeOk.j0])
  | succ kj1 =>
   have H := HA.out; clear HA; simp only [impl_NodeOk.j0] at H
   by_cases c29 : Ym = true
   ·subst c29; rw [if_pos rfl] at H
    obtain rfl := Option.some.inj H
    simp only [Option.some.injEq, Prod.mk.injEq] at H; obtain ⟨rfl⟩ := H
    go_wp2
    go_ret
    exact ⟨q_94, z13_0⟩
   replace c29 := Bool.eq_false_iff.mpr c29; subst c29; rw [if_neg (show ¬ (false = true) by decide)] at H
   have YG := mk0 H; clear H
   go_upto_region 3 with (fail)
   go_cut [59] (fun v59 wc => ∃ (kq : Nat) (Yb : Bool), v59 = .bool Yb ∧ Aside0 (impl_NodeOk.j1 kq Yb a0_0 a0_1 a0_2 a0_3 a0_4 a0_5 a0_6 a0_7 a0_8 l0_9 l0_10 a0_11 a0_12 l0_13 a0_14 a0_15 a0_16 a0_17 a0_18 a0_19 a0_20 a0_21 a0_22 a0_23 a0_24 a0_25 a0_26 a0_27 a0_28 l0_29 l0_30 = some r) ∧ Aside0 (kq ≤ kj1) ∧ Aside0 (wc.heap[Yr]? = some (.cells #[.int .i64 a0_0, .int .i64 a0_1, .bool a0_2, .int .i64 a0_3, .int .i64 a0_4, .int .i64 a0_5, .int .i64 a0_6, .int .i64 a0_7, .int .i64 a0_8, (.slice Yn l0_9.length Yo), (.slice Yc l0_10.length Yd), .bool a0_11, .int .i64 a0_12, (.slice Ye l0_13.length Yf), .int .i64 a0_14, .int .i64 a0_15, .int .i64 a0_16, .int .i64 a0_17, .int .i64 a0_18, .int .i64 a0_19, .int .i64 a0_20, .int .i64 a0_21, .int .i64 a0_22, .int .i64 a0_23, .int .i64 a0_24, .int .i64 a0_25, .int .i64 a0_26, .int .i64 a0_27, .int .i64 a0_28, (.slice Yg l0_29.length Yh), (.slice Yi l0_30.length Yj)] 69 (0, 0))) ∧ Aside0 (Below w.heap.size w wc))
   case first =>
    have H := YG.out; clear YG; obtain ⟨Yt, A31, H⟩ := bnd H
    try dsimp only at H
    by_cases c32 : Yt = true
    rotate_left
    ·replace c32 := Bool.eq_false_iff.mpr c32; subst c32; rw [if_neg (show ¬ (false = true) by decide)] at H
     have H' := mk0 H
     clear H; refine bc_31 XD.out ?_; intros
     go_wp2_with (first | ((with_reducible refine gate_callee (f := 48) rfl ?_); refine gl_ (some 40) Try.func48 #[.int .i64 a0_12, .int .i64 0, .int .i64 2048] rfl q_1 ?_; (with_reducible refine (impl_inRange.calls a0_12 0 2048 false _ A31.out).mono ?_); rintro e w' ⟨rfl, ⟨nd, rfl⟩⟩; refine ⟨_, rfl, ?_⟩))
     go_meet
     case rel => exact ⟨_, (true), rs0, H', ⟨(by have := HJ1.out; first | omega | exact Nat.le_refl _)⟩, ⟨pkb XD⟩, ⟨z13_0⟩⟩
    subst c32; rw [if_pos rfl] at H; obtain ⟨Yu, A33, H⟩ := bnd H
    try dsimp only at H
    by_cases c34 : Yu = true
    rotate_left
    ·replace c34 := Bool.eq_false_iff.mpr c34; subst c34; rw [if_neg (show ¬ (false = true) by decide)] at H
     have H' := mk0 H
     clear H; refine bc_31 XD.out ?_; intros
     go_wp2_with (first | ((with_reducible refine gate_callee (f := 48) rfl ?_); refine gl_ (some 40) Try.func48 #[.int .i64 a0_12, .int .i64 0, .int .i64 2048] rfl q_1 ?_; (with_reducible refine (impl_inRange.calls a0_12 0 2048 true _ A31.out).mono ?_); rintro e w' ⟨rfl, ⟨nd, rfl⟩⟩; refine ⟨_, rfl, ?_⟩) | (go_at_call 12; (with_reducible refine (impl_DashOk.calls kj1 _ _ l0_13 false _ ?side1 ?side2 A33.out).mono ?_); (case side1 => repeat (first | exact (Kd.C_below Yk.out z13_0) | (with_reducible refine Kd.C_alloc ?_ _) | (with_reducible refine Kd.C_drewN ?_ _) | (with_reducible refine Kd.C_drew ?_))); (case side2 => exact Yl.out); rintro e w' ⟨rfl, ⟨nd, rfl⟩⟩))
     go_meet
     case rel => exact ⟨_, (true), rs0, H', ⟨(by have := HJ1.out; first | omega | exact Nat.le_refl _)⟩, ⟨pkb XD⟩, ⟨z13_0⟩⟩
    subst c34; rw [if_pos rfl] at H; obtain ⟨Yv, A35, H⟩ := bnd H
    try dsimp only at H
    by_cases c36 : Yv = true
    rotate_left
    ·replace c36 := Bool.eq_false_iff.mpr c36; subst c36; rw [if_neg (show ¬ (false = true) by decide)] at H
     have H' := mk0 H
     clear H; refine bc_31 XD.out ?_; intros
     go_wp2_with (first | ((with_reducible refine gate_callee (f := 48) rfl ?_); refine gl_ (some 40) Try.func48 #[.int .i64 a0_12, .int .i64 0, .int .i64 2048] rfl q_1 ?_; (with_reducible refine (impl_inRange.calls a0_12 0 2048 true _ A31.out).mono ?_); rintro e w' ⟨rfl, ⟨nd, rfl⟩⟩; refine ⟨_, rfl, ?_⟩) | (go_at_call 12; (with_reducible refine (impl_DashOk.calls kj1 _ _ l0_13 true _ ?side1 ?side2 A33.out).mono ?_); (case side1 => repeat (first | exact (Kd.C_below Yk.out z13_0) | (with_reducible refine Kd.C_alloc ?_ _) | (with_reducible refine Kd.C_drewN ?_ _) | (with_reducible refine Kd.C_drew ?_))); (case side2 => exact Yl.out); rintro e w' ⟨rfl, ⟨nd, rfl⟩⟩) | (go_at_call 77; (with_reducible refine (impl_isMode.calls a0_27 false _ A35.out).mono ?_); rintro e w' ⟨rfl, ⟨nd, rfl⟩⟩))
     go_meet
     case rel => exact ⟨_, (true), rs0, H', ⟨(by have := HJ1.out; first | omega | exact Nat.le_refl _)⟩, ⟨pkb XD⟩, ⟨z13_0⟩⟩
    subst c36; rw [if_pos rfl] at H; obtain ⟨Yp, A37, H⟩ := bnd H
    try dsimp only at H
    have H' := mk0 H
    clear H; refine bc_31 XD.out ?_; intros
    go_wp2_with (first | ((with_reducible refine gate_callee (f := 48) rfl ?_); refine gl_ (some 40) Try.func48 #[.int .i64 a0_12, .int .i64 0, .int .i64 2048] rfl q_1 ?_; (with_reducible refine (impl_inRange.calls a0_12 0 2048 true _ A31.out).mono ?_); rintro e w' ⟨rfl, ⟨nd, rfl⟩⟩; refine ⟨_, rfl, ?_⟩) | (go_at_call 12; (with_reducible refine (impl_DashOk.calls kj1 _ _ l0_13 true _ ?side1 ?side2 A33.out).mono ?_); (case side1 => repeat (first | exact (Kd.C_below Yk.out z13_0) | (with_reducible refine Kd.C_alloc ?_ _) | (with_reducible refine Kd.C_drewN ?_ _) | (with_reducible refine Kd.C_drew ?_))); (case side2 => exact Yl.out); rintro e w' ⟨rfl, ⟨nd, rfl⟩⟩) | (go_at_call 77; (with_reducible refine (impl_isMode.calls a0_27 true _ A35.out).mono ?_); rintro e w' ⟨rfl, ⟨nd, rfl⟩⟩) | (go_at_call 78; (with_reducible refine (impl_isByte.calls a0_28 Yp _ A37.out).mono ?_); rintro e w' ⟨rfl, ⟨nd, rfl⟩⟩))
    go_meet
    case rel => exact ⟨_, (!Yp), rs0, H', ⟨(by have := HJ1.out; first | omega | exact Nat.le_refl _)⟩, ⟨pkb XD⟩, ⟨z13_0⟩⟩
   case rest =>
    clear YG; try clear c2
    (try clear c29); obtain ⟨kq, Yb, rfl, HA, YK, XD, HB⟩ := hcut
    cases kq with
    | zero => exact absurd HA.out (by simp [impl_NodeOk.j1])
    | succ kj29 =>
     have H := HA.out; clear HA; simp only [impl_NodeOk.j1] at H
     by_cases c42 : Yb = true
     ·subst c42; rw [if_pos rfl] at H
      obtain rfl := Option.some.inj H
      simp only [Option.some.injEq, Prod.mk.injEq] at H; obtain ⟨rfl⟩ := H
      go_wp2
      go_ret
      exact ⟨q_94, z13_0⟩
     replace c42 := Bool.eq_false_iff.mpr c42; subst c42; rw [if_neg (show ¬ (false = true) by decide)] at H
     by_cases c43 : a0_2 = true
     rotate_left
     ·replace c43 := Bool.eq_false_iff.mpr c43; subst c43; rw [if_neg (show ¬ (false = true) by decide)] at H
      obtain ⟨Yx, A61, H⟩ := bnd H
      try dsimp only at H
      obtain rfl := Option.some.inj H
      simp only [Option.some.injEq, Prod.mk.injEq] at H; obtain ⟨rfl⟩ := H
      refine bc_31 XD.out ?_; intros
      go_wp2_with (first | ((with_reducible refine gate_callee (f := 80) rfl ?_); refine gl_ (some 89) Try.func80 #[.agg #[.int .i64 a0_14, .int .i64 a0_15, .int .i64 a0_16, .int .i64 a0_17, .int .i64 a0_18, .int .i64 a0_19, .int .i64 a0_20, .int .i64 a0_21, .int .i64 a0_22, .int .i64 a0_23, .int .i64 a0_24, .int .i64 a0_25, .int .i64 a0_26]] rfl q_1 ?_; (with_reducible refine (impl_PaintOk.calls a0_14 a0_15 a0_16 a0_17 a0_18 a0_19 a0_20 a0_21 a0_22 a0_23 a0_24 a0_25 a0_26 Yx _ A61.out).mono ?_); rintro e w63 ⟨rfl, hb⟩; refine ⟨_, rfl, ?_⟩; replace XD := bB XD hb; replace HB := bS z13_0 hb; clear hb))
      go_ret
      exact ⟨q_94, z13_0⟩
     subst c43; rw [if_pos rfl] at H
     by_cases c44 : (a0_14 == 0 && ((a0_15 == 0 && (a0_16 == 0 && (a0_17 == 0 && (a0_18 == 0)))) && ((a0_19 == 0 && (a0_20 == 0 && (a0_21 == 0 && (a0_22 == 0)))) && ((a0_23 == 0 && (a0_24 == 0)) && ((a0_25 == 0 && (a0_26 == 0))))))) = true
     rotate_left
     ·rw [if_neg c44] at H
      have c44b0 : (a0_14 == 0 && ((a0_15 == 0 && (a0_16 == 0 && (a0_17 == 0 && (a0_18 == 0)))) && ((a0_19 == 0 && (a0_20 == 0 && (a0_21 == 0 && (a0_22 == 0)))) && ((a0_23 == 0 && (a0_24 == 0)) && ((a0_25 == 0 && (a0_26 == 0))))))) = false := by simpa using c44
      (try (have c44b1 : decide (a0_14 = 0 && ((a0_15 == 0 && (a0_16 == 0 && (a0_17 == 0 && (a0_18 == 0)))) && ((a0_19 == 0 && (a0_20 == 0 && (a0_21 == 0 && (a0_22 == 0)))) && ((a0_23 == 0 && (a0_24 == 0)) && ((a0_25 == 0 && (a0_26 == 0))))))) = false := by simpa using c44))
      (try (have c44b2 : (a0_14 == 0 && ((a0_15 == 0 && (a0_16 == 0 && (a0_17 == 0 && (a0_18 == 0)))) && ((a0_19 == 0 && (a0_20 == 0 && (a0_21 == 0 && (a0_22 == 0)))) && ((a0_23 == 0 && (a0_24 == 0)) && ((a0_25 == 0 && (a0_26 == 0))))))) = false := by simpa using c44))
      (try (have c44b3 : ¬ (a0_14 = 0 && ((a0_15 == 0 && (a0_16 == 0 && (a0_17 == 0 && (a0_18 == 0)))) && ((a0_19 == 0 && (a0_20 == 0 && (a0_21 == 0 && (a0_22 == 0)))) && ((a0_23 == 0 && (a0_24 == 0)) && ((a0_25 == 0 && (a0_26 == 0))))))) := by simpa using c44))
      clear c44
      obtain rfl := Option.some.inj H
      simp only [Option.some.injEq, Prod.mk.injEq] at H; obtain ⟨rfl⟩ := H
      refine bc_31 XD.out ?_; intros
      go_wp2
      go_ret
      exact ⟨q_94, z13_0⟩
     rw [if_pos c44] at H
     have c44b0 : (a0_14 == 0 && ((a0_15 == 0 && (a0_16 == 0 && (a0_17 == 0 && (a0_18 == 0)))) && ((a0_19 == 0 && (a0_20 == 0 && (a0_21 == 0 && (a0_22 == 0)))) && ((a0_23 == 0 && (a0_24 == 0)) && ((a0_25 == 0 && (a0_26 == 0))))))) = true := c44
     (try (have c44b1 : decide (a0_14 = 0 && ((a0_15 == 0 && (a0_16 == 0 && (a0_17 == 0 && (a0_18 == 0)))) && ((a0_19 == 0 && (a0_20 == 0 && (a0_21 == 0 && (a0_22 == 0)))) && ((a0_23 == 0 && (a0_24 == 0)) && ((a0_25 == 0 && (a0_26 == 0))))))) = true := by simpa using c44))
     (try (have c44b2 : (a0_14 == 0 && ((a0_15 == 0 && (a0_16 == 0 && (a0_17 == 0 && (a0_18 == 0)))) && ((a0_19 == 0 && (a0_20 == 0 && (a0_21 == 0 && (a0_22 == 0)))) && ((a0_23 == 0 && (a0_24 == 0)) && ((a0_25 == 0 && (a0_26 == 0))))))) = true := by simpa using c44))
     clear c44; obtain ⟨Yw, A45, H⟩ := bnd H
     try dsimp only at H
     by_cases c46 : Yw = true
     rotate_left
     ·replace c46 := Bool.eq_false_iff.mpr c46; subst c46; rw [if_neg (show ¬ (false = true) by decide)] at H
      obtain rfl := Option.some.inj H
      simp only [Option.some.injEq, Prod.mk.injEq] at H; obtain ⟨rfl⟩ := H
      refine bc_31 XD.out ?_; intros
      go_wp2_with (first | (go_at_call 79; (with_reducible refine (impl_Path_isNone.calls _ _ l0_9 _ _ l0_10 false _ ?side1 ?side2 ?side3 ?side4 A45.out).mono ?_); (case side1 => exact z13_3); (case side2 => exact Ya.out); (case side3 => exact z13_2); (case side4 => exact X9.out); rintro e w59 ⟨rfl, hb⟩; replace XD := bB XD hb; replace HB := bS z13_0 hb; clear hb))
      go_ret
      exact ⟨q_94, z13_0⟩
     subst c46; rw [if_pos rfl] at H
     by_cases c47 : a0_12 = 0
     rotate_left
     ·rw [if_neg c47] at H
      have c47b0 : (a0_12 == 0) = false := beq_eq_false_iff_ne.mpr c47
      have c47b1 : (a0_12 != 0) = true := bne_iff_ne.mpr c47
      obtain rfl := Option.some.inj H
      simp only [Option.some.injEq, Prod.mk.injEq] at H; obtain ⟨rfl⟩ := H
      refine bc_31 XD.out ?_; intros
      go_wp2_with (first | (go_at_call 79; (with_reducible refine (impl_Path_isNone.calls _ _ l0_9 _ _ l0_10 true _ ?side1 ?side2 ?side3 ?side4 A45.out).mono ?_); (case side1 => exact z13_3); (case side2 => exact Ya.out); (case side3 => exact z13_2); (case side4 => exact X9.out); rintro e w56 ⟨rfl, hb⟩; replace XD := bB XD hb; replace HB := bS z13_0 hb; clear hb; refine bc_31 XD.out ?_; intros))
      go_ret
      exact ⟨q_94, z13_0⟩
     rw [if_pos c47] at H
     have c47b0 : (a0_12 == 0) = true := beq_iff_eq.mpr c47
     have c47b1 : (a0_12 != 0) = false := bne_eq_false_iff_eq.mpr c47
     clear c47
     by_cases c48 : (l0_13.length : Int) = 0
     ·rw [if_pos c48] at H
      have c48b0 : ((l0_13.length : Int) == 0) = true := beq_iff_eq.mpr c48
      have c48b1 : ((l0_13.length : Int) != 0) = false := bne_eq_false_iff_eq.mpr c48
      clear c48
      obtain rfl := Option.some.inj H
      simp only [Option.some.injEq, Prod.mk.injEq] at H; obtain ⟨rfl⟩ := H
      refine bc_31 XD.out ?_; intros
      go_wp2_with (first | (go_at_call 79; (with_reducible refine (impl_Path_isNone.calls _ _ l0_9 _ _ l0_10 true _ ?side1 ?side2 ?side3 ?side4 A45.out).mono ?_); (case side1 => exact z13_3); (case side2 => exact Ya.out); (case side3 => exact z13_2); (case side4 => exact X9.out); rintro e w50 ⟨rfl, hb⟩; replace XD := bB XD hb; replace HB := bS z13_0 hb; clear hb; refine bc_31 XD.out ?_; intros))
      go_ret
      exact ⟨q_94, z13_0⟩
     rw [if_neg c48] at H
     have c48b0 : ((l0_13.length : Int) == 0) = false := beq_eq_false_iff_ne.mpr c48
     have c48b1 : ((l0_13.length : Int) != 0) = true := bne_iff_ne.mpr c48
     have c48b2 : ¬ (l0_13 = []) := fun h_ => c48 (by rw [h_]; rfl)
     obtain rfl := Option.some.inj H
     simp only [Option.some.injEq, Prod.mk.injEq] at H; obtain ⟨rfl⟩ := H
     refine bc_31 XD.out ?_; intros
     go_wp2_with (first | (go_at_call 79; (with_reducible refine (impl_Path_isNone.calls _ _ l0_9 _ _ l0_10 true _ ?side1 ?side2 ?side3 ?side4 A45.out).mono ?_); (case side1 => exact z13_3); (case side2 => exact Ya.out); (case side3 => exact z13_2); (case side4 => exact X9.out); rintro e w53 ⟨rfl, hb⟩; replace XD := bB XD hb; replace HB := bS z13_0 hb; clear hb; refine bc_31 XD.out ?_; intros))
     go_ret
     exact ⟨q_94, z13_0⟩

end Go.Proofs.Ytjfienkbcacijaa.MFnTrees
