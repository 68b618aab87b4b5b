/- Functions of the program as Lean functions, and the proof that a call comes to just these: machine text of this session's own program (myprint.py). -/
import Derived.Test.YtjfienkbcacijaaMFnTreesx0
import Derived.Test.YtjfienkbcacijaaMFnTreesx3
import Derived.Test.YtjfienkbcacijaaMFnTreesx4
namespace Go.Proofs.Ytjfienkbcacijaa.MFnTrees
open Go.RowKit Go.Proofs.YtjfienkbcacijaaW.PrintWords Go.Proofs.YtjfienkbcacijaaW.PrintLast Go.Proofs.YtjfienkbcacijaaW.PrintMore
attribute [local go_sem] max2_int min2_int max_two min_two max_three min_three max_four min_four   -- for this text's walks alone
set_option linter.unusedVariables false
set_option linter.unusedSimpArgs false

theorem z5_0 {P : Prop} (h : P := by (with_reducible repeat (first | refine blk_drewN ?_ _ | refine blk_drew ?_ | refine blk_alloc ?_ _ | refine blk_far ?_ XK.out _)); exact XE.out) : P := h
theorem z5_1 {P : Prop} (h : P := by (with_reducible repeat (first | apply Kd.R_alloc | apply Kd.R_drewN | apply Kd.R_drew)); exact (Kd.R_mono (Kd.R_far (p := ⟨XF, 30, none⟩) (Kd.R_far (p := ⟨XF, 29, none⟩) (Kd.R_far (p := ⟨XF, 28, none⟩) (Kd.R_far (p := ⟨XF, 27, none⟩) (Kd.R_far (p := ⟨XF, 26, none⟩) (Kd.R_far (p := ⟨XF, 25, none⟩) (Kd.R_far (p := ⟨XF, 24, none⟩) (Kd.R_far (p := ⟨XF, 23, none⟩) (Kd.R_far (p := ⟨XF, 22, none⟩) (Kd.R_far (p := ⟨XF, 21, none⟩) (Kd.R_far (p := ⟨XF, 20, none⟩) (Kd.R_far (p := ⟨XF, 19, none⟩) (Kd.R_far (p := ⟨XF, 18, none⟩) (Kd.R_far (p := ⟨XF, 17, none⟩) (Kd.R_far (p := ⟨XF, 16, none⟩) (Kd.R_far (p := ⟨XF, 15, none⟩) (Kd.R_far (p := ⟨XF, 14, none⟩) (Kd.R_far (p := ⟨XF, 13, none⟩) (Kd.R_far (p := ⟨XF, 12, none⟩) (Kd.R_far (p := ⟨XF, 11, none⟩) (Kd.R_far (p := ⟨XF, 10, none⟩) (Kd.R_far (p := ⟨XF, 9, none⟩) (Kd.R_far (p := ⟨XF, 8, none⟩) (Kd.R_far (p := ⟨XF, 7, none⟩) (Kd.R_far (p := ⟨XF, 6, none⟩) (R_f6 (Kd.R_types YF.out XH.out (by decide)) (fun _ hk => hk.2)) (fun _ hk => hk.2) (.int .i64 ((rd_T69 l0_0 XD).f3.f3))) (fun _ hk => hk.2) (.int .i64 ((rd_T69 l0_0 XD).f3.f4))) (fun _ hk => hk.2) (.int .i64 ((rd_T69 l0_0 XD).f3.f5))) (fun _ hk => hk.2) (.slice Yo ((rd_T69 l0_0 XD).f4.f0).length Yp)) (fun _ hk => hk.2) (.slice X6 ((rd_T69 l0_0 XD).f4.f1).length X7)) (fun _ hk => hk.2) (.bool ((rd_T69 l0_0 XD).f5))) (fun _ hk => hk.2) (.int .i64 ((rd_T69 l0_0 XD).f6))) (fun _ hk => hk.2) (.slice X8 ((rd_T69 l0_0 XD).f7).length X9)) (fun _ hk => hk.2) (.int .i64 ((rd_T69 l0_0 XD).f8.f0))) (fun _ hk => hk.2) (.int .i64 ((rd_T69 l0_0 XD).f8.f1.f0))) (fun _ hk => hk.2) (.int .i64 ((rd_T69 l0_0 XD).f8.f1.f1))) (fun _ hk => hk.2) (.int .i64 ((rd_T69 l0_0 XD).f8.f1.f2))) (fun _ hk => hk.2) (.int .i64 ((rd_T69 l0_0 XD).f8.f1.f3))) (fun _ hk => hk.2) (.int .i64 ((rd_T69 l0_0 XD).f8.f2.f0))) (fun _ hk => hk.2) (.int .i64 ((rd_T69 l0_0 XD).f8.f2.f1))) (fun _ hk => hk.2) (.int .i64 ((rd_T69 l0_0 XD).f8.f2.f2))) (fun _ hk => hk.2) (.int .i64 ((rd_T69 l0_0 XD).f8.f2.f3))) (fun _ hk => hk.2) (.int .i64 ((rd_T69 l0_0 XD).f8.f3.f0))) (fun _ hk => hk.2) (.int .i64 ((rd_T69 l0_0 XD).f8.f3.f1))) (fun _ hk => hk.2) (.int .i64 ((rd_T69 l0_0 XD).f8.f4.f0))) (fun _ hk => hk.2) (.int .i64 ((rd_T69 l0_0 XD).f8.f4.f1))) (fun _ hk => hk.2) (.int .i64 ((rd_T69 l0_0 XD).f9))) (fun _ hk => hk.2) (.int .i64 ((rd_T69 l0_0 XD).f10))) (fun _ hk => hk.2) (.slice Ya ((rd_T69 l0_0 XD).f11.f0).length Yb)) (fun _ hk => hk.2) (.slice Yc ((rd_T69 l0_0 XD).f11.f1).length Yd)) (fun _ h_ => h_.1))) : P := h
theorem z5_3 {P : Prop} (h : P := by repeat (first | (with_reducible first | exact HB.out | apply below_alloc | apply pw_below_drewN | apply below_drew1 | refine below_set ?_ Jc.out) | exact HB.out)) : P := h
theorem z5_6 {P : Prop} (h : P := by repeat (first | (with_reducible first | exact HB.out | apply below_alloc | apply pw_below_drewN | apply below_drew1 | refine below_set ?_ Jc.out | refine below_set ?_ JB.out) | exact HB.out)) : P := h
theorem z5_10 {P : Prop} (h : P := by repeat (first | (with_reducible first | exact HB.out | apply below_alloc | apply pw_below_drewN | apply below_drew1 | refine below_set ?_ JN.out) | exact HB.out)) : P := h
theorem z5_15 {P : Prop} (h : P := by apply blk_fin; (focus ((with_reducible repeat (first | apply blk_putQ | refine blk_drewN ?_ _ | refine blk_drew ?_ | refine blk_alloc ?_ _)); exact XH.out)); first | (simp only [List.setIfInBounds_toArray, List.set_cons_zero, List.set_cons_succ]; done) | rfl) : P := h
theorem z5_16 {P : Prop} (h : P := by repeat (first | (with_reducible first | exact HBW.out | apply below_alloc | apply pw_below_drewN | apply below_drew1) | exact HBW.out)) : P := h
theorem z5_17 {P : Prop} (h : P := by (with_reducible repeat (first | refine blk_drewN ?_ _ | refine blk_drew ?_ | refine blk_alloc ?_ _)); with_reducible exact XH.out) : P := h
/-! ### impl_Scene_comesTo: function 72 -/
def impl_Scene_comesTo.l0 : Nat → Int → Int → Int → List (S69) → Option (Bool)
 | 0, _, _, _, _ => none
 | k + 1, x1, x2, x8, ZM => if x8 < 8 then ((impl_NodeAt.f k ZM x1).bind fun YB => (if x1 = x2 then (some (x1 == x2)) else (if YB < 0 then (some (x1 == x2)) else (if 0 ≤ YB then (if YB < (ZM.length : Int) then (impl_Scene_comesTo.l0 k ((rd_T69 ZM YB).f1) x2 (wrap64 (x8 + 1)) ZM) else (none)) else (none))))) else (some (x1 == x2))
def impl_Scene_comesTo.f (k : Nat) (l0_0 : List (S69)) (a1 : Int) (a2 : Int) : Option (Bool) := impl_Scene_comesTo.l0 k a1 a2 0 l0_0
theorem impl_Scene_comesTo.mono_l : ∀ k, (∀ y0 y1 y2 y3, LeO (impl_Scene_comesTo.l0 k y0 y1 y2 y3) (impl_Scene_comesTo.l0 (k + 1) y0 y1 y2 y3))
 | 0 => fun _ _ _ _ r h => by simp [impl_Scene_comesTo.l0] at h
 | k + 1 => by
  have ih0 := impl_Scene_comesTo.mono_l k
  ·intro y0 y1 y2 y3
   unfold impl_Scene_comesTo.l0
   with_reducible repeat' first | apply ih0 | apply impl_NodeAt.mono | exact LeO.refl _ | exact LeO.none _ | refine LeO.ite ?_ ?_ | refine LeO.bind ?_ (fun _ => ?_)
theorem impl_Scene_comesTo.mono : ∀ a0 a1 a2 k, LeO (impl_Scene_comesTo.f k a0 a1 a2) (impl_Scene_comesTo.f (k + 1) a0 a1 a2) := by
 intro a0 a1 a2 k; have ih0 := impl_Scene_comesTo.mono_l k
 unfold impl_Scene_comesTo.f
 with_reducible repeat' first | apply ih0 | apply impl_NodeAt.mono | exact LeO.refl _ | exact LeO.none _ | refine LeO.ite ?_ ?_ | refine LeO.bind ?_ (fun _ => ?_)
set_option maxHeartbeats 8000000 in
set_option maxRecDepth 100000 in
theorem impl_Scene_comesTo.calls (k : Nat) (g0 : Nat) (XI : Option Addr) (XG : Nat) (l0_0 : List (S69)) (a1 : Int) (a2 : Int) (r : Bool) (w : World) (hb0 : w.heap[g0]? = some (.cells #[.slice XI l0_0.length XG] 53 (0, 0))) (hr0_0 : Kd.C k69 w XI l0_0.length l0_0) (hc0_0 : l0_0.length ≤ XG) (h : impl_Scene_comesTo.f k l0_0 a1 a2 = some r) :
  Calls Try.prog 72 #[.pointer (some ⟨g0, 0, none⟩), .int .i64 a1, .int .i64 a2] w fun e w' => e = .returned (.bool r) ∧ Below w.heap.size w w' := by
 have hu53 := Try.underlying53; have Xe := mk0 hr0_0; have Yq := mk0 hc0_0; clear hr0_0 hc0_0; have BK0 := mk0 hb0; clear hb0; have HB := mk0 (Below.refl w.heap.size w)
 have H : (impl_Scene_comesTo.l0 k a1 a2 0 l0_0) = some r := h
 clear h
 have H' := mk0 H
 clear H; go_enter Try.func72, Try.ntmps72
 go_wp2
 go_loopg [1, 8] k (fun kq v1 v8 w' => ∃ (XJ : Int) (Jd : Int), v1 = .int .i64 XJ ∧ v8 = .int .i64 Jd ∧ Aside0 (impl_Scene_comesTo.l0 kq XJ a2 Jd l0_0 = some r) ∧ Aside0 (kq ≤ k) ∧ Aside0 (w'.heap[g0]? = some (.cells #[(.slice XI l0_0.length XG)] 53 (0, 0))) ∧ Aside0 (Below w.heap.size w w'))
 case atStart => exact ⟨(a1), (0), rs0, rs0, H', ⟨Nat.le_refl _⟩, ⟨pkb BK0⟩, ⟨q_131⟩⟩
 case round =>
  clear H'; obtain ⟨XJ, Jd, rfl, rfl, HA, HK1, BK0, HB⟩ := hrel
  cases gk with
  | zero => exact absurd HA.out (by simp [impl_Scene_comesTo.l0])
  | succ k1 =>
   have H := HA.out; clear HA; simp only [impl_Scene_comesTo.l0] at H
   by_cases c4 : Jd < 8
   rotate_left
   ·rw [if_neg c4] at H; have c4b0 := decide_eq_false c4; clear c4
    obtain rfl := Option.some.inj H
    simp only [Option.some.injEq, Prod.mk.injEq] at H; obtain ⟨rfl⟩ := H
    go_wp2
    go_ret
    exact ⟨q_94, q_131⟩
   rw [if_pos c4] at H; have c4b0 := decide_eq_true c4; clear c4; obtain ⟨YB, A5, H⟩ := bnd H
   try dsimp only at H
   by_cases c6 : XJ = a2
   ·rw [if_pos c6] at H
    have c6b0 : (XJ == a2) = true := beq_iff_eq.mpr c6
    have c6b1 : (XJ != a2) = false := bne_eq_false_iff_eq.mpr c6
    clear c6
    obtain rfl := Option.some.inj H
    simp only [Option.some.injEq, Prod.mk.injEq] at H; obtain ⟨rfl⟩ := H
    have hcz7_0 : wr.cell? ⟨g0, 0, none⟩ = some (.slice XI l0_0.length XG) := (blk_cell BK0.out 0).trans rfl
    have hfz7_0 := blk_frozen BK0.out 0
    go_wp2_with (first | ((with_reducible refine gate_callee (f := 41) rfl ?_); refine gl_ (some 14) Try.func41 #[.agg #[.slice XI l0_0.length XG], .int .i64 XJ] rfl q_1 ?_; (with_reducible refine (impl_NodeAt.calls k1 _ _ l0_0 XJ YB _ ?side1 ?side2 A5.out).mono ?_); (case side1 => exact q_192); (case side2 => exact Yq.out); rintro e w8 ⟨rfl, hb⟩; refine ⟨_, rfl, ?_⟩; replace BK0 := mk0 (blk_below (g := g0) (o := .cells #[.slice XI l0_0.length XG] 53 (0, 0)) (pkb BK0) hb); replace HB := bS q_131 hb; clear hb))
    go_ret
    exact ⟨q_94, q_131⟩
   rw [if_neg c6] at H
   have c6b0 : (XJ == a2) = false := beq_eq_false_iff_ne.mpr c6
   have c6b1 : (XJ != a2) = true := bne_iff_ne.mpr c6
   by_cases c9 : YB < 0
   ·rw [if_pos c9] at H; have c9b0 := decide_eq_true c9; clear c9
    obtain rfl := Option.some.inj H
    simp only [Option.some.injEq, Prod.mk.injEq] at H; obtain ⟨rfl⟩ := H
    have hcz10_0 : wr.cell? ⟨g0, 0, none⟩ = some (.slice XI l0_0.length XG) := (blk_cell BK0.out 0).trans rfl
    have hfz10_0 := blk_frozen BK0.out 0
    go_wp2_with (first | ((with_reducible refine gate_callee (f := 41) rfl ?_); refine gl_ (some 14) Try.func41 #[.agg #[.slice XI l0_0.length XG], .int .i64 XJ] rfl q_1 ?_; (with_reducible refine (impl_NodeAt.calls k1 _ _ l0_0 XJ YB _ ?side1 ?side2 A5.out).mono ?_); (case side1 => exact q_192); (case side2 => exact Yq.out); rintro e w11 ⟨rfl, hb⟩; refine ⟨_, rfl, ?_⟩; replace BK0 := mk0 (blk_below (g := g0) (o := .cells #[.slice XI l0_0.length XG] 53 (0, 0)) (pkb BK0) hb); replace HB := bS q_131 hb; clear hb))
    go_ret
    exact ⟨q_94, q_131⟩
   rw [if_neg c9] at H; have c9b0 := decide_eq_false c9; clear c9
   by_cases c12 : 0 ≤ YB
   rotate_left
   ·rw [if_neg c12] at H
    exact absurd H (by simp)
   rw [if_pos c12] at H; have c12b0 := decide_eq_true c12; clear c12
   by_cases c13 : YB < (l0_0.length : Int)
   rotate_left
   ·rw [if_neg c13] at H
    exact absurd H (by simp)
   rw [if_pos c13] at H; have c13b0 := decide_eq_true c13; clear c13
   have H' := mk0 H
   clear H
   have hcz14_0 : wr.cell? ⟨g0, 0, none⟩ = some (.slice XI l0_0.length XG) := (blk_cell BK0.out 0).trans rfl
   have hfz14_0 := blk_frozen BK0.out 0
   go_wp2_with (first | ((with_reducible refine gate_callee (f := 41) rfl ?_); refine gl_ (some 14) Try.func41 #[.agg #[.slice XI l0_0.length XG], .int .i64 XJ] rfl q_1 ?_; (with_reducible refine (impl_NodeAt.calls k1 _ _ l0_0 XJ YB _ ?side1 ?side2 A5.out).mono ?_); (case side1 => exact q_192); (case side2 => exact Yq.out); rintro e w15 ⟨rfl, hb⟩; refine ⟨_, rfl, ?_⟩; replace BK0 := mk0 (blk_below (g := g0) (o := .cells #[.slice XI l0_0.length XG] 53 (0, 0)) (pkb BK0) hb); replace HB := bS q_131 hb; clear hb; have hcz16_0 : w15.cell? ⟨g0, 0, none⟩ = some (.slice XI l0_0.length XG) := (blk_cell BK0.out 0).trans rfl; have hfz16_0 := blk_frozen BK0.out 0; have JE : 0 ≤ (YB : Int) := of_decide_eq_true (by first | (with_reducible assumption) | assumption); have JF : YB < (l0_0.length : Int) := of_decide_eq_true (by first | (with_reducible assumption) | assumption); obtain ⟨UW, UF, UG, Uk, Ul, Um, Un, Uo, Up, Uq, Ur, e130, ZN, ZO, ZP, ZQ, ZR, ZS, ZT, ZU, ZV, ZW, YM, YN, YO, YP, YQ, YR, YS, YT, YU, YV, YW, YX, YY, YZ, Y0, Y1, Y2, Y3, Y4, Y5, Y6, ZX, ZY, Y7, Y8, Y9, Za, Zb, Zc, Zd, Ze⟩ := at_T69 Xe.out YB JE JF; cases e130; replace ZN := cell_go HB ZN; replace ZO := cell_go HB ZO; replace ZP := cell_go HB ZP; replace ZQ := cell_go HB ZQ; replace ZR := cell_go HB ZR; replace ZS := cell_go HB ZS; replace ZT := cell_go HB ZT; replace ZU := cell_go HB ZU; replace ZV := cell_go HB ZV; replace ZW := cell_go HB ZW; replace YM := cell_go HB YM; replace YN := cell_go HB YN; replace YO := cell_go HB YO; replace YP := cell_go HB YP; replace YQ := cell_go HB YQ; replace YR := cell_go HB YR; replace YS := cell_go HB YS; replace YT := cell_go HB YT; replace YU := cell_go HB YU; replace YV := cell_go HB YV; replace YW := cell_go HB YW; replace YX := cell_go HB YX; replace YY := cell_go HB YY; replace YZ := cell_go HB YZ; replace Y0 := cell_go HB Y0; replace Y1 := cell_go HB Y1; replace Y2 := cell_go HB Y2; replace Y3 := cell_go HB Y3; replace Y4 := cell_go HB Y4; replace Y5 := cell_go HB Y5; replace Y6 := cell_go HB Y6; have Us := mk0 ZY; have Ut := mk0 ZX; clear ZY ZX; have JO := mk0 Y8; have JP := mk0 Y7; clear Y8 Y7; have JQ := mk0 Za; have JR := mk0 Y9; clear Za Y9; have JS := mk0 Zc; have JT := mk0 Zb; clear Zc Zb; have JU := mk0 Ze; have JV := mk0 Zd; clear Ze Zd; replace JE := eq_true JE; replace JF := eq_true JF))
   go_roundg k1
   case measure => have := HK1.out; omega
   case rel => exact ⟨((rd_T69 l0_0 YB).f1), (wrap64 (Jd + 1)), rs0, rs0, H', ⟨(by have := HK1.out; omega)⟩, ⟨pkb BK0⟩, ⟨q_131⟩⟩

/-! ### impl_UnderOf: function 37 -/
def impl_UnderOf.l0 : Nat → Int → List Int → List (S69) → Int → Int → List (S69) → Option (List Int)
 | 0, _, _, _, _, _, _ => none
 | k + 1, x1, x5, x13, x14, x15, YL => if x15 < x14 then (if 0 ≤ x15 then (if x15 < (x13.length : Int) then ((impl_Scene_comesTo.f k YL ((rd_T69 x13 x15).f0) x1).bind fun JG => (if JG = true then (if x5.length < 17592186044416 then (impl_UnderOf.l0 k x1 (x5 ++ [(rd_T69 x13 x15).f0]) x13 x14 (wrap64 (x15 + 1)) YL) else (none)) else (impl_UnderOf.l0 k x1 x5 x13 x14 (wrap64 (x15 + 1)) YL))) else (none)) else (none)) else (some x5)
def impl_UnderOf.f (k : Nat) (l0_0 : List (S69)) (a1 : Int) : Option (List Int) := (impl_NodeAt.f k l0_0 a1).bind fun Je => (if Je < 0 then (some ([] : List Int)) else (impl_UnderOf.l0 k a1 ([] : List Int) l0_0 (l0_0.length : Int) 0 l0_0))
theorem impl_UnderOf.mono_l : ∀ k, (∀ y0 y1 y2 y3 y4 y5, LeO (impl_UnderOf.l0 k y0 y1 y2 y3 y4 y5) (impl_UnderOf.l0 (k + 1) y0 y1 y2 y3 y4 y5))
 | 0 => fun _ _ _ _ _ _ r h => by simp [impl_UnderOf.l0] at h
 | k + 1 => by
  have ih0 := impl_UnderOf.mono_l k
  ·intro y0 y1 y2 y3 y4 y5
   unfold impl_UnderOf.l0
   with_reducible repeat' first | apply ih0 | apply impl_NodeAt.mono | apply impl_Scene_comesTo.mono | exact LeO.refl _ | exact LeO.none _ | refine LeO.ite ?_ ?_ | refine LeO.bind ?_ (fun _ => ?_)
theorem impl_UnderOf.mono : ∀ a0 a1 k, LeO (impl_UnderOf.f k a0 a1) (impl_UnderOf.f (k + 1) a0 a1) := by
 intro a0 a1 k; have ih0 := impl_UnderOf.mono_l k
 unfold impl_UnderOf.f
 with_reducible repeat' first | apply ih0 | apply impl_NodeAt.mono | apply impl_Scene_comesTo.mono | exact LeO.refl _ | exact LeO.none _ | refine LeO.ite ?_ ?_ | refine LeO.bind ?_ (fun _ => ?_)
set_option maxHeartbeats 8000000 in
set_option maxRecDepth 100000 in
theorem impl_UnderOf.calls (k : Nat) (XI : Option Addr) (XG : Nat) (l0_0 : List (S69)) (a1 : Int) (r : List Int) (w : World) (hr0_0 : Kd.C k69 w XI l0_0.length l0_0) (hc0_0 : l0_0.length ≤ XG) (h : impl_UnderOf.f k l0_0 a1 = some r) :
  Calls Try.prog 37 #[.agg #[.slice XI l0_0.length XG], .int .i64 a1] w fun e w' => ∃ v0_ : Value, e = .returned (v0_) ∧ Kd.R (Kd.int .i64) 3 w' w.heap.size (fun _ => True) v0_ r ∧ Below w.heap.size w w' := by
 have hu53 := Try.underlying53; have hu69 := Try.underlying69; have Xe := mk0 hr0_0; have Yq := mk0 hc0_0; clear hr0_0 hc0_0; have HB := mk0 (Below.refl w.heap.size w)
 have H := h; unfold impl_UnderOf.f at H
 clear h; obtain ⟨Je, A3, H⟩ := bnd H
 try dsimp only at H
 by_cases c4 : Je < 0
 ·rw [if_pos c4] at H; have c4b0 := decide_eq_true c4; clear c4
  obtain rfl := Option.some.inj H
  simp only [Option.some.injEq, Prod.mk.injEq] at H; obtain ⟨rfl⟩ := H
  go_enter Try.func37, Try.ntmps37
  go_wp2_with (first | ((with_reducible refine gate_dst (N := 2) rfl ?_); refine boxz (cs := #[.slice XI l0_0.length XG]) (t := 53) rfl ?_; intro YK hg w5 hbox hb; have Jf := mk0 (ge_go (a := w.heap.size) hg (below_size q_162)); have Jc := Jf; replace HB := bS q_162 hb; have XE := mk0 (hbox); clear hb hbox hg; refine bc_1 XE.out ?_; intros) | ((with_reducible refine gate_callee (f := 41) rfl ?_); refine gl_ (some 10) Try.func41 #[.agg #[.slice XI l0_0.length XG], .int .i64 a1] rfl q_1 ?_; (with_reducible refine (impl_NodeAt.calls k _ _ l0_0 a1 Je _ ?side1 ?side2 A3.out).mono ?_); (case side1 => exact q_192); (case side2 => exact Yq.out); rintro e w7 ⟨rfl, hb⟩; refine ⟨_, rfl, ?_⟩; replace XE := bB XE hb; replace HB := bS z5_3 hb; clear hb))
  go_ret
  exact ⟨_, q_94, q_89, z5_3⟩
 rw [if_neg c4] at H; have c4b0 := decide_eq_false c4; clear c4
 have H' := mk0 H
 clear H; go_enter Try.func37, Try.ntmps37
 go_wp2_with (first | ((with_reducible refine gate_dst (N := 2) rfl ?_); refine boxz (cs := #[.slice XI l0_0.length XG]) (t := 53) rfl ?_; intro YK hg w8 hbox hb; have Jf := mk0 (ge_go (a := w.heap.size) hg (below_size q_162)); have Jc := Jf; replace HB := bS q_162 hb; have XE := mk0 (hbox); clear hb hbox hg; refine bc_1 XE.out ?_; intros) | ((with_reducible refine gate_callee (f := 41) rfl ?_); refine gl_ (some 10) Try.func41 #[.agg #[.slice XI l0_0.length XG], .int .i64 a1] rfl q_1 ?_; (with_reducible refine (impl_NodeAt.calls k _ _ l0_0 a1 Je _ ?side1 ?side2 A3.out).mono ?_); (case side1 => exact q_192); (case side2 => exact Yq.out); rintro e w10 ⟨rfl, hb⟩; refine ⟨_, rfl, ?_⟩; replace XE := bB XE hb; replace HB := bS z5_3 hb; clear hb; refine bc_1 XE.out ?_; intros))
 go_loopg [5, 15] k (fun kq v5 v15 w' => ∃ (YH : List Int) (XD : Int), v15 = .int .i64 XD ∧ Aside0 (impl_UnderOf.l0 kq a1 YH l0_0 (l0_0.length : Int) XD l0_0 = some r) ∧ Aside0 (kq ≤ k) ∧ Aside0 (Kd.R (Kd.int .i64) 3 w' w.heap.size (fun _ => True) v5 YH) ∧ Aside0 (w'.heap[YK]? = some (.cells #[(.slice XI l0_0.length XG)] 53 (0, 0))) ∧ Aside0 (Below w.heap.size w w'))
 case atStart => exact ⟨(([] : List Int)), (0), rs0, H', ⟨Nat.le_refl _⟩, ⟨q_89⟩, ⟨pkb XE⟩, ⟨z5_3⟩⟩
 case round =>
  clear H'
  try clear c4b0
  obtain ⟨YH, XD, rfl, HA, HK1, YF, XE, HB⟩ := hrel
  cases gk with
  | zero => exact absurd HA.out (by simp [impl_UnderOf.l0])
  | succ k1 =>
   have H := HA.out; clear HA; simp only [impl_UnderOf.l0] at H
   by_cases c12 : XD < (l0_0.length : Int)
   rotate_left
   ·rw [if_neg c12] at H; have c12b0 := decide_eq_false c12; clear c12
    obtain rfl := Option.some.inj H
    simp only [Option.some.injEq, Prod.mk.injEq] at H; obtain ⟨rfl⟩ := H
    go_wp2_with (first | ((with_reducible refine gate_load (t := 69) rfl ?_); refine load_blk (t := 69) rfl rfl XH rfl z5_17 Try.underlying69 rfl (show (Try.prog.info? 69).map (·.size) = some 31 by kernel_rfl) rfl ?_) | ((with_reducible refine gate_store (t := 69) rfl ?_); refine wstore_blk (t := 69) rfl rfl XH rfl rfl z5_17 rfl (show (Try.prog.info? 69).map (·.size) = some 31 by kernel_rfl) rfl ?_; simp only [World.setCells, Nat.reduceAdd]))
    go_ret
    exact ⟨_, q_94, (pkR YF), z5_3⟩
   rw [if_pos c12] at H; have c12b0 := decide_eq_true c12; clear c12
   by_cases c13 : 0 ≤ XD
   rotate_left
   ·rw [if_neg c13] at H
    exact absurd H (by simp)
   rw [if_pos c13] at H; have c13b0 := decide_eq_true c13; clear c13
   by_cases c14 : XD < (l0_0.length : Int)
   rotate_left
   ·rw [if_neg c14] at H
    exact absurd H (by simp)
   rw [if_pos c14] at H; have c14b0 := decide_eq_true c14; clear c14; obtain ⟨JG, A15, H⟩ := bnd H
   try dsimp only at H
   by_cases c16 : JG = true
   rotate_left
   ·replace c16 := Bool.eq_false_iff.mpr c16; subst c16; rw [if_neg (show ¬ (false = true) by decide)] at H
    have H' := mk0 H
    clear H
    have ZK : 0 ≤ (XD : Int) := of_decide_eq_true (by first | (with_reducible assumption) | assumption)
    have ZL : XD < (l0_0.length : Int) := of_decide_eq_true (by first | (with_reducible assumption) | assumption)
    obtain ⟨Jg, Yo, Yp, X6, X7, X8, X9, Ya, Yb, Yc, Yd, e133, Ye, Yf, Yg, Yh, Yi, Yj, Yk, Yl, Ym, Yn, XL, XM, XN, XO, XP, XQ, XR, XS, XT, XU, XV, XW, XX, XY, XZ, X0, X1, X2, X3, X4, X5, YC, YD, Yr, Ys, Yt, Yu, Yv, Yw, Yx, Yy⟩ := at_T69 Xe.out XD ZK ZL; have Zf := lie_zero Ye (lie_n Yf (lie_n Yg (lie_n Yh (lie_n Yi (lie_n Yj (lie_n Yk (lie_n Yl (lie_n Ym (lie_n Yn (lie_n XL (lie_n XM (lie_n XN (lie_n XO (lie_n XP (lie_n XQ (lie_n XR (lie_n XS (lie_n XT (lie_n XU (lie_n XV (lie_n XW (lie_n XX (lie_n XY (lie_n XZ (lie_n X0 (lie_n X1 (lie_n X2 (lie_n X3 (lie_n X4 (lie_n X5 (lie_nil _ _ _)))))))))))))))))))))))))))))))
    cases e133
    replace Ye := cell_go HB Ye; replace Yf := cell_go HB Yf; replace Yg := cell_go HB Yg; replace Yh := cell_go HB Yh; replace Yi := cell_go HB Yi; replace Yj := cell_go HB Yj; replace Yk := cell_go HB Yk; replace Yl := cell_go HB Yl; replace Ym := cell_go HB Ym; replace Yn := cell_go HB Yn; replace XL := cell_go HB XL; replace XM := cell_go HB XM; replace XN := cell_go HB XN; replace XO := cell_go HB XO; replace XP := cell_go HB XP; replace XQ := cell_go HB XQ; replace XR := cell_go HB XR; replace XS := cell_go HB XS; replace XT := cell_go HB XT; replace XU := cell_go HB XU; replace XV := cell_go HB XV; replace XW := cell_go HB XW; replace XX := cell_go HB XX; replace XY := cell_go HB XY; replace XZ := cell_go HB XZ; replace X0 := cell_go HB X0; replace X1 := cell_go HB X1; replace X2 := cell_go HB X2; replace X3 := cell_go HB X3; replace X4 := cell_go HB X4; replace X5 := cell_go HB X5; have Jz := mk0 YD; have JA := mk0 YC; clear YD YC; have Jh := mk0 Ys; have Ji := mk0 Yr; clear Ys Yr; have Jj := mk0 Yu; have Jk := mk0 Yt; clear Yu Yt; have Jl := mk0 Yw; have Jm := mk0 Yv; clear Yw Yv; have Jn := mk0 Yy; have Jo := mk0 Yx; clear Yy Yx; replace ZK := eq_true ZK; replace ZL := eq_true ZL
    go_wp2_with (first | ((with_reducible refine gate_load (t := 69) rfl ?_); refine load_lie (t := 69) rfl rfl Zf HB (by with_reducible rfl) rfl Try.underlying69 rfl (show (Try.prog.info? 69).map (·.size) = some 31 by kernel_rfl) rfl ?_) | ((with_reducible refine gate_load (t := 69) rfl ?_); refine load_lie0 (t := 69) rfl rfl Zf (by with_reducible rfl) rfl Try.underlying69 rfl (show (Try.prog.info? 69).map (·.size) = some 31 by kernel_rfl) rfl ?_) | ((with_reducible refine gate_dst (N := 7) rfl ?_); refine boxz (cs := #[.int .i64 0, .int .i64 0, .bool false, .int .i64 0, .int .i64 0, .int .i64 0, .int .i64 0, .int .i64 0, .int .i64 0, .slice none 0 0, .slice none 0 0, .bool false, .int .i64 0, .slice none 0 0, .int .i64 0, .int .i64 0, .int .i64 0, .int .i64 0, .int .i64 0, .int .i64 0, .int .i64 0, .int .i64 0, .int .i64 0, .int .i64 0, .int .i64 0, .int .i64 0, .int .i64 0, .int .i64 0, .int .i64 0, .slice none 0 0, .slice none 0 0]) (t := 69) rfl ?_; intro XF hg w24 hbox hb; have Jp := mk0 (ge_go (a := w.heap.size) hg (below_size z5_3)); have JB := Jp; have XK := mk0 (nb_lt hg (blk_ltB XE (pkb XE))); have YG := mk0 (nb_gt hg (blk_ltB XE (pkb XE))); replace YF := bR YF hb; replace XE := bB XE hb; replace HB := bS z5_3 hb; have XH := mk0 (hbox); clear hb hbox hg; have UX := YG.out; have UY := XK.out; refine bc_31 XH.out ?_; intros) | ((with_reducible refine gate_callee (f := 72) rfl ?_); refine gl_ (some 22) Try.func72 #[.pointer (some ⟨YK, 0, none⟩), .int .i64 ((rd_T69 l0_0 XD).f0), .int .i64 a1] rfl q_1 ?_; (with_reducible refine (impl_Scene_comesTo.calls k1 YK (some Jg) XG l0_0 ((rd_T69 l0_0 XD).f0) a1 false _ ?side1 ?side2 ?side3 A15.out).mono ?_); (case side1 => (with_reducible repeat (first | refine blk_drewN ?_ _ | refine blk_drew ?_ | refine blk_alloc ?_ _ | refine blk_far ?_ XK.out _)); exact XE.out); (case side2 => exact Kd.C_below Xe.out z5_6); (case side3 => exact Yq.out); rintro e w27 ⟨rfl, hb⟩; refine ⟨_, rfl, ?_⟩; replace YF := mk0 (Kd.R_below z5_1 hb); replace XE := mk0 (blk_belowB XE z5_0 hb); replace XH := mk0 (blk_below (g := XF) (o := .cells #[.int .i64 ((rd_T69 l0_0 XD).f0), .int .i64 ((rd_T69 l0_0 XD).f1), .bool ((rd_T69 l0_0 XD).f2), .int .i64 ((rd_T69 l0_0 XD).f3.f0), .int .i64 ((rd_T69 l0_0 XD).f3.f1), .int .i64 ((rd_T69 l0_0 XD).f3.f2), .int .i64 ((rd_T69 l0_0 XD).f3.f3), .int .i64 ((rd_T69 l0_0 XD).f3.f4), .int .i64 ((rd_T69 l0_0 XD).f3.f5), .slice Yo ((rd_T69 l0_0 XD).f4.f0).length Yp, .slice X6 ((rd_T69 l0_0 XD).f4.f1).length X7, .bool ((rd_T69 l0_0 XD).f5), .int .i64 ((rd_T69 l0_0 XD).f6), .slice X8 ((rd_T69 l0_0 XD).f7).length X9, .int .i64 ((rd_T69 l0_0 XD).f8.f0), .int .i64 ((rd_T69 l0_0 XD).f8.f1.f0), .int .i64 ((rd_T69 l0_0 XD).f8.f1.f1), .int .i64 ((rd_T69 l0_0 XD).f8.f1.f2), .int .i64 ((rd_T69 l0_0 XD).f8.f1.f3), .int .i64 ((rd_T69 l0_0 XD).f8.f2.f0), .int .i64 ((rd_T69 l0_0 XD).f8.f2.f1), .int .i64 ((rd_T69 l0_0 XD).f8.f2.f2), .int .i64 ((rd_T69 l0_0 XD).f8.f2.f3), .int .i64 ((rd_T69 l0_0 XD).f8.f3.f0), .int .i64 ((rd_T69 l0_0 XD).f8.f3.f1), .int .i64 ((rd_T69 l0_0 XD).f8.f4.f0), .int .i64 ((rd_T69 l0_0 XD).f8.f4.f1), .int .i64 ((rd_T69 l0_0 XD).f9), .int .i64 ((rd_T69 l0_0 XD).f10), .slice Ya ((rd_T69 l0_0 XD).f11.f0).length Yb, .slice Yc ((rd_T69 l0_0 XD).f11.f1).length Yd] 69 (0, 0)) z5_15 hb); replace HB := bS z5_6 hb; clear hb; (try clear hk)) | ((with_reducible refine gate_load (t := 69) rfl ?_); refine load_blk (t := 69) rfl rfl XH rfl z5_17 Try.underlying69 rfl (show (Try.prog.info? 69).map (·.size) = some 31 by kernel_rfl) rfl ?_) | ((with_reducible refine gate_store (t := 69) rfl ?_); refine wstore_blk (t := 69) rfl rfl XH rfl rfl z5_17 rfl (show (Try.prog.info? 69).map (·.size) = some 31 by kernel_rfl) rfl ?_; simp only [World.setCells, Nat.reduceAdd]) | ((with_reducible refine gate_load (t := 69) rfl ?_); refine load_event (t := 69) rfl rfl (p := ⟨XF, 0, none⟩) rfl [.int .i64 ((rd_T69 l0_0 XD).f0), .int .i64 ((rd_T69 l0_0 XD).f1), .bool ((rd_T69 l0_0 XD).f2), .int .i64 ((rd_T69 l0_0 XD).f3.f0), .int .i64 ((rd_T69 l0_0 XD).f3.f1), .int .i64 ((rd_T69 l0_0 XD).f3.f2), .int .i64 ((rd_T69 l0_0 XD).f3.f3), .int .i64 ((rd_T69 l0_0 XD).f3.f4), .int .i64 ((rd_T69 l0_0 XD).f3.f5), .slice Yo ((rd_T69 l0_0 XD).f4.f0).length Yp, .slice X6 ((rd_T69 l0_0 XD).f4.f1).length X7, .bool ((rd_T69 l0_0 XD).f5), .int .i64 ((rd_T69 l0_0 XD).f6), .slice X8 ((rd_T69 l0_0 XD).f7).length X9, .int .i64 ((rd_T69 l0_0 XD).f8.f0), .int .i64 ((rd_T69 l0_0 XD).f8.f1.f0), .int .i64 ((rd_T69 l0_0 XD).f8.f1.f1), .int .i64 ((rd_T69 l0_0 XD).f8.f1.f2), .int .i64 ((rd_T69 l0_0 XD).f8.f1.f3), .int .i64 ((rd_T69 l0_0 XD).f8.f2.f0), .int .i64 ((rd_T69 l0_0 XD).f8.f2.f1), .int .i64 ((rd_T69 l0_0 XD).f8.f2.f2), .int .i64 ((rd_T69 l0_0 XD).f8.f2.f3), .int .i64 ((rd_T69 l0_0 XD).f8.f3.f0), .int .i64 ((rd_T69 l0_0 XD).f8.f3.f1), .int .i64 ((rd_T69 l0_0 XD).f8.f4.f0), .int .i64 ((rd_T69 l0_0 XD).f8.f4.f1), .int .i64 ((rd_T69 l0_0 XD).f9), .int .i64 ((rd_T69 l0_0 XD).f10), .slice Ya ((rd_T69 l0_0 XD).f11.f0).length Yb, .slice Yc ((rd_T69 l0_0 XD).f11.f1).length Yd] _ (lie_of_blk (cs := #[.int .i64 ((rd_T69 l0_0 XD).f0), .int .i64 ((rd_T69 l0_0 XD).f1), .bool ((rd_T69 l0_0 XD).f2), .int .i64 ((rd_T69 l0_0 XD).f3.f0), .int .i64 ((rd_T69 l0_0 XD).f3.f1), .int .i64 ((rd_T69 l0_0 XD).f3.f2), .int .i64 ((rd_T69 l0_0 XD).f3.f3), .int .i64 ((rd_T69 l0_0 XD).f3.f4), .int .i64 ((rd_T69 l0_0 XD).f3.f5), .slice Yo ((rd_T69 l0_0 XD).f4.f0).length Yp, .slice X6 ((rd_T69 l0_0 XD).f4.f1).length X7, .bool ((rd_T69 l0_0 XD).f5), .int .i64 ((rd_T69 l0_0 XD).f6), .slice X8 ((rd_T69 l0_0 XD).f7).length X9, .int .i64 ((rd_T69 l0_0 XD).f8.f0), .int .i64 ((rd_T69 l0_0 XD).f8.f1.f0), .int .i64 ((rd_T69 l0_0 XD).f8.f1.f1), .int .i64 ((rd_T69 l0_0 XD).f8.f1.f2), .int .i64 ((rd_T69 l0_0 XD).f8.f1.f3), .int .i64 ((rd_T69 l0_0 XD).f8.f2.f0), .int .i64 ((rd_T69 l0_0 XD).f8.f2.f1), .int .i64 ((rd_T69 l0_0 XD).f8.f2.f2), .int .i64 ((rd_T69 l0_0 XD).f8.f2.f3), .int .i64 ((rd_T69 l0_0 XD).f8.f3.f0), .int .i64 ((rd_T69 l0_0 XD).f8.f3.f1), .int .i64 ((rd_T69 l0_0 XD).f8.f4.f0), .int .i64 ((rd_T69 l0_0 XD).f8.f4.f1), .int .i64 ((rd_T69 l0_0 XD).f9), .int .i64 ((rd_T69 l0_0 XD).f10), .slice Ya ((rd_T69 l0_0 XD).f11.f0).length Yb, .slice Yc ((rd_T69 l0_0 XD).f11.f1).length Yd]) (t := 69) z5_15) Try.underlying69 rfl (show (Try.prog.info? 69).map (·.size) = some 31 by kernel_rfl) ?_))
    go_roundg k1
    case measure => have := HK1.out; omega
    case rel => exact ⟨(YH), (wrap64 (XD + 1)), rs0, H', ⟨(by have := HK1.out; omega)⟩, ⟨pkR YF⟩, ⟨pkb XE⟩, ⟨z5_6⟩⟩
   subst c16; rw [if_pos rfl] at H
   by_cases c17 : YH.length < 17592186044416
   rotate_left
   ·rw [if_neg c17] at H
    exact absurd H (by simp)
   rw [if_pos c17] at H; have LMc17 := mk0 c17; clear c17
   obtain ⟨JW, hy_⟩ : ∃ y_ : List Int, y_ = (YH ++ [(rd_T69 l0_0 XD).f0]) := ⟨_, rfl⟩
   replace H : (impl_UnderOf.l0 k1 a1 JW l0_0 (l0_0.length : Int) (wrap64 (XD + 1)) l0_0) = some r := (by first | (rw [hy_]; with_reducible exact H) | (have H2_ := (Option.bind_some _ _).symm.trans H; rw [hy_]; with_reducible exact H2_) | (have H2_ := (Option.bind_some _ _).symm.trans H; with_reducible exact H2_) | with_reducible exact H | (rw [hy_]; exact H) | exact H)
   have JX := mk0 hy_; clear hy_
   have H' := mk0 H
   clear H
   have ZK : 0 ≤ (XD : Int) := of_decide_eq_true (by first | (with_reducible assumption) | assumption)
   have ZL : XD < (l0_0.length : Int) := of_decide_eq_true (by first | (with_reducible assumption) | assumption)
   obtain ⟨Jg, Yo, Yp, X6, X7, X8, X9, Ya, Yb, Yc, Yd, e133, Ye, Yf, Yg, Yh, Yi, Yj, Yk, Yl, Ym, Yn, XL, XM, XN, XO, XP, XQ, XR, XS, XT, XU, XV, XW, XX, XY, XZ, X0, X1, X2, X3, X4, X5, YC, YD, Yr, Ys, Yt, Yu, Yv, Yw, Yx, Yy⟩ := at_T69 Xe.out XD ZK ZL; have Zf := lie_zero Ye (lie_n Yf (lie_n Yg (lie_n Yh (lie_n Yi (lie_n Yj (lie_n Yk (lie_n Yl (lie_n Ym (lie_n Yn (lie_n XL (lie_n XM (lie_n XN (lie_n XO (lie_n XP (lie_n XQ (lie_n XR (lie_n XS (lie_n XT (lie_n XU (lie_n XV (lie_n XW (lie_n XX (lie_n XY (lie_n XZ (lie_n X0 (lie_n X1 (lie_n X2 (lie_n X3 (lie_n X4 (lie_n X5 (lie_nil _ _ _)))))))))))))))))))))))))))))))
   cases e133
   replace Ye := cell_go HB Ye; replace Yf := cell_go HB Yf; replace Yg := cell_go HB Yg; replace Yh := cell_go HB Yh; replace Yi := cell_go HB Yi; replace Yj := cell_go HB Yj; replace Yk := cell_go HB Yk; replace Yl := cell_go HB Yl; replace Ym := cell_go HB Ym; replace Yn := cell_go HB Yn; replace XL := cell_go HB XL; replace XM := cell_go HB XM; replace XN := cell_go HB XN; replace XO := cell_go HB XO; replace XP := cell_go HB XP; replace XQ := cell_go HB XQ; replace XR := cell_go HB XR; replace XS := cell_go HB XS; replace XT := cell_go HB XT; replace XU := cell_go HB XU; replace XV := cell_go HB XV; replace XW := cell_go HB XW; replace XX := cell_go HB XX; replace XY := cell_go HB XY; replace XZ := cell_go HB XZ; replace X0 := cell_go HB X0; replace X1 := cell_go HB X1; replace X2 := cell_go HB X2; replace X3 := cell_go HB X3; replace X4 := cell_go HB X4; replace X5 := cell_go HB X5; have Jz := mk0 YD; have JA := mk0 YC; clear YD YC; have Jh := mk0 Ys; have Ji := mk0 Yr; clear Ys Yr; have Jj := mk0 Yu; have Jk := mk0 Yt; clear Yu Yt; have Jl := mk0 Yw; have Jm := mk0 Yv; clear Yw Yv; have Jn := mk0 Yy; have Jo := mk0 Yx; clear Yy Yx; replace ZK := eq_true ZK; replace ZL := eq_true ZL
   go_wp2_with (first | ((with_reducible refine gate_load (t := 69) rfl ?_); refine load_lie (t := 69) rfl rfl Zf HB (by with_reducible rfl) rfl Try.underlying69 rfl (show (Try.prog.info? 69).map (·.size) = some 31 by kernel_rfl) rfl ?_) | ((with_reducible refine gate_load (t := 69) rfl ?_); refine load_lie0 (t := 69) rfl rfl Zf (by with_reducible rfl) rfl Try.underlying69 rfl (show (Try.prog.info? 69).map (·.size) = some 31 by kernel_rfl) rfl ?_) | ((with_reducible refine gate_dst (N := 7) rfl ?_); refine boxz (cs := #[.int .i64 0, .int .i64 0, .bool false, .int .i64 0, .int .i64 0, .int .i64 0, .int .i64 0, .int .i64 0, .int .i64 0, .slice none 0 0, .slice none 0 0, .bool false, .int .i64 0, .slice none 0 0, .int .i64 0, .int .i64 0, .int .i64 0, .int .i64 0, .int .i64 0, .int .i64 0, .int .i64 0, .int .i64 0, .int .i64 0, .int .i64 0, .int .i64 0, .int .i64 0, .int .i64 0, .int .i64 0, .int .i64 0, .slice none 0 0, .slice none 0 0]) (t := 69) rfl ?_; intro XF hg w18 hbox hb; have Jp := mk0 (ge_go (a := w.heap.size) hg (below_size z5_3)); have JB := Jp; have XK := mk0 (nb_lt hg (blk_ltB XE (pkb XE))); have YG := mk0 (nb_gt hg (blk_ltB XE (pkb XE))); replace YF := bR YF hb; replace XE := bB XE hb; replace HB := bS z5_3 hb; have XH := mk0 (hbox); clear hb hbox hg; have UZ := YG.out; have U0 := XK.out; refine bc_31 XH.out ?_; intros) | ((with_reducible refine gate_callee (f := 72) rfl ?_); refine gl_ (some 22) Try.func72 #[.pointer (some ⟨YK, 0, none⟩), .int .i64 ((rd_T69 l0_0 XD).f0), .int .i64 a1] rfl q_1 ?_; (with_reducible refine (impl_Scene_comesTo.calls k1 YK (some Jg) XG l0_0 ((rd_T69 l0_0 XD).f0) a1 true _ ?side1 ?side2 ?side3 A15.out).mono ?_); (case side1 => (with_reducible repeat (first | refine blk_drewN ?_ _ | refine blk_drew ?_ | refine blk_alloc ?_ _ | refine blk_far ?_ XK.out _)); exact XE.out); (case side2 => exact Kd.C_below Xe.out z5_6); (case side3 => exact Yq.out); rintro e w21 ⟨rfl, hb⟩; refine ⟨_, rfl, ?_⟩; replace YF := mk0 (Kd.R_below z5_1 hb); replace XE := mk0 (blk_belowB XE z5_0 hb); replace XH := mk0 (blk_below (g := XF) (o := .cells #[.int .i64 ((rd_T69 l0_0 XD).f0), .int .i64 ((rd_T69 l0_0 XD).f1), .bool ((rd_T69 l0_0 XD).f2), .int .i64 ((rd_T69 l0_0 XD).f3.f0), .int .i64 ((rd_T69 l0_0 XD).f3.f1), .int .i64 ((rd_T69 l0_0 XD).f3.f2), .int .i64 ((rd_T69 l0_0 XD).f3.f3), .int .i64 ((rd_T69 l0_0 XD).f3.f4), .int .i64 ((rd_T69 l0_0 XD).f3.f5), .slice Yo ((rd_T69 l0_0 XD).f4.f0).length Yp, .slice X6 ((rd_T69 l0_0 XD).f4.f1).length X7, .bool ((rd_T69 l0_0 XD).f5), .int .i64 ((rd_T69 l0_0 XD).f6), .slice X8 ((rd_T69 l0_0 XD).f7).length X9, .int .i64 ((rd_T69 l0_0 XD).f8.f0), .int .i64 ((rd_T69 l0_0 XD).f8.f1.f0), .int .i64 ((rd_T69 l0_0 XD).f8.f1.f1), .int .i64 ((rd_T69 l0_0 XD).f8.f1.f2), .int .i64 ((rd_T69 l0_0 XD).f8.f1.f3), .int .i64 ((rd_T69 l0_0 XD).f8.f2.f0), .int .i64 ((rd_T69 l0_0 XD).f8.f2.f1), .int .i64 ((rd_T69 l0_0 XD).f8.f2.f2), .int .i64 ((rd_T69 l0_0 XD).f8.f2.f3), .int .i64 ((rd_T69 l0_0 XD).f8.f3.f0), .int .i64 ((rd_T69 l0_0 XD).f8.f3.f1), .int .i64 ((rd_T69 l0_0 XD).f8.f4.f0), .int .i64 ((rd_T69 l0_0 XD).f8.f4.f1), .int .i64 ((rd_T69 l0_0 XD).f9), .int .i64 ((rd_T69 l0_0 XD).f10), .slice Ya ((rd_T69 l0_0 XD).f11.f0).length Yb, .slice Yc ((rd_T69 l0_0 XD).f11.f1).length Yd] 69 (0, 0)) z5_15 hb); replace HB := bS z5_6 hb; clear hb; (try clear hk); refine bc_31 XH.out ?_; intros) | ((with_reducible refine gate_builtin (b := .append) (xs := #[.tmp 23, .tmp 26]) rfl ?_); at_builtin; refine Kd.R_append (Kd.int .i64) (w0 := w) w.heap.size rfl (.tmp 23) (.tmp 26) 24 3 (.int .i64 0) 8 rfl Try.underlying24 info3 rfl (by decide) (by omega) u5 YH ((rd_T69 l0_0 XD).f0) [.int .i64 ((rd_T69 l0_0 XD).f0)] (fun _ => True) (fun _ => False) rfl rfl ?aP (fun _ hk => hk.elim) ?aF ?aO ?aB ?aS ?aL ?_; (case aP => exact rfl); (case aB => exact z5_6); (case aF => exact (fun _ _ => trivial)); (case aO => exact (pkR YF)); (case aS => exact (below_size z5_6)); (case aL => have := LMc17.out; omega); intro v137 w23 ho hb hg hat; rw [← JX.out] at ho; replace XE := mk0 (gB XE (pkb XE) hg (Kd.R_ne YF.out XE.out (by decide))); replace XH := mk0 (gB XH (pkb XH) hg (Kd.R_ne YF.out XH.out (by decide))); replace HB := mk0 (hb); have JY := mk0 (ho); clear YF ho hb hg hat) | ((with_reducible refine gate_load (t := 69) rfl ?_); refine load_blk (t := 69) rfl rfl XH rfl z5_17 Try.underlying69 rfl (show (Try.prog.info? 69).map (·.size) = some 31 by kernel_rfl) rfl ?_) | ((with_reducible refine gate_store (t := 69) rfl ?_); refine wstore_blk (t := 69) rfl rfl XH rfl rfl z5_17 rfl (show (Try.prog.info? 69).map (·.size) = some 31 by kernel_rfl) rfl ?_; simp only [World.setCells, Nat.reduceAdd]) | ((with_reducible refine gate_load (t := 69) rfl ?_); refine load_event (t := 69) rfl rfl (p := ⟨XF, 0, none⟩) rfl [.int .i64 ((rd_T69 l0_0 XD).f0), .int .i64 ((rd_T69 l0_0 XD).f1), .bool ((rd_T69 l0_0 XD).f2), .int .i64 ((rd_T69 l0_0 XD).f3.f0), .int .i64 ((rd_T69 l0_0 XD).f3.f1), .int .i64 ((rd_T69 l0_0 XD).f3.f2), .int .i64 ((rd_T69 l0_0 XD).f3.f3), .int .i64 ((rd_T69 l0_0 XD).f3.f4), .int .i64 ((rd_T69 l0_0 XD).f3.f5), .slice Yo ((rd_T69 l0_0 XD).f4.f0).length Yp, .slice X6 ((rd_T69 l0_0 XD).f4.f1).length X7, .bool ((rd_T69 l0_0 XD).f5), .int .i64 ((rd_T69 l0_0 XD).f6), .slice X8 ((rd_T69 l0_0 XD).f7).length X9, .int .i64 ((rd_T69 l0_0 XD).f8.f0), .int .i64 ((rd_T69 l0_0 XD).f8.f1.f0), .int .i64 ((rd_T69 l0_0 XD).f8.f1.f1), .int .i64 ((rd_T69 l0_0 XD).f8.f1.f2), .int .i64 ((rd_T69 l0_0 XD).f8.f1.f3), .int .i64 ((rd_T69 l0_0 XD).f8.f2.f0), .int .i64 ((rd_T69 l0_0 XD).f8.f2.f1), .int .i64 ((rd_T69 l0_0 XD).f8.f2.f2), .int .i64 ((rd_T69 l0_0 XD).f8.f2.f3), .int .i64 ((rd_T69 l0_0 XD).f8.f3.f0), .int .i64 ((rd_T69 l0_0 XD).f8.f3.f1), .int .i64 ((rd_T69 l0_0 XD).f8.f4.f0), .int .i64 ((rd_T69 l0_0 XD).f8.f4.f1), .int .i64 ((rd_T69 l0_0 XD).f9), .int .i64 ((rd_T69 l0_0 XD).f10), .slice Ya ((rd_T69 l0_0 XD).f11.f0).length Yb, .slice Yc ((rd_T69 l0_0 XD).f11.f1).length Yd] _ (lie_of_blk (cs := #[.int .i64 ((rd_T69 l0_0 XD).f0), .int .i64 ((rd_T69 l0_0 XD).f1), .bool ((rd_T69 l0_0 XD).f2), .int .i64 ((rd_T69 l0_0 XD).f3.f0), .int .i64 ((rd_T69 l0_0 XD).f3.f1), .int .i64 ((rd_T69 l0_0 XD).f3.f2), .int .i64 ((rd_T69 l0_0 XD).f3.f3), .int .i64 ((rd_T69 l0_0 XD).f3.f4), .int .i64 ((rd_T69 l0_0 XD).f3.f5), .slice Yo ((rd_T69 l0_0 XD).f4.f0).length Yp, .slice X6 ((rd_T69 l0_0 XD).f4.f1).length X7, .bool ((rd_T69 l0_0 XD).f5), .int .i64 ((rd_T69 l0_0 XD).f6), .slice X8 ((rd_T69 l0_0 XD).f7).length X9, .int .i64 ((rd_T69 l0_0 XD).f8.f0), .int .i64 ((rd_T69 l0_0 XD).f8.f1.f0), .int .i64 ((rd_T69 l0_0 XD).f8.f1.f1), .int .i64 ((rd_T69 l0_0 XD).f8.f1.f2), .int .i64 ((rd_T69 l0_0 XD).f8.f1.f3), .int .i64 ((rd_T69 l0_0 XD).f8.f2.f0), .int .i64 ((rd_T69 l0_0 XD).f8.f2.f1), .int .i64 ((rd_T69 l0_0 XD).f8.f2.f2), .int .i64 ((rd_T69 l0_0 XD).f8.f2.f3), .int .i64 ((rd_T69 l0_0 XD).f8.f3.f0), .int .i64 ((rd_T69 l0_0 XD).f8.f3.f1), .int .i64 ((rd_T69 l0_0 XD).f8.f4.f0), .int .i64 ((rd_T69 l0_0 XD).f8.f4.f1), .int .i64 ((rd_T69 l0_0 XD).f9), .int .i64 ((rd_T69 l0_0 XD).f10), .slice Ya ((rd_T69 l0_0 XD).f11.f0).length Yb, .slice Yc ((rd_T69 l0_0 XD).f11.f1).length Yd]) (t := 69) z5_15) Try.underlying69 rfl (show (Try.prog.info? 69).map (·.size) = some 31 by kernel_rfl) ?_))
   go_roundg k1
   case measure => have := HK1.out; omega
   case rel => exact ⟨(JW), (wrap64 (XD + 1)), rs0, H', ⟨(by have := HK1.out; omega)⟩, ⟨pkR JY⟩, ⟨pkb XE⟩, ⟨z5_6⟩⟩

/-- A state of type 104 at block g of W; what its slices lead to came in by w0. -/
def IsS104 (w0 W : World) (g : Nat) (f0 : List Int) (f1 : Int) (f2 : Int) : Prop := ∃ A0 c0, W.heap[g]? = some (.cells #[.slice A0 f0.length c0, .int .i64 f1, .int .i64 f2] 104 (0, 0)) ∧ w0.heap.size ≤ g ∧ Kd.C (Kd.int .u8) w0 A0 f0.length f0
theorem IsS104.grown {w0 W : World} {g : Nat} {f0 : List Int} {f1 : Int} {f2 : Int} {W1 : World} {row : Option Nat} (h : IsS104 w0 W g f0 f1 f2) (hw : W.grownBy W1 row) (hne : some g ≠ row) : IsS104 w0 W1 g f0 f1 f2 := by
 obtain ⟨A0, c0, hb, hg, hr0⟩ := h
 exact ⟨A0, c0, blk_grown hb hw hne, hg, hr0⟩
theorem IsS104.own_neN {w0 W : World} {g : Nat} {f0 : List Int} {f1 : Int} {f2 : Int} {α : Type} {d : Kd α} {e : Nat} {base : Nat} {ok : Nat → Prop} {v : Value} {xs : List α} (h : IsS104 w0 W g f0 f1 f2) (ho : Kd.N d e W base ok v xs) (ht : e ≠ 104) : some g ≠ v.ownBlock := by
 obtain ⟨A0, c0, hb, hg, hr0⟩ := h
 exact Kd.N_ne ho hb ht
theorem IsS104.fresh {w0 W : World} {g : Nat} {f0 : List Int} {f1 : Int} {f2 : Int} (h : IsS104 w0 W g f0 f1 f2) : ∀ k, W.heap.size ≤ k → k ≠ g := by
 obtain ⟨A0, c0, hb, hg, hr0⟩ := h
 exact Kd.freshB hb
theorem IsS104.kept {w0 W : World} {g : Nat} {f0 : List Int} {f1 : Int} {f2 : Int} {W1 : World} {S : Nat → Prop} (h : IsS104 w0 W g f0 f1 f2) (hk : Kept W W1 S) (hne : ¬ S g) : IsS104 w0 W1 g f0 f1 f2 := by
 obtain ⟨A0, c0, hb, hg, hr0⟩ := h
 exact ⟨A0, c0, blk_kept hb hk hne, hg, hr0⟩
theorem IsS104.below {w0 W : World} {g : Nat} {f0 : List Int} {f1 : Int} {f2 : Int} {W1 : World} (h : IsS104 w0 W g f0 f1 f2) (hw : Below W.heap.size W W1) : IsS104 w0 W1 g f0 f1 f2 := h.grown (grown_of_below hw none) (by simp)
theorem IsS104.alloc {w0 W : World} {g : Nat} {f0 : List Int} {f1 : Int} {f2 : Int} (h : IsS104 w0 W g f0 f1 f2) (o : Obj) : IsS104 w0 (W.alloc o) g f0 f1 f2 := h.below (below_alloc (Below.refl _ _) o)
theorem IsS104.drewN {w0 W : World} {g : Nat} {f0 : List Int} {f1 : Int} {f2 : Int} (h : IsS104 w0 W g f0 f1 f2) (m : Nat) : IsS104 w0 (W.drewN m) g f0 f1 f2 := h
theorem IsS104.drew {w0 W : World} {g : Nat} {f0 : List Int} {f1 : Int} {f2 : Int} (h : IsS104 w0 W g f0 f1 f2) : IsS104 w0 W.drew g f0 f1 f2 := h
theorem IsS104.at_ {w0 W : World} {g : Nat} {f0 : List Int} {f1 : Int} {f2 : Int} {w' : World} {m : Nat} (hq : W.drewN m = w') (h : IsS104 w0 W g f0 f1 f2) : IsS104 w0 w' g f0 f1 f2 := by subst hq; exact IsS104.drewN h m
theorem IsS104.apart {w0 W : World} {g : Nat} {f0 : List Int} {f1 : Int} {f2 : Int} {α : Type} {d : Kd α} {e : Nat} {base : Nat} {ok : Nat → Prop} {v : Value} {xs : List α} (h : IsS104 w0 W g f0 f1 f2) (ho : d.R e W base ok v xs) (ht : ∀ q, q ∈ e :: d.E → q ≠ 104) : d.R e W base (fun k => ok k ∧ k ≠ g) v xs := by
 obtain ⟨A0, c0, hb, hg, hr0⟩ := h
 exact Kd.R_types ho hb ht
theorem IsS104.own_ne {w0 W : World} {g : Nat} {f0 : List Int} {f1 : Int} {f2 : Int} {α : Type} {d : Kd α} {e : Nat} {base : Nat} {ok : Nat → Prop} {v : Value} {xs : List α} (h : IsS104 w0 W g f0 f1 f2) (ho : d.R e W base ok v xs) (ht : e ≠ 104) : some g ≠ v.ownBlock := by
 obtain ⟨A0, c0, hb, hg, hr0⟩ := h
 exact Kd.R_ne ho hb ht
theorem IsS104.apartQ {w0 W : World} {g : Nat} {f0 : List Int} {f1 : Int} {f2 : Int} {α : Type} {d : Kd α} {e : Nat} {base : Nat} {ok : Nat → Prop} {v : Value} {xs : List α} (h : IsS104 w0 W g f0 f1 f2) (ho : d.Q e W base ok v xs) (ht : ∀ q, q ∈ e :: d.E → q ≠ 104) : d.Q e W base (fun k => ok k ∧ k ≠ g) v xs := by
 obtain ⟨A0, c0, hb, hg, hr0⟩ := h
 exact Kd.Q_types ho hb ht
theorem IsS104.own_neQ {w0 W : World} {g : Nat} {f0 : List Int} {f1 : Int} {f2 : Int} {α : Type} {d : Kd α} {e : Nat} {base : Nat} {ok : Nat → Prop} {v : Value} {xs : List α} (h : IsS104 w0 W g f0 f1 f2) (ho : d.Q e W base ok v xs) (ht : e ≠ 104) : some g ≠ v.ownBlock := by
 obtain ⟨A0, c0, hb, hg, hr0⟩ := h
 exact Kd.Q_ne ho hb ht
theorem IsS104.apartS {w0 W : World} {g : Nat} {f0 : List Int} {f1 : Int} {f2 : Int} {α : Type} {d : Kd α} {e : Nat} {base : Nat} {ok : Nat → Prop} {v : Value} {xs : List α} (h : IsS104 w0 W g f0 f1 f2) (ho : d.S e W base ok v xs) (ht : ∀ q, q ∈ e :: d.E → q ≠ 104) : d.S e W base (fun k => ok k ∧ k ≠ g) v xs := by
 obtain ⟨A0, c0, hb, hg, hr0⟩ := h
 exact Kd.S_types ho hb ht
theorem IsS104.own_neS {w0 W : World} {g : Nat} {f0 : List Int} {f1 : Int} {f2 : Int} {α : Type} {d : Kd α} {e : Nat} {base : Nat} {ok : Nat → Prop} {v : Value} {xs : List α} (h : IsS104 w0 W g f0 f1 f2) (ho : d.S e W base ok v xs) (ht : e ≠ 104) : some g ≠ v.ownBlock := by
 obtain ⟨A0, c0, hb, hg, hr0⟩ := h
 exact Kd.S_ne ho hb ht
theorem IsS104.lt {w0 W : World} {g : Nat} {f0 : List Int} {f1 : Int} {f2 : Int} (h : IsS104 w0 W g f0 f1 f2) : g < W.heap.size := by
 obtain ⟨A0, c0, hb, hg, hr0⟩ := h
 exact blk_lt hb
theorem IsS104.ge {w0 W : World} {g : Nat} {f0 : List Int} {f1 : Int} {f2 : Int} (h : IsS104 w0 W g f0 f1 f2) : w0.heap.size ≤ g := by
 obtain ⟨A0, c0, hb, hg, hr0⟩ := h
 exact hg
theorem IsS104.ne_blk {w0 W : World} {g : Nat} {f0 : List Int} {f1 : Int} {f2 : Int} {a : Nat} {cs : Array Value} {t : TypeId} {fr : Nat × Nat} (h : IsS104 w0 W g f0 f1 f2) (hb2 : W.heap[a]? = some (.cells cs t fr)) (ht : t ≠ 104) : g ≠ a := by
 obtain ⟨A0, c0, hb, hg, hr0⟩ := h; rintro rfl; rw [hb] at hb2
 injection hb2 with hb2
 injection hb2 with _ ht2
 exact ht ht2.symm
theorem IsS104.far {w0 W : World} {g : Nat} {f0 : List Int} {f1 : Int} {f2 : Int} {p : Addr} (h : IsS104 w0 W g f0 f1 f2) (hne : g ≠ p.block) (u : Value) : IsS104 w0 (W.setCell p u) g f0 f1 f2 := by
 obtain ⟨A0, c0, hb, hg, hr0⟩ := h
 exact ⟨A0, c0, blk_far hb hne u, hg, hr0⟩
theorem IsS104.farB {w0 W : World} {g : Nat} {f0 : List Int} {f1 : Int} {f2 : Int} {b i : Nat} {u : Value} (n : g ≠ b) (h : IsS104 w0 W g f0 f1 f2) : IsS104 w0 (W.setCell ⟨b, i, none⟩ u) g f0 f1 f2 := h.far n u
theorem IsS104.farW {w0 : World} {g : Nat} {f0 : List Int} {f1 : Int} {f2 : Int} {b : Nat} (n : g ≠ b) : ∀ (vs : List Value) {W : World} {j : Nat}, IsS104 w0 W g f0 f1 f2 → IsS104 w0 (W.setCells b j vs) g f0 f1 f2
 | [], _, _, h => h
 | v :: vs, W, j, h => by
  rw [World.setCells]
  exact IsS104.farW n vs (IsS104.farB n h)
theorem IsS104.farE {w0 w w1 : World} {g : Nat} {f0 : List Int} {f1 : Int} {f2 : Int} {b j : Nat} {vs : List Value} (hw : w1 = w.setCells b j vs) (n : g ≠ b) (h : IsS104 w0 w g f0 f1 f2) : IsS104 w0 w1 g f0 f1 f2 := hw ▸ IsS104.farW n vs h
theorem cellS104_0 {W : World} {g : Nat} {A0 : Option Addr} {c0 : Nat} {f0 : List Int} {f1 : Int} {f2 : Int} (h : W.heap[g]? = some (.cells #[.slice A0 f0.length c0, .int .i64 f1, .int .i64 f2] 104 (0, 0))) : W.cell? ⟨g, 0, none⟩ = some (.slice A0 f0.length c0) := (blk_cell h 0).trans rfl
theorem cellS104_1 {W : World} {g : Nat} {A0 : Option Addr} {c0 : Nat} {f0 : List Int} {f1 : Int} {f2 : Int} (h : W.heap[g]? = some (.cells #[.slice A0 f0.length c0, .int .i64 f1, .int .i64 f2] 104 (0, 0))) : W.cell? ⟨g, 1, none⟩ = some (.int .i64 f1) := (blk_cell h 1).trans rfl
theorem IsS104.set_1 {w0 W : World} {g : Nat} {f0 : List Int} {f1 : Int} {f2 : Int} (h : IsS104 w0 W g f0 f1 f2) (x : Int) : IsS104 w0 (W.setCell ⟨g, 1, none⟩ (.int .i64 x)) g f0 x f2 := by
 obtain ⟨A0, c0, hb, hg, hr0⟩ := h
 exact ⟨A0, c0, (by simpa using blk_set hb 1 (.int .i64 x)), hg, hr0⟩
theorem cellS104_2 {W : World} {g : Nat} {A0 : Option Addr} {c0 : Nat} {f0 : List Int} {f1 : Int} {f2 : Int} (h : W.heap[g]? = some (.cells #[.slice A0 f0.length c0, .int .i64 f1, .int .i64 f2] 104 (0, 0))) : W.cell? ⟨g, 2, none⟩ = some (.int .i64 f2) := (blk_cell h 2).trans rfl
theorem IsS104.set_2 {w0 W : World} {g : Nat} {f0 : List Int} {f1 : Int} {f2 : Int} (h : IsS104 w0 W g f0 f1 f2) (x : Int) : IsS104 w0 (W.setCell ⟨g, 2, none⟩ (.int .i64 x)) g f0 f1 x := by
 obtain ⟨A0, c0, hb, hg, hr0⟩ := h
 exact ⟨A0, c0, (by simpa using blk_set hb 2 (.int .i64 x)), hg, hr0⟩
theorem IsS104.new (w0 W : World) (A0 : Option Addr) (c0 : Nat) (f0 : List Int) (f1 : Int) (f2 : Int) (hB : Below w0.heap.size w0 W) (hr0 : Kd.C (Kd.int .u8) w0 A0 f0.length f0) : IsS104 w0 (W.alloc (.cells #[.slice A0 f0.length c0, .int .i64 f1, .int .i64 f2] 104)) W.heap.size f0 f1 f2 := ⟨A0, c0, by simpa using heap_alloc_new W _, hB.size, hr0⟩

/-! ### spec_l01New: function 45 -/
def spec_l01New.l0 : Nat → List Int → Int → Int → Option (List Int × Int × Int)
 | 0, _, _, _ => none
 | k + 1, x0, x3, x4 => if x4 < (x0.length : Int) then (if x4 < 4000 then (if 0 ≤ x4 then (spec_l01New.l0 k x0 (Go.bits .and .i64 (wrap64 ((wrap64 ((wrap64 (x3 * 131)) + (wrap64 (rd x0 x4)))) + 7)) 1073741823) (wrap64 (x4 + 1))) else (none)) else (some (x0, 0, x3))) else (some (x0, 0, x3))
def spec_l01New.f (k : Nat) (l0 : List Int) : Option (List Int × Int × Int) := spec_l01New.l0 k l0 (wrap64 (28001 + (l0.length : Int))) 0
theorem spec_l01New.mono_l : ∀ k, (∀ y0 y1 y2, LeO (spec_l01New.l0 k y0 y1 y2) (spec_l01New.l0 (k + 1) y0 y1 y2))
 | 0 => fun _ _ _ r h => by simp [spec_l01New.l0] at h
 | k + 1 => by
  have ih0 := spec_l01New.mono_l k
  ·intro y0 y1 y2
   unfold spec_l01New.l0
   with_reducible repeat' first | apply ih0 | exact LeO.refl _ | exact LeO.none _ | refine LeO.ite ?_ ?_ | refine LeO.bind ?_ (fun _ => ?_)
theorem spec_l01New.mono : ∀ a0 k, LeO (spec_l01New.f k a0) (spec_l01New.f (k + 1) a0) := by
 intro a0 k; have ih0 := spec_l01New.mono_l k
 unfold spec_l01New.f
 with_reducible repeat' first | apply ih0 | exact LeO.refl _ | exact LeO.none _ | refine LeO.ite ?_ ?_ | refine LeO.bind ?_ (fun _ => ?_)
set_option maxHeartbeats 8000000 in
set_option maxRecDepth 100000 in
theorem spec_l01New.calls (k : Nat) (A0 : Option Addr) (c0 : Nat) (l0 : List Int) (r1 : List Int) (r2 : Int) (r3 : Int) (w0 w : World) (hB : Below w0.heap.size w0 w) (hr0 : Kd.C (Kd.int .u8) w0 A0 l0.length l0) (hc0 : l0.length ≤ c0) (h : spec_l01New.f k l0 = some (r1, r2, r3)) :
  Calls Try.prog 45 #[.slice A0 l0.length c0] w fun e w' => ∃ g_ : Nat, e = .returned (.pointer (some ⟨g_, 0, none⟩)) ∧ IsS104 w0 w' g_ r1 r2 r3 ∧ Below w0.heap.size w0 w' ∧ Below w.heap.size w w' := by
 have hu104 := Try.underlying104; have HR0 := mk0 hr0; have HC0 := mk0 hc0; clear hr0 hc0; have HBW := mk0 (Below.refl w.heap.size w); have HW0 := mk0 hB.size; have HB := mk0 hB; clear hB
 have H := h; unfold spec_l01New.f at H
 clear h
 have H' := mk0 H
 clear H; go_enter Try.func45, Try.ntmps45
 go_wp2
 go_loopg [3, 4] k (fun kq v3 v4 w' => ∃ (Zg : Int) (YJ : Int), v3 = .int .i64 Zg ∧ v4 = .int .i64 YJ ∧ Aside0 (spec_l01New.l0 kq l0 Zg YJ = some (r1, r2, r3)) ∧ Aside0 (kq ≤ k) ∧ Aside0 (Below w0.heap.size w0 w') ∧ Aside0 (Below w.heap.size w w'))
 case atStart => exact ⟨(wrap64 (28001 + (l0.length : Int))), (0), rs0, rs0, H', ⟨Nat.le_refl _⟩, ⟨q_162⟩, ⟨z5_16⟩⟩
 case round =>
  clear H'; obtain ⟨Zg, YJ, rfl, rfl, HA, HK1, HB, HBW⟩ := hrel
  cases gk with
  | zero => exact absurd HA.out (by simp [spec_l01New.l0])
  | succ k1 =>
   have H := HA.out; clear HA; simp only [spec_l01New.l0] at H
   by_cases c2 : YJ < (l0.length : Int)
   rotate_left
   ·rw [if_neg c2] at H; have c2b0 := decide_eq_false c2; clear c2; simp only [Option.some.injEq, Prod.mk.injEq] at H; obtain ⟨rfl, rfl, rfl⟩ := H
    go_wp2_with (first | ((with_reducible refine gate_dst (N := 31) rfl ?_); refine boxz (cs := #[.slice A0 l0.length c0, .int .i64 0, .int .i64 Zg]) (t := 104) rfl ?_; intro Jq hg w6 hbox hb; have JZ := mk0 (ge_go (a := w.heap.size) hg (below_size z5_16)); have JC := mk0 ((Nat.le_trans HW0.out (by rw [hg]; exact (below_size z5_16) : w.heap.size ≤ Jq) : w0.heap.size ≤ Jq)); replace HBW := mk0 (below_step HBW.out hb); replace HB := bS q_162 hb; have J0 := mk0 (hbox); clear hb hbox hg))
    go_ret
    exact ⟨_, rfl, (show IsS104 w0 _ Jq l0 0 Zg from ⟨_, _, pkb J0, JC.out, HR0.out⟩), (by repeat (first | (with_reducible first | exact HB.out | apply below_alloc | apply pw_below_drewN | apply below_drew1 | refine below_set ?_ JC.out) | exact HB.out)), (by repeat (first | (with_reducible first | exact HBW.out | apply below_alloc | apply pw_below_drewN | apply below_drew1 | refine below_set ?_ JZ.out) | exact HBW.out))⟩
   rw [if_pos c2] at H; have c2b0 := decide_eq_true c2; clear c2
   by_cases c3 : YJ < 4000
   ·rw [if_pos c3] at H; have c3b0 := decide_eq_true c3; clear c3
    by_cases c4 : 0 ≤ YJ
    rotate_left
    ·rw [if_neg c4] at H
     exact absurd H (by simp)
    rw [if_pos c4] at H; have c4b0 := decide_eq_true c4; clear c4
    have H' := mk0 H
    clear H
    have JH : 0 ≤ (YJ : Int) := of_decide_eq_true (by first | (with_reducible assumption) | assumption)
    have JI : YJ < (l0.length : Int) := of_decide_eq_true (by first | (with_reducible assumption) | assumption)
    obtain ⟨U1, e139, ZZ⟩ := Kd.at_int HR0.out YJ JH JI
    cases e139
    replace ZZ := pw_cell_below HB.out ZZ; replace JH := eq_true JH; replace JI := eq_true JI
    go_wp2
    go_roundg k1
    case measure => have := HK1.out; omega
    case rel => exact ⟨(Go.bits .and .i64 (wrap64 ((wrap64 ((wrap64 (Zg * 131)) + (wrap64 (rd l0 YJ)))) + 7)) 1073741823), (wrap64 (YJ + 1)), rs0, rs0, H', ⟨(by have := HK1.out; omega)⟩, ⟨q_162⟩, ⟨z5_16⟩⟩
   rw [if_neg c3] at H; have c3b0 := decide_eq_false c3; clear c3; simp only [Option.some.injEq, Prod.mk.injEq] at H; obtain ⟨rfl, rfl, rfl⟩ := H
   go_wp2_with (first | ((with_reducible refine gate_dst (N := 31) rfl ?_); refine boxz (cs := #[.slice A0 l0.length c0, .int .i64 0, .int .i64 Zg]) (t := 104) rfl ?_; intro Jr hg w5 hbox hb; have J1 := mk0 (ge_go (a := w.heap.size) hg (below_size z5_16)); have JD := mk0 ((Nat.le_trans HW0.out (by rw [hg]; exact (below_size z5_16) : w.heap.size ≤ Jr) : w0.heap.size ≤ Jr)); replace HBW := mk0 (below_step HBW.out hb); replace HB := bS q_162 hb; have J2 := mk0 (hbox); clear hb hbox hg))
   go_ret
   exact ⟨_, rfl, (show IsS104 w0 _ Jr l0 0 Zg from ⟨_, _, pkb J2, JD.out, HR0.out⟩), (by repeat (first | (with_reducible first | exact HB.out | apply below_alloc | apply pw_below_drewN | apply below_drew1 | refine below_set ?_ JD.out) | exact HB.out)), (by repeat (first | (with_reducible first | exact HBW.out | apply below_alloc | apply pw_below_drewN | apply below_drew1 | refine below_set ?_ J1.out) | exact HBW.out))⟩

/-! ### spec_l01Byte: function 46 -/
def spec_l01Byte.f (s0_0 : List Int) (s0_1 : Int) (s0_2 : Int) : Option (Int × Int × Int) := if s0_1 < (s0_0.length : Int) then (if 0 ≤ s0_1 then (some (Go.bits .and .i64 (wrap64 ((Go.bits .and .i64 (Go.bits .xor .i64 ((wrap64 ((wrap64 (s0_2 * 6364136223846793005)) + 1442695040888963407)) / 8589934592) ((wrap64 ((wrap64 (s0_2 * 6364136223846793005)) + 1442695040888963407)) / 35184372088832)) 255) + (wrap64 (rd s0_0 s0_1)))) 255, wrap64 (s0_1 + 1), wrap64 ((wrap64 (s0_2 * 6364136223846793005)) + 1442695040888963407))) else (none)) else (some (Go.bits .and .i64 (Go.bits .xor .i64 ((wrap64 ((wrap64 (s0_2 * 6364136223846793005)) + 1442695040888963407)) / 8589934592) ((wrap64 ((wrap64 (s0_2 * 6364136223846793005)) + 1442695040888963407)) / 35184372088832)) 255, s0_1, wrap64 ((wrap64 (s0_2 * 6364136223846793005)) + 1442695040888963407)))
set_option maxHeartbeats 8000000 in
set_option maxRecDepth 100000 in
theorem spec_l01Byte.calls (g : Nat) (s0_0 : List Int) (s0_1 : Int) (s0_2 : Int) (r1 : Int) (r2 : Int) (r3 : Int) (w0 w : World) (hI : IsS104 w0 w g s0_0 s0_1 s0_2) (hB : Below w0.heap.size w0 w) (h : spec_l01Byte.f s0_0 s0_1 s0_2 = some (r1, r2, r3)) :
  Calls Try.prog 46 #[.pointer (some ⟨g, 0, none⟩)] w fun e w' => e = .returned (.int .i64 r1) ∧ IsS104 w0 w' g s0_0 r2 r3 ∧ Below w0.heap.size w0 w' ∧ KeepBut w w' g none := by
 have HI0 := mk0 hI; have HK := mk0 (KeepBut.refl w g none); have HL := mk0 hB.size; clear hI; have HW0 := mk0 hB.size; have HB := mk0 hB; clear hB
 have H := h; unfold spec_l01Byte.f at H
 clear h
 by_cases c2 : s0_1 < (s0_0.length : Int)
 rotate_left
 ·rw [if_neg c2] at H; have c2b0 := decide_eq_false c2; clear c2; simp only [Option.some.injEq, Prod.mk.injEq] at H; obtain ⟨rfl, rfl, rfl⟩ := H; obtain ⟨ASz5_0, cSz5_0, HGz5, hgz5, HSz5_0⟩ := HI0.out; have hcz5_0 := cellS104_0 HGz5; have hcz5_1 := cellS104_1 HGz5; have hcz5_2 := cellS104_2 HGz5; have hfz5_1 := blk_frozen HGz5 1; have hfz5_2 := blk_frozen HGz5 2; clear HGz5 hgz5; go_enter Try.func46, Try.ntmps46
  go_wp2
  repeat (go_quiet (fail); try go_wp2)
  go_ret
  exact ⟨q_94, q_177, q_129, q_191⟩
 rw [if_pos c2] at H; have c2b0 := decide_eq_true c2; clear c2
 by_cases c3 : 0 ≤ s0_1
 rotate_left
 ·rw [if_neg c3] at H
  exact absurd H (by simp)
 rw [if_pos c3] at H; have c3b0 := decide_eq_true c3; clear c3; simp only [Option.some.injEq, Prod.mk.injEq] at H; obtain ⟨rfl, rfl, rfl⟩ := H; obtain ⟨ASz4_0, cSz4_0, HGz4, hgz4, HSz4_0⟩ := HI0.out; have hcz4_0 := cellS104_0 HGz4; have hcz4_1 := cellS104_1 HGz4; have hcz4_2 := cellS104_2 HGz4; have hfz4_1 := blk_frozen HGz4 1; have hfz4_2 := blk_frozen HGz4 2; clear HGz4 hgz4
 have JJ : 0 ≤ (s0_1 : Int) := of_decide_eq_true (by first | (with_reducible assumption) | assumption)
 have JK : s0_1 < (s0_0.length : Int) := of_decide_eq_true (by first | (with_reducible assumption) | assumption)
 obtain ⟨J3, e142, Yz⟩ := Kd.at_int HSz4_0 s0_1 JJ JK
 cases e142
 have hn142_0 : J3.block ≠ g := Nat.ne_of_lt (Nat.lt_of_lt_of_le (by have := World.block_lt_of_cell? _ _ Yz; first | rwa [add_block] at this | exact this) (IsS104.ge HI0.out))
 replace Yz := pw_cell_below HB.out Yz
 replace Yz := (cell_far (p := ⟨g, 2, none⟩) (by first | (rw [add_block]; exact hn142_0) | (show (Addr.add _ _).block ≠ _; rw [add_block]; exact hn142_0) | exact hn142_0) (.int .i64 (wrap64 ((wrap64 (s0_2 * 6364136223846793005)) + 1442695040888963407)))).trans Yz
 (try have Uu := fun (n_ : Nat) => (show (((w.drewN n_).setCell ⟨g, 2, none⟩ (.int .i64 (wrap64 ((wrap64 (s0_2 * 6364136223846793005)) + 1442695040888963407))))).cell? _ = some _ from Yz))
 clear hn142_0; replace JJ := eq_true JJ; replace JK := eq_true JK; go_enter Try.func46, Try.ntmps46
 go_wp2
 repeat (go_quiet (fail); try go_wp2)
 go_ret
 exact ⟨q_94, q_177, q_129, q_191⟩

/-! ### spec_l01Below: function 47 -/
def spec_l01Below.f (s0_0 : List Int) (s0_1 : Int) (s0_2 : Int) (a1 : Int) : Option (Int × Int × Int) := if a1 ≤ 0 then (some (0, s0_1, s0_2)) else (if a1 ≤ 256 then ((spec_l01Byte.f s0_0 s0_1 s0_2).bind fun Js => (if a1 = 0 then (none) else (some (Int.tmod Js.1 a1, Js.2.1, Js.2.2)))) else ((spec_l01Byte.f s0_0 s0_1 s0_2).bind fun Jt => ((spec_l01Byte.f s0_0 Jt.2.1 Jt.2.2).bind fun Ju => ((spec_l01Byte.f s0_0 Ju.2.1 Ju.2.2).bind fun Jv => ((spec_l01Byte.f s0_0 Jv.2.1 Jv.2.2).bind fun Jw => (if a1 = 0 then (none) else (some (Int.tmod (wrap64 ((wrap64 ((wrap64 ((wrap64 (Jt.1 * 16777216)) + (wrap64 (Ju.1 * 65536)))) + (wrap64 (Jv.1 * 256)))) + Jw.1)) a1, Jw.2.1, Jw.2.2))))))))
set_option maxHeartbeats 8000000 in
set_option maxRecDepth 100000 in
theorem spec_l01Below.calls (g : Nat) (s0_0 : List Int) (s0_1 : Int) (s0_2 : Int) (a1 : Int) (r1 : Int) (r2 : Int) (r3 : Int) (w0 w : World) (hI : IsS104 w0 w g s0_0 s0_1 s0_2) (hB : Below w0.heap.size w0 w) (h : spec_l01Below.f s0_0 s0_1 s0_2 a1 = some (r1, r2, r3)) :
  Calls Try.prog 47 #[.pointer (some ⟨g, 0, none⟩), .int .i64 a1] w fun e w' => e = .returned (.int .i64 r1) ∧ IsS104 w0 w' g s0_0 r2 r3 ∧ Below w0.heap.size w0 w' ∧ KeepBut w w' g none := by
 have HI0 := mk0 hI; have HK := mk0 (KeepBut.refl w g none); have HL := mk0 hB.size; clear hI; have HW0 := mk0 hB.size; have HB := mk0 hB; clear hB
 have H := h; unfold spec_l01Below.f at H
 clear h
 by_cases c3 : a1 ≤ 0
 ·rw [if_pos c3] at H; have c3b0 := decide_eq_true c3; clear c3; simp only [Option.some.injEq, Prod.mk.injEq] at H; obtain ⟨rfl, rfl, rfl⟩ := H; go_enter Try.func47, Try.ntmps47
  go_wp2
  go_ret
  exact ⟨q_94, q_177, q_129, q_191⟩
 rw [if_neg c3] at H; have c3b0 := decide_eq_false c3; clear c3
 by_cases c4 : a1 ≤ 256
 ·rw [if_pos c4] at H; have c4b0 := decide_eq_true c4; clear c4
  obtain ⟨⟨UH, UI, UJ⟩, A5, H⟩ := bnd H
  try dsimp only at H
  by_cases c6 : a1 = 0
  ·rw [if_pos c6] at H
   exact absurd H (by simp)
  rw [if_neg c6] at H
  have c6b0 : (a1 == 0) = false := beq_eq_false_iff_ne.mpr c6
  have c6b1 : (a1 != 0) = true := bne_iff_ne.mpr c6
  simp only [Option.some.injEq, Prod.mk.injEq] at H; obtain ⟨rfl, rfl, rfl⟩ := H
  go_enter Try.func47, Try.ntmps47
  go_wp2_with (first | ((with_reducible refine gate_callee (f := 46) rfl ?_); refine gl_ (some 14) Try.func46 #[.pointer (some ⟨g, 0, none⟩)] rfl q_1 ?_; (with_reducible refine (spec_l01Byte.calls g s0_0 s0_1 s0_2 UH UI UJ w0 _ ?side1 ?side2 A5.out).mono ?_); (case side1 => exact q_177); (case side2 => exact q_129); rintro e w7 ⟨rfl, hi, hb, hk⟩; refine ⟨_, rfl, ?_⟩; replace HK := mk0 (KeepBut.trans q_191 hk (.inl rfl)); replace HB := mk0 (hb); replace HI0 := mk0 (hi); clear hb hk hi))
  go_ret
  exact ⟨q_94, q_177, q_129, q_191⟩
 rw [if_neg c4] at H; have c4b0 := decide_eq_false c4; clear c4
 obtain ⟨⟨UK, J4, J5⟩, A8, H⟩ := bnd H
 try dsimp only at H
 obtain ⟨⟨UL, J6, J7⟩, A9, H⟩ := bnd H
 try dsimp only at H
 obtain ⟨⟨UM, J8, J9⟩, A10, H⟩ := bnd H
 try dsimp only at H
 obtain ⟨⟨UN, UO, UQ⟩, A11, H⟩ := bnd H
 try dsimp only at H
 by_cases c12 : a1 = 0
 ·rw [if_pos c12] at H
  exact absurd H (by simp)
 rw [if_neg c12] at H
 have c12b0 : (a1 == 0) = false := beq_eq_false_iff_ne.mpr c12
 have c12b1 : (a1 != 0) = true := bne_iff_ne.mpr c12
 simp only [Option.some.injEq, Prod.mk.injEq] at H; obtain ⟨rfl, rfl, rfl⟩ := H
 go_enter Try.func47, Try.ntmps47
 go_wp2_with (first | ((with_reducible refine gate_callee (f := 46) rfl ?_); refine gl_ (some 18) Try.func46 #[.pointer (some ⟨g, 0, none⟩)] rfl q_1 ?_; (with_reducible refine (spec_l01Byte.calls g s0_0 s0_1 s0_2 UK J4 J5 w0 _ ?side1 ?side2 A8.out).mono ?_); (case side1 => exact q_177); (case side2 => exact q_129); rintro e w13 ⟨rfl, hi, hb, hk⟩; refine ⟨_, rfl, ?_⟩; replace HK := mk0 (KeepBut.trans q_191 hk (.inl rfl)); replace HB := mk0 (hb); replace HI0 := mk0 (hi); clear hb hk hi) | ((with_reducible refine gate_callee (f := 46) rfl ?_); refine gl_ (some 20) Try.func46 #[.pointer (some ⟨g, 0, none⟩)] rfl q_1 ?_; (with_reducible refine (spec_l01Byte.calls g s0_0 J4 J5 UL J6 J7 w0 _ ?side1 ?side2 A9.out).mono ?_); (case side1 => exact q_177); (case side2 => exact q_129); rintro e w14 ⟨rfl, hi, hb, hk⟩; refine ⟨_, rfl, ?_⟩; replace HK := mk0 (KeepBut.trans q_191 hk (.inl rfl)); replace HB := mk0 (hb); replace HI0 := mk0 (hi); clear hb hk hi) | ((with_reducible refine gate_callee (f := 46) rfl ?_); refine gl_ (some 22) Try.func46 #[.pointer (some ⟨g, 0, none⟩)] rfl q_1 ?_; (with_reducible refine (spec_l01Byte.calls g s0_0 J6 J7 UM J8 J9 w0 _ ?side1 ?side2 A10.out).mono ?_); (case side1 => exact q_177); (case side2 => exact q_129); rintro e w15 ⟨rfl, hi, hb, hk⟩; refine ⟨_, rfl, ?_⟩; replace HK := mk0 (KeepBut.trans q_191 hk (.inl rfl)); replace HB := mk0 (hb); replace HI0 := mk0 (hi); clear hb hk hi) | ((with_reducible refine gate_callee (f := 46) rfl ?_); refine gl_ (some 24) Try.func46 #[.pointer (some ⟨g, 0, none⟩)] rfl q_1 ?_; (with_reducible refine (spec_l01Byte.calls g s0_0 J8 J9 UN UO UQ w0 _ ?side1 ?side2 A11.out).mono ?_); (case side1 => exact q_177); (case side2 => exact q_129); rintro e w16 ⟨rfl, hi, hb, hk⟩; refine ⟨_, rfl, ?_⟩; replace HK := mk0 (KeepBut.trans q_191 hk (.inl rfl)); replace HB := mk0 (hb); replace HI0 := mk0 (hi); clear hb hk hi))
 go_ret
 exact ⟨q_94, q_177, q_129, q_191⟩

/-! ### spec_DepthOf: function 91 -/
def spec_DepthOf.l0 : Nat → Int → Int → Int → List (S69) → Option (Int)
 | 0, _, _, _, _ => none
 | k + 1, x1, x5, x6, YI => if x6 ≤ 8 then (if x1 = 0 then (some x5) else ((spec_NodeAt.f k YI x1).bind fun YE => (if YE < 0 then (some 0) else (if 0 ≤ YE then (if YE < (YI.length : Int) then (spec_DepthOf.l0 k ((rd_T69 YI YE).f1) (wrap64 (x5 + 1)) (wrap64 (x6 + 1)) YI) else (none)) else (none))))) else (some 0)
def spec_DepthOf.f (k : Nat) (l0_0 : List (S69)) (a1 : Int) : Option (Int) := spec_DepthOf.l0 k a1 0 0 l0_0
theorem spec_DepthOf.mono_l : ∀ k, (∀ y0 y1 y2 y3, LeO (spec_DepthOf.l0 k y0 y1 y2 y3) (spec_DepthOf.l0 (k + 1) y0 y1 y2 y3))
 | 0 => fun _ _ _ _ r h => by simp [spec_DepthOf.l0] at h
 | k + 1 => by
  have ih0 := spec_DepthOf.mono_l k
  ·intro y0 y1 y2 y3
   unfold spec_DepthOf.l0
   with_reducible repeat' first | apply ih0 | apply spec_NodeAt.mono | exact LeO.refl _ | exact LeO.none _ | refine LeO.ite ?_ ?_ | refine LeO.bind ?_ (fun _ => ?_)
theorem spec_DepthOf.mono : ∀ a0 a1 k, LeO (spec_DepthOf.f k a0 a1) (spec_DepthOf.f (k + 1) a0 a1) := by
 intro a0 a1 k; have ih0 := spec_DepthOf.mono_l k
 unfold spec_DepthOf.f
 with_reducible repeat' first | apply ih0 | apply spec_NodeAt.mono | exact LeO.refl _ | exact LeO.none _ | refine LeO.ite ?_ ?_ | refine LeO.bind ?_ (fun _ => ?_)
set_option maxHeartbeats 8000000 in
set_option maxRecDepth 100000 in
theorem spec_DepthOf.calls (k : Nat) (XI : Option Addr) (XG : Nat) (l0_0 : List (S69)) (a1 : Int) (r : Int) (w : World) (hr0_0 : Kd.C k69 w XI l0_0.length l0_0) (hc0_0 : l0_0.length ≤ XG) (h : spec_DepthOf.f k l0_0 a1 = some r) :
  Calls Try.prog 91 #[.agg #[.slice XI l0_0.length XG], .int .i64 a1] w fun e w' => e = .returned (.int .i64 r) ∧ Below w.heap.size w w' := by
 have hu53 := Try.underlying53; have Xe := mk0 hr0_0; have Yq := mk0 hc0_0; clear hr0_0 hc0_0; have HB := mk0 (Below.refl w.heap.size w)
 have H : (spec_DepthOf.l0 k a1 0 0 l0_0) = some r := h
 clear h
 have H' := mk0 H
 clear H; go_enter Try.func91, Try.ntmps91
 go_wp2_with (first | ((with_reducible refine gate_dst (N := 2) rfl ?_); refine boxz (cs := #[.slice XI l0_0.length XG]) (t := 53) rfl ?_; intro Ua hg w3 hbox hb; have Ub := mk0 (ge_go (a := w.heap.size) hg (below_size q_162)); have JN := Ub; replace HB := bS q_162 hb; have YA := mk0 (hbox); clear hb hbox hg))
 go_loopg [1, 5, 6] k (fun kq v1 v5 v6 w' => ∃ (XJ : Int) (YH : Int) (Jx : Int), v1 = .int .i64 XJ ∧ v5 = .int .i64 YH ∧ v6 = .int .i64 Jx ∧ Aside0 (spec_DepthOf.l0 kq XJ YH Jx l0_0 = some r) ∧ Aside0 (kq ≤ k) ∧ Aside0 (w'.heap[Ua]? = some (.cells #[(.slice XI l0_0.length XG)] 53 (0, 0))) ∧ Aside0 (Below w.heap.size w w'))
 case atStart => exact ⟨(a1), (0), (0), rs0, rs0, rs0, H', ⟨Nat.le_refl _⟩, ⟨pkb YA⟩, ⟨z5_10⟩⟩
 case round =>
  clear H'; obtain ⟨XJ, YH, Jx, rfl, rfl, rfl, HA, HK1, YA, HB⟩ := hrel
  cases gk with
  | zero => exact absurd HA.out (by simp [spec_DepthOf.l0])
  | succ k1 =>
   have H := HA.out; clear HA; simp only [spec_DepthOf.l0] at H
   by_cases c4 : Jx ≤ 8
   rotate_left
   ·rw [if_neg c4] at H; have c4b0 := decide_eq_false c4; clear c4
    obtain rfl := Option.some.inj H
    simp only [Option.some.injEq, Prod.mk.injEq] at H; obtain ⟨rfl⟩ := H
    go_wp2
    go_ret
    exact ⟨q_94, z5_10⟩
   rw [if_pos c4] at H; have c4b0 := decide_eq_true c4; clear c4
   by_cases c5 : XJ = 0
   ·rw [if_pos c5] at H
    have c5b0 : (XJ == 0) = true := beq_iff_eq.mpr c5
    have c5b1 : (XJ != 0) = false := bne_eq_false_iff_eq.mpr c5
    clear c5
    obtain rfl := Option.some.inj H
    simp only [Option.some.injEq, Prod.mk.injEq] at H; obtain ⟨rfl⟩ := H
    go_wp2
    go_ret
    exact ⟨q_94, z5_10⟩
   rw [if_neg c5] at H
   have c5b0 : (XJ == 0) = false := beq_eq_false_iff_ne.mpr c5
   have c5b1 : (XJ != 0) = true := bne_iff_ne.mpr c5
   obtain ⟨YE, A6, H⟩ := bnd H
   try dsimp only at H
   by_cases c7 : YE < 0
   ·rw [if_pos c7] at H; have c7b0 := decide_eq_true c7; clear c7
    obtain rfl := Option.some.inj H
    simp only [Option.some.injEq, Prod.mk.injEq] at H; obtain ⟨rfl⟩ := H
    refine bc_1 YA.out ?_; intros
    go_wp2_with (first | ((with_reducible refine gate_callee (f := 70) rfl ?_); refine gl_ (some 17) Try.func70 #[.agg #[.slice XI l0_0.length XG], .int .i64 XJ] rfl q_1 ?_; (with_reducible refine (spec_NodeAt.calls k1 _ _ l0_0 XJ YE _ ?side1 ?side2 A6.out).mono ?_); (case side1 => exact q_192); (case side2 => exact Yq.out); rintro e w9 ⟨rfl, hb⟩; refine ⟨_, rfl, ?_⟩; replace YA := bB YA hb; replace HB := bS z5_10 hb; clear hb))
    go_ret
    exact ⟨q_94, z5_10⟩
   rw [if_neg c7] at H; have c7b0 := decide_eq_false c7; clear c7
   by_cases c10 : 0 ≤ YE
   rotate_left
   ·rw [if_neg c10] at H
    exact absurd H (by simp)
   rw [if_pos c10] at H; have c10b0 := decide_eq_true c10; clear c10
   by_cases c11 : YE < (l0_0.length : Int)
   rotate_left
   ·rw [if_neg c11] at H
    exact absurd H (by simp)
   rw [if_pos c11] at H; have c11b0 := decide_eq_true c11; clear c11
   have H' := mk0 H
   clear H; refine bc_1 YA.out ?_; intros
   go_wp2_with (first | ((with_reducible refine gate_callee (f := 70) rfl ?_); refine gl_ (some 17) Try.func70 #[.agg #[.slice XI l0_0.length XG], .int .i64 XJ] rfl q_1 ?_; (with_reducible refine (spec_NodeAt.calls k1 _ _ l0_0 XJ YE _ ?side1 ?side2 A6.out).mono ?_); (case side1 => exact q_192); (case side2 => exact Yq.out); rintro e w13 ⟨rfl, hb⟩; refine ⟨_, rfl, ?_⟩; replace YA := bB YA hb; replace HB := bS z5_10 hb; clear hb; refine bc_1 YA.out ?_; intros; have JL : 0 ≤ (YE : Int) := of_decide_eq_true (by first | (with_reducible assumption) | assumption); have JM : YE < (l0_0.length : Int) := of_decide_eq_true (by first | (with_reducible assumption) | assumption); obtain ⟨U2, UR, US, Uv, Uw, Ux, Uy, Uz, UA, UB, UC, e160, Z0, Z1, Z2, Z3, Z4, Z5, Z6, Z7, Z8, Z9, Zh, Zi, Zj, Zk, Zl, Zm, Zn, Zo, Zp, Zq, Zr, Zs, Zt, Zu, Zv, Zw, Zx, Zy, Zz, ZA, ZB, Ja, Jb, ZC, ZD, ZE, ZF, ZG, ZH, ZI, ZJ⟩ := at_T69 Xe.out YE JL JM; cases e160; replace Z0 := cell_go HB Z0; replace Z1 := cell_go HB Z1; replace Z2 := cell_go HB Z2; replace Z3 := cell_go HB Z3; replace Z4 := cell_go HB Z4; replace Z5 := cell_go HB Z5; replace Z6 := cell_go HB Z6; replace Z7 := cell_go HB Z7; replace Z8 := cell_go HB Z8; replace Z9 := cell_go HB Z9; replace Zh := cell_go HB Zh; replace Zi := cell_go HB Zi; replace Zj := cell_go HB Zj; replace Zk := cell_go HB Zk; replace Zl := cell_go HB Zl; replace Zm := cell_go HB Zm; replace Zn := cell_go HB Zn; replace Zo := cell_go HB Zo; replace Zp := cell_go HB Zp; replace Zq := cell_go HB Zq; replace Zr := cell_go HB Zr; replace Zs := cell_go HB Zs; replace Zt := cell_go HB Zt; replace Zu := cell_go HB Zu; replace Zv := cell_go HB Zv; replace Zw := cell_go HB Zw; replace Zx := cell_go HB Zx; replace Zy := cell_go HB Zy; replace Zz := cell_go HB Zz; replace ZA := cell_go HB ZA; replace ZB := cell_go HB ZB; have UD := mk0 Jb; have UE := mk0 Ja; clear Jb Ja; have Uc := mk0 ZD; have Ud := mk0 ZC; clear ZD ZC; have Ue := mk0 ZF; have Uf := mk0 ZE; clear ZF ZE; have Ug := mk0 ZH; have Uh := mk0 ZG; clear ZH ZG; have Ui := mk0 ZJ; have Uj := mk0 ZI; clear ZJ ZI; replace JL := eq_true JL; replace JM := eq_true JM))
   go_roundg k1
   case measure => have := HK1.out; omega
   case rel => exact ⟨((rd_T69 l0_0 YE).f1), (wrap64 (YH + 1)), (wrap64 (Jx + 1)), rs0, rs0, rs0, H', ⟨(by have := HK1.out; omega)⟩, ⟨pkb YA⟩, ⟨z5_10⟩⟩

/-! ### spec_l01Once: function 92 -/
def spec_l01Once.f (s0_0 : List Int) (s0_1 : Int) (s0_2 : Int) (a1 : Int) : Option (Bool × Int × Int) := (spec_l01Below.f s0_0 s0_1 s0_2 a1).bind fun Jy => (some ((Jy.1 == 0), Jy.2.1, Jy.2.2))
set_option maxHeartbeats 8000000 in
set_option maxRecDepth 100000 in
theorem spec_l01Once.calls (g : Nat) (s0_0 : List Int) (s0_1 : Int) (s0_2 : Int) (a1 : Int) (r1 : Bool) (r2 : Int) (r3 : Int) (w0 w : World) (hI : IsS104 w0 w g s0_0 s0_1 s0_2) (hB : Below w0.heap.size w0 w) (h : spec_l01Once.f s0_0 s0_1 s0_2 a1 = some (r1, r2, r3)) :
  Calls Try.prog 92 #[.pointer (some ⟨g, 0, none⟩), .int .i64 a1] w fun e w' => e = .returned (.bool r1) ∧ IsS104 w0 w' g s0_0 r2 r3 ∧ Below w0.heap.size w0 w' ∧ KeepBut w w' g none := by
 have HI0 := mk0 hI; have HK := mk0 (KeepBut.refl w g none); have HL := mk0 hB.size; clear hI; have HW0 := mk0 hB.size; have HB := mk0 hB; clear hB
 have H := h; unfold spec_l01Once.f at H
 clear h
 obtain ⟨⟨UT, UU, UV⟩, A3, H⟩ := bnd H
 try dsimp only at H
 simp only [Option.some.injEq, Prod.mk.injEq] at H; obtain ⟨rfl, rfl, rfl⟩ := H
 go_enter Try.func92, Try.ntmps92
 go_wp2_with (first | ((with_reducible refine gate_callee (f := 47) rfl ?_); refine gl_ (some 7) Try.func47 #[.pointer (some ⟨g, 0, none⟩), .int .i64 a1] rfl q_1 ?_; (with_reducible refine (spec_l01Below.calls g s0_0 s0_1 s0_2 a1 UT UU UV w0 _ ?side1 ?side2 A3.out).mono ?_); (case side1 => exact q_177); (case side2 => exact q_129); rintro e w4 ⟨rfl, hi, hb, hk⟩; refine ⟨_, rfl, ?_⟩; replace HK := mk0 (KeepBut.trans q_191 hk (.inl rfl)); replace HB := mk0 (hb); replace HI0 := mk0 (hi); clear hb hk hi))
 go_ret
 exact ⟨q_94, q_177, q_129, q_191⟩

end Go.Proofs.Ytjfienkbcacijaa.MFnTrees
