/- Functions of the program as Lean functions, and the proof that a call comes to just these: machine text of this session's own program (myprint.py). -/
import Derived.Test.YtghbenapnhcllaaMFnMeetsx0
import Derived.Test.YtghbenapnhcllaaMFnMeetsx2
import Derived.Test.YtghbenapnhcllaaMFnMeetsx13
namespace Go.Proofs.Ytghbenapnhcllaa.MFnMeets
open Go.RowKit Go.Proofs.YtghbenapnhcllaaW.PrintWords Go.Proofs.YtghbenapnhcllaaW.PrintLast Go.Proofs.YtghbenapnhcllaaW.PrintMore
attribute [local go_sem] max2_int min2_int max_two min_two max_three min_three max_four min_four   -- for this text's walks alone
set_option linter.unusedVariables false
set_option linter.unusedSimpArgs false

attribute [local go_sem high] eqA63
theorem x14_put {P : Prop} (h : P := by simp only [Act.put, List.setIfInBounds_toArray, List.set_cons_zero, List.set_cons_succ, i64_w, i32_w]; rfl) : P := h
theorem z14_1 {P : Prop} (h : P := by repeat (first | (with_reducible first | exact HB.out | apply below_alloc | apply pw_below_drewN | apply below_drew1 | refine below_set ?_ GE428.out | refine below_set ?_ GE429.out | refine below_set ?_ GE430.out | refine below_set ?_ GE435.out) | exact HB.out)) : P := h
theorem z14_2 {P : Prop} (h : P := by repeat (first | (with_reducible first | exact HB.out | apply below_alloc | apply pw_below_drewN | apply below_drew1 | refine below_set ?_ GE428.out | refine below_set ?_ GE429.out | refine below_set ?_ GE430.out) | exact HB.out)) : P := h
theorem z14_3 {P : Prop} (h : P := by repeat (first | (with_reducible first | exact HB.out | apply below_alloc | apply pw_below_drewN | apply below_drew1) | exact HB.out)) : P := h
theorem z14_4 {P : Prop} (h : P := by repeat (first | (with_reducible first | exact HB.out | apply below_alloc | apply pw_below_drewN | apply below_drew1 | refine below_set ?_ GE428.out | refine below_set ?_ GE429.out) | exact HB.out)) : P := h
theorem z14_5 {P : Prop} (h : P := by repeat (first | (with_reducible first | exact HB.out | apply below_alloc | apply pw_below_drewN | apply below_drew1 | refine below_set ?_ GE2.out | refine below_set ?_ GE3.out | refine below_set ?_ GE421.out | refine below_set ?_ GE422.out | refine below_set ?_ GE423.out) | exact HB.out)) : P := h
theorem z14_6 {P : Prop} (h : P := by (with_reducible repeat (first | refine blk_drewN ?_ _ | refine blk_drew ?_ | refine blk_alloc ?_ _)); refine blk_far ?_ NB428_435.out _; (with_reducible repeat (first | refine blk_drewN ?_ _ | refine blk_drew ?_ | refine blk_alloc ?_ _)); refine blk_far ?_ NB428_435.out _; (with_reducible repeat (first | refine blk_drewN ?_ _ | refine blk_drew ?_ | refine blk_alloc ?_ _)); refine blk_far ?_ NB428_435.out _; (with_reducible repeat (first | refine blk_drewN ?_ _ | refine blk_drew ?_ | refine blk_alloc ?_ _)); refine blk_far ?_ NB428_435.out _; (with_reducible repeat (first | refine blk_drewN ?_ _ | refine blk_drew ?_ | refine blk_alloc ?_ _)); exact BK428.out) : P := h
theorem z14_7 {P : Prop} (h : P := by (with_reducible repeat (first | refine blk_drewN ?_ _ | refine blk_drew ?_ | refine blk_alloc ?_ _)); refine blk_far ?_ NB429_435.out _; (with_reducible repeat (first | refine blk_drewN ?_ _ | refine blk_drew ?_ | refine blk_alloc ?_ _)); refine blk_far ?_ NB429_435.out _; (with_reducible repeat (first | refine blk_drewN ?_ _ | refine blk_drew ?_ | refine blk_alloc ?_ _)); refine blk_far ?_ NB429_435.out _; (with_reducible repeat (first | refine blk_drewN ?_ _ | refine blk_drew ?_ | refine blk_alloc ?_ _)); refine blk_far ?_ NB429_435.out _; (with_reducible repeat (first | refine blk_drewN ?_ _ | refine blk_drew ?_ | refine blk_alloc ?_ _)); exact BK429.out) : P := h
theorem z14_8 {P : Prop} (h : P := by (with_reducible repeat (first | refine blk_drewN ?_ _ | refine blk_drew ?_ | refine blk_alloc ?_ _)); refine blk_far ?_ NB430_435.out _; (with_reducible repeat (first | refine blk_drewN ?_ _ | refine blk_drew ?_ | refine blk_alloc ?_ _)); refine blk_far ?_ NB430_435.out _; (with_reducible repeat (first | refine blk_drewN ?_ _ | refine blk_drew ?_ | refine blk_alloc ?_ _)); refine blk_far ?_ NB430_435.out _; (with_reducible repeat (first | refine blk_drewN ?_ _ | refine blk_drew ?_ | refine blk_alloc ?_ _)); refine blk_far ?_ NB430_435.out _; (with_reducible repeat (first | refine blk_drewN ?_ _ | refine blk_drew ?_ | refine blk_alloc ?_ _)); exact BK430.out) : P := h
theorem z14_9 {P : Prop} (h : P := by repeat (first | (with_reducible first | exact HB.out | apply below_alloc | apply pw_below_drewN | apply below_drew1 | refine below_set ?_ GE428.out) | exact HB.out)) : P := h
theorem z14_10 {P : Prop} (h : P := by (try simp only [List.map_toArray, List.map_cons, List.map_nil]); first | done | rfl | (simp only [List.length_drop, List.length_take]; rfl)) : P := h
theorem z14_11 {P : Prop} (h : P := by repeat (first | (with_reducible first | exact HB.out | apply below_alloc | apply pw_below_drewN | apply below_drew1 | refine below_set ?_ GE448.out) | exact HB.out)) : P := h
theorem z14_12 {P : Prop} (h : P := by apply blk_fin; (focus ((with_reducible repeat (first | apply blk_putQ | refine blk_drewN ?_ _ | refine blk_drew ?_ | refine blk_alloc ?_ _)); exact BK435.out)); first | (simp only [List.setIfInBounds_toArray, List.set_cons_zero, List.set_cons_succ]; done) | rfl) : P := h
theorem z14_13 {P : Prop} (h : P := by apply blk_fin; (focus ((with_reducible repeat (first | apply blk_putQ | refine blk_drewN ?_ _ | refine blk_drew ?_ | refine blk_alloc ?_ _)); exact BK430.out)); first | (simp only [List.setIfInBounds_toArray, List.set_cons_zero, List.set_cons_succ]; done) | rfl) : P := h
theorem z14_14 {P : Prop} (h : P := by repeat (first | exact (Kd.C_below HR0_4.out HB.out) | (with_reducible refine Kd.C_alloc ?_ _) | (with_reducible refine Kd.C_drewN ?_ _) | (with_reducible refine Kd.C_drew ?_))) : P := h
theorem z14_15 {P : Prop} (h : P := by first | rfl | (simp [errW_none, errW_some] <;> rfl) | (simp [*, errW_none, errW_some] <;> rfl)) : P := h
theorem z14_16 {P : Prop} (h : P := by repeat (first | exact (Kd.C_below HR1_4.out HB.out) | (with_reducible refine Kd.C_alloc ?_ _) | (with_reducible refine Kd.C_drewN ?_ _) | (with_reducible refine Kd.C_drew ?_))) : P := h
theorem z14_17 {P : Prop} (h : P := by repeat (first | (with_reducible first | exact HB.out | apply below_alloc | apply pw_below_drewN | apply below_drew1 | refine below_set ?_ GE2.out | refine below_set ?_ GE3.out | refine below_set ?_ GE421.out | refine below_set ?_ GE422.out) | exact HB.out)) : P := h
theorem z14_18 {P : Prop} (h : P := by repeat (first | (with_reducible first | exact HB.out | apply below_alloc | apply pw_below_drewN | apply below_drew1 | refine below_set ?_ GE2.out | refine below_set ?_ GE3.out | refine below_set ?_ GE421.out) | exact HB.out)) : P := h
theorem z14_19 {P : Prop} (h : P := by first | exact Kd.R_nil _ _ _ _ _ | exact Kd.N_nil _ _ _ _ _ | exact Kd.V_nil _ _ _ _ _ | exact Kd.Q_nil _ _ _ _ _ | exact Kd.S_nil _ _ _ _ _) : P := h
theorem z14_20 {P : Prop} (h : P := by repeat (first | (with_reducible first | exact HB.out | apply below_alloc | apply pw_below_drewN | apply below_drew1 | refine below_set ?_ GE2.out | refine below_set ?_ GE3.out) | exact HB.out)) : P := h
theorem z14_21 {P : Prop} (h : P := by repeat (first | exact Drawn0.refl _ | apply Drawn0.step)) : P := h
theorem z14_22 {P : Prop} (h : P := by repeat (first | (with_reducible first | exact HB.out | apply below_alloc | apply pw_below_drewN | apply below_drew1 | refine below_set ?_ GE448.out | refine below_set ?_ GE449.out) | exact HB.out)) : P := h
/-! ### impl_maskOver_MeetMask_1: function 8700085 -/
mutual
def impl_maskOver_MeetMask_1.l0 : Nat → Int → Int → Int → Int → Int → List Int → Int → Int → Int → Int → List Int → Int → Int → Int → Int → Int → Int → Int → Int → List Int → Option (Int × Int × Int × Int × List Int)
 | 0, _, _, _, _, _, _, _, _, _, _, _, _, _, _, _, _, _, _, _, _ => none
 | k + 1, x6, x3000, x3001, x3002, x3003, x3004, x4000, x4001, x4002, x4003, x4004, x422000, x422001, x422002, x422003, x424000, x424001, x424002, x424003, x424004 => if x6 < x422003 then (impl_maskOver_MeetMask_1.l1 k x6 x422000 x3000 x3001 x3002 x3003 x3004 x4000 x4001 x4002 x4003 x4004 x422000 x422001 x422002 x422003 x424000 x424001 x424002 x424003 x424004) else (some (x424000, x424001, x424002, x424003, x424004))
def impl_maskOver_MeetMask_1.l1 : Nat → Int → Int → Int → Int → Int → Int → List Int → Int → Int → Int → Int → List Int → Int → Int → Int → Int → Int → Int → Int → Int → List Int → Option (Int × Int × Int × Int × List Int)
 | 0, _, _, _, _, _, _, _, _, _, _, _, _, _, _, _, _, _, _, _, _, _ => none
 | k + 1, x6, x7, x3000, x3001, x3002, x3003, x3004, x4000, x4001, x4002, x4003, x4004, x422000, x422001, x422002, x422003, x424000, x424001, x424002, x424003, x424004 => if x7 < x422002 then ((impl_MeetMask_1.f x7 x6 x3000 x3001 x3002 x3003 x3004 x4000 x4001 x4002 x4003 x4004).bind fun t424 => (if x424004.length < 17592186044416 then (impl_maskOver_MeetMask_1.l1 k x6 (wrap64 (x7 + 1)) x3000 x3001 x3002 x3003 x3004 x4000 x4001 x4002 x4003 x4004 x422000 x422001 x422002 x422003 x424000 x424001 x424002 x424003 (x424004 ++ [t424])) else (none))) else (impl_maskOver_MeetMask_1.l0 k (wrap64 (x6 + 1)) x3000 x3001 x3002 x3003 x3004 x4000 x4001 x4002 x4003 x4004 x422000 x422001 x422002 x422003 x424000 x424001 x424002 x424003 x424004)
end
def impl_maskOver_MeetMask_1.f (k : Nat) (a0_0 : Int) (a0_1 : Int) (a0_2 : Int) (a0_3 : Int)  (a2_0 : Int) (a2_1 : Int) (a2_2 : Int) (a2_3 : Int) (l2_4 : List Int) (a3_0 : Int) (a3_1 : Int) (a3_2 : Int) (a3_3 : Int) (l3_4 : List Int) : Option (Int × Int × Int × Int × List Int) := impl_maskOver_MeetMask_1.l0 k a0_1 a2_0 a2_1 a2_2 a2_3 l2_4 a3_0 a3_1 a3_2 a3_3 l3_4 a0_0 a0_1 a0_2 a0_3 a0_0 a0_1 a0_2 a0_3 ([] : List Int)
theorem impl_maskOver_MeetMask_1.mono_l : ∀ k, (∀ y0 y1 y2 y3 y4 y5 y6 y7 y8 y9 y10 y11 y12 y13 y14 y15 y16 y17 y18 y19, LeO (impl_maskOver_MeetMask_1.l0 k y0 y1 y2 y3 y4 y5 y6 y7 y8 y9 y10 y11 y12 y13 y14 y15 y16 y17 y18 y19) (impl_maskOver_MeetMask_1.l0 (k + 1) y0 y1 y2 y3 y4 y5 y6 y7 y8 y9 y10 y11 y12 y13 y14 y15 y16 y17 y18 y19)) ∧ (∀ y0 y1 y2 y3 y4 y5 y6 y7 y8 y9 y10 y11 y12 y13 y14 y15 y16 y17 y18 y19 y20, LeO (impl_maskOver_MeetMask_1.l1 k y0 y1 y2 y3 y4 y5 y6 y7 y8 y9 y10 y11 y12 y13 y14 y15 y16 y17 y18 y19 y20) (impl_maskOver_MeetMask_1.l1 (k + 1) y0 y1 y2 y3 y4 y5 y6 y7 y8 y9 y10 y11 y12 y13 y14 y15 y16 y17 y18 y19 y20))
 | 0 => ⟨fun _ _ _ _ _ _ _ _ _ _ _ _ _ _ _ _ _ _ _ _ r h => by simp [impl_maskOver_MeetMask_1.l0] at h, fun _ _ _ _ _ _ _ _ _ _ _ _ _ _ _ _ _ _ _ _ _ r h => by simp [impl_maskOver_MeetMask_1.l1] at h⟩
 | k + 1 => by
  obtain ⟨ih0, ih1⟩ := impl_maskOver_MeetMask_1.mono_l k
  refine ⟨?_, ?_⟩
  ·intro y0 y1 y2 y3 y4 y5 y6 y7 y8 y9 y10 y11 y12 y13 y14 y15 y16 y17 y18 y19
   unfold impl_maskOver_MeetMask_1.l0
   repeat' first
   | (with_reducible exact ih0 _ _ _ _ _ _ _ _ _ _ _ _ _ _ _ _ _ _ _ _)
   | (with_reducible exact ih1 _ _ _ _ _ _ _ _ _ _ _ _ _ _ _ _ _ _ _ _ _)
   | (with_reducible exact LeO.refl _)
   | (with_reducible exact LeO.none _)
   | (with_reducible refine LeO.ite ?_ ?_)
   | (with_reducible refine LeO.bind ?_ (fun _ => ?_))
  ·intro y0 y1 y2 y3 y4 y5 y6 y7 y8 y9 y10 y11 y12 y13 y14 y15 y16 y17 y18 y19 y20
   unfold impl_maskOver_MeetMask_1.l1
   repeat' first
   | (with_reducible exact ih0 _ _ _ _ _ _ _ _ _ _ _ _ _ _ _ _ _ _ _ _)
   | (with_reducible exact ih1 _ _ _ _ _ _ _ _ _ _ _ _ _ _ _ _ _ _ _ _ _)
   | (with_reducible exact LeO.refl _)
   | (with_reducible exact LeO.none _)
   | (with_reducible refine LeO.ite ?_ ?_)
   | (with_reducible refine LeO.bind ?_ (fun _ => ?_))
theorem impl_maskOver_MeetMask_1.mono : ∀ a0 a1 a2 a3 a4 a5 a6 a7 a8 a9 a10 a11 a12 a13 k, LeO (impl_maskOver_MeetMask_1.f k a0 a1 a2 a3 a4 a5 a6 a7 a8 a9 a10 a11 a12 a13) (impl_maskOver_MeetMask_1.f (k + 1) a0 a1 a2 a3 a4 a5 a6 a7 a8 a9 a10 a11 a12 a13) := by
 intro a0 a1 a2 a3 a4 a5 a6 a7 a8 a9 a10 a11 a12 a13 k
 obtain ⟨ih0, ih1⟩ := impl_maskOver_MeetMask_1.mono_l k
 unfold impl_maskOver_MeetMask_1.f
 repeat' first
   | (with_reducible exact ih0 _ _ _ _ _ _ _ _ _ _ _ _ _ _ _ _ _ _ _ _)
   | (with_reducible exact ih1 _ _ _ _ _ _ _ _ _ _ _ _ _ _ _ _ _ _ _ _ _)
   | (with_reducible exact LeO.refl _)
   | (with_reducible exact LeO.none _)
   | (with_reducible refine LeO.ite ?_ ?_)
   | (with_reducible refine LeO.bind ?_ (fun _ => ?_))
def impl_maskOver_MeetMask_1.T8 : Bool × List (List Nat × List Nat) := (true, [([], []), ([0], [0]), ([], []), ([], []), ([], []), ([2, 3, 4], [2, 3, 4]), ([5], [5]), ([1, 6, 5], [1, 6]), ([0, 1, 2, 3, 4, 5, 6, 7], []), ([8, 7, 7, 0, 1, 2, 3, 4, 5, 6, 7], [7, 8])])
def impl_maskOver_MeetMask_1.B8 : List Nat := [0, 1, 0, 0, 0, 28, 60, 127, 255, 511]
theorem impl_maskOver_MeetMask_1.tab8 : rtab .any (opsOf Try.f85 8) = impl_maskOver_MeetMask_1.T8 := by kernel_rfl
theorem impl_maskOver_MeetMask_1.bits8 : waitsOk impl_maskOver_MeetMask_1.T8.2 impl_maskOver_MeetMask_1.B8 = true := by kernel_rfl
set_option maxHeartbeats 8000000 in
set_option maxRecDepth 100000 in
theorem impl_maskOver_MeetMask_1.calls (k : Nat) (a0_0 : Int) (a0_1 : Int) (a0_2 : Int) (a0_3 : Int)  (g2 : Nat) (a2_0 : Int) (a2_1 : Int) (a2_2 : Int) (a2_3 : Int) (A2_4 : Option Addr) (c2_4 : Nat) (l2_4 : List Int) (g3 : Nat) (a3_0 : Int) (a3_1 : Int) (a3_2 : Int) (a3_3 : Int) (A3_4 : Option Addr) (c3_4 : Nat) (l3_4 : List Int) (r1 : Int) (r2 : Int) (r3 : Int) (r4 : Int) (r5 : List Int) (w : World) (hb2 : w.heap[g2]? = some (.cells #[.int .i64 a2_0, .int .i64 a2_1, .int .i64 a2_2, .int .i64 a2_3, .slice A2_4 l2_4.length c2_4] 65 (0, 0))) (hr2_4 : Kd.C (Kd.int .i64) w A2_4 l2_4.length l2_4) (hc2_4 : l2_4.length ≤ c2_4) (hb3 : w.heap[g3]? = some (.cells #[.int .i64 a3_0, .int .i64 a3_1, .int .i64 a3_2, .int .i64 a3_3, .slice A3_4 l3_4.length c3_4] 65 (0, 0))) (hr3_4 : Kd.C (Kd.int .i64) w A3_4 l3_4.length l3_4) (hc3_4 : l3_4.length ≤ c3_4) (h : impl_maskOver_MeetMask_1.f k a0_0 a0_1 a0_2 a0_3 a2_0 a2_1 a2_2 a2_3 l2_4 a3_0 a3_1 a3_2 a3_3 l3_4 = some (r1, r2, r3, r4, r5)) :
  Calls Try.prog 85 #[.agg #[.int .i64 a0_0, .int .i64 a0_1, .int .i64 a0_2, .int .i64 a0_3], .func (.func 86) #[] #[.pointer (some ⟨g2, 0, none⟩), .pointer (some ⟨g3, 0, none⟩)]] w fun e w' => ∃ v4_ : Value, e = .returned (.agg #[.int .i64 r1, .int .i64 r2, .int .i64 r3, .int .i64 r4, v4_]) ∧ Kd.R (Kd.int .i64) 3 w' w.heap.size (fun _ => True) v4_ r5 ∧ Below w.heap.size w w' := by
 have hu63 := Try.underlying63
 have hu65 := Try.underlying65
 have HR2_4 := mk0 hr2_4
 have HC2_4 := mk0 hc2_4
 clear hr2_4 hc2_4
 have HR3_4 := mk0 hr3_4
 have HC3_4 := mk0 hc3_4
 clear hr3_4 hc3_4
 have BK2 := mk0 hb2
 clear hb2
 have BK3 := mk0 hb3
 clear hb3
 have HB := mk0 (Below.refl w.heap.size w)
 have H : (impl_maskOver_MeetMask_1.l0 k a0_1 a2_0 a2_1 a2_2 a2_3 l2_4 a3_0 a3_1 a3_2 a3_3 l3_4 a0_0 a0_1 a0_2 a0_3 a0_0 a0_1 a0_2 a0_3 ([] : List Int)) = some (r1, r2, r3, r4, r5) := h
 clear h
 have H' := mk0 H
 clear H
 go_enter Try.func85, Try.ntmps85
 go_wp2_with (first | ((with_reducible refine gate_dst (N := 2) rfl ?_); refine boxz (cs := #[.int .i64 a0_0, .int .i64 a0_1, .int .i64 a0_2, .int .i64 a0_3]) (t := 63) rfl ?_; intro gb421 hg w5 hbox hb; have n0_ := mk0 (blk_below (g := g2) (o := .cells #[.int .i64 a2_0, .int .i64 a2_1, .int .i64 a2_2, .int .i64 a2_3, .slice A2_4 l2_4.length c2_4] 65 (0, 0)) (pkb BK2) hb); have n1_ := mk0 (blk_below (g := g3) (o := .cells #[.int .i64 a3_0, .int .i64 a3_1, .int .i64 a3_2, .int .i64 a3_3, .slice A3_4 l3_4.length c3_4] 65 (0, 0)) (pkb BK3) hb); have n2_ := mk0 (below_step z14_20 hb); have n3_ := mk0 (hbox); have GW421 := mk0 (ge_go (a := w.heap.size) hg (below_size z14_20)); have GE421 := GW421; have NB2_421 := mk0 ((by rw [hg]; exact Nat.ne_of_lt (blk_lt (g := g2) (o := .cells #[.int .i64 a2_0, .int .i64 a2_1, .int .i64 a2_2, .int .i64 a2_3, .slice A2_4 l2_4.length c2_4] 65 (0, 0)) (pkb BK2)) : g2 ≠ gb421)); have NB421_2 := mk0 ((by rw [hg]; exact Nat.ne_of_gt (blk_lt (g := g2) (o := .cells #[.int .i64 a2_0, .int .i64 a2_1, .int .i64 a2_2, .int .i64 a2_3, .slice A2_4 l2_4.length c2_4] 65 (0, 0)) (pkb BK2)) : gb421 ≠ g2)); have NB3_421 := mk0 ((by rw [hg]; exact Nat.ne_of_lt (blk_lt (g := g3) (o := .cells #[.int .i64 a3_0, .int .i64 a3_1, .int .i64 a3_2, .int .i64 a3_3, .slice A3_4 l3_4.length c3_4] 65 (0, 0)) (pkb BK3)) : g3 ≠ gb421)); have NB421_3 := mk0 ((by rw [hg]; exact Nat.ne_of_gt (blk_lt (g := g3) (o := .cells #[.int .i64 a3_0, .int .i64 a3_1, .int .i64 a3_2, .int .i64 a3_3, .slice A3_4 l3_4.length c3_4] 65 (0, 0)) (pkb BK3)) : gb421 ≠ g3)); clear BK2 BK3 HB; have BK2 := n0_; have BK3 := n1_; have HB := n2_; have BK421 := n3_; clear n0_ n1_ n2_ n3_ ; clear hb hbox hg) | ((with_reducible refine gate_dst (N := 4) rfl ?_); refine boxz (cs := #[.int .i64 0, .int .i64 0, .int .i64 0, .int .i64 0, .slice none 0 0]) (t := 65) rfl ?_; intro gb422 hg w6 hbox hb; have n0_ := mk0 (blk_below (g := g2) (o := .cells #[.int .i64 a2_0, .int .i64 a2_1, .int .i64 a2_2, .int .i64 a2_3, .slice A2_4 l2_4.length c2_4] 65 (0, 0)) (pkb BK2) hb); have n1_ := mk0 (blk_below (g := g3) (o := .cells #[.int .i64 a3_0, .int .i64 a3_1, .int .i64 a3_2, .int .i64 a3_3, .slice A3_4 l3_4.length c3_4] 65 (0, 0)) (pkb BK3) hb); have n2_ := mk0 (blk_belowB BK421 (pkb BK421) hb); have n3_ := mk0 (below_step z14_18 hb); have n4_ := mk0 (hbox); have GW422 := mk0 (ge_go (a := w.heap.size) hg (below_size z14_18)); have GE422 := GW422; have NB2_422 := mk0 ((by rw [hg]; exact Nat.ne_of_lt (blk_lt (g := g2) (o := .cells #[.int .i64 a2_0, .int .i64 a2_1, .int .i64 a2_2, .int .i64 a2_3, .slice A2_4 l2_4.length c2_4] 65 (0, 0)) (pkb BK2)) : g2 ≠ gb422)); have NB422_2 := mk0 ((by rw [hg]; exact Nat.ne_of_gt (blk_lt (g := g2) (o := .cells #[.int .i64 a2_0, .int .i64 a2_1, .int .i64 a2_2, .int .i64 a2_3, .slice A2_4 l2_4.length c2_4] 65 (0, 0)) (pkb BK2)) : gb422 ≠ g2)); have NB3_422 := mk0 ((by rw [hg]; exact Nat.ne_of_lt (blk_lt (g := g3) (o := .cells #[.int .i64 a3_0, .int .i64 a3_1, .int .i64 a3_2, .int .i64 a3_3, .slice A3_4 l3_4.length c3_4] 65 (0, 0)) (pkb BK3)) : g3 ≠ gb422)); have NB422_3 := mk0 ((by rw [hg]; exact Nat.ne_of_gt (blk_lt (g := g3) (o := .cells #[.int .i64 a3_0, .int .i64 a3_1, .int .i64 a3_2, .int .i64 a3_3, .slice A3_4 l3_4.length c3_4] 65 (0, 0)) (pkb BK3)) : gb422 ≠ g3)); have NB421_422 := mk0 (nb_lt hg (blk_ltB BK421 (pkb BK421))); have NB422_421 := mk0 (nb_gt hg (blk_ltB BK421 (pkb BK421))); clear BK2 BK3 BK421 HB; have BK2 := n0_; have BK3 := n1_; have BK421 := n2_; have HB := n3_; have BK422 := n4_; clear n0_ n1_ n2_ n3_ n4_ ; clear hb hbox hg; have hnb7 := NB421_2.out; have hnc7 := NB2_421.out; have hnb8 := NB421_3.out; have hnc8 := NB3_421.out; have hnb9 := NB421_422.out; have hnc9 := NB422_421.out; obtain ⟨_, _, _, _, _, _, _, _⟩ := be_4 BK421.out) | ((with_reducible refine gate_dst (N := 5) rfl ?_); refine boxz (cs := #[.int .i64 0, .int .i64 0, .int .i64 0, .int .i64 0, .slice none 0 0]) (t := 65) rfl ?_; intro gb423 hg w11 hbox hb; have n0_ := mk0 (blk_below (g := g2) (o := .cells #[.int .i64 a2_0, .int .i64 a2_1, .int .i64 a2_2, .int .i64 a2_3, .slice A2_4 l2_4.length c2_4] 65 (0, 0)) (pkb BK2) hb); have n1_ := mk0 (blk_below (g := g3) (o := .cells #[.int .i64 a3_0, .int .i64 a3_1, .int .i64 a3_2, .int .i64 a3_3, .slice A3_4 l3_4.length c3_4] 65 (0, 0)) (pkb BK3) hb); have n2_ := mk0 (blk_belowB BK421 (pkb BK421) hb); have n3_ := mk0 (blk_belowB BK422 (pkb BK422) hb); have n4_ := mk0 (below_step z14_17 hb); have n5_ := mk0 (hbox); have GW423 := mk0 (ge_go (a := w.heap.size) hg (below_size z14_17)); have GE423 := GW423; have NB2_423 := mk0 ((by rw [hg]; exact Nat.ne_of_lt (blk_lt (g := g2) (o := .cells #[.int .i64 a2_0, .int .i64 a2_1, .int .i64 a2_2, .int .i64 a2_3, .slice A2_4 l2_4.length c2_4] 65 (0, 0)) (pkb BK2)) : g2 ≠ gb423)); have NB423_2 := mk0 ((by rw [hg]; exact Nat.ne_of_gt (blk_lt (g := g2) (o := .cells #[.int .i64 a2_0, .int .i64 a2_1, .int .i64 a2_2, .int .i64 a2_3, .slice A2_4 l2_4.length c2_4] 65 (0, 0)) (pkb BK2)) : gb423 ≠ g2)); have NB3_423 := mk0 ((by rw [hg]; exact Nat.ne_of_lt (blk_lt (g := g3) (o := .cells #[.int .i64 a3_0, .int .i64 a3_1, .int .i64 a3_2, .int .i64 a3_3, .slice A3_4 l3_4.length c3_4] 65 (0, 0)) (pkb BK3)) : g3 ≠ gb423)); have NB423_3 := mk0 ((by rw [hg]; exact Nat.ne_of_gt (blk_lt (g := g3) (o := .cells #[.int .i64 a3_0, .int .i64 a3_1, .int .i64 a3_2, .int .i64 a3_3, .slice A3_4 l3_4.length c3_4] 65 (0, 0)) (pkb BK3)) : gb423 ≠ g3)); have NB421_423 := mk0 (nb_lt hg (blk_ltB BK421 (pkb BK421))); have NB423_421 := mk0 (nb_gt hg (blk_ltB BK421 (pkb BK421))); have NB422_423 := mk0 (nb_lt hg (blk_ltB BK422 (pkb BK422))); have NB423_422 := mk0 (nb_gt hg (blk_ltB BK422 (pkb BK422))); clear BK2 BK3 BK421 BK422 HB; have BK2 := n0_; have BK3 := n1_; have BK421 := n2_; have BK422 := n3_; have HB := n4_; have BK423 := n5_; clear n0_ n1_ n2_ n3_ n4_ n5_ ; clear hb hbox hg; have hnb12 := NB423_2.out; have hnc12 := NB2_423.out; have hnb13 := NB423_3.out; have hnc13 := NB3_423.out; have hnb14 := NB423_421.out; have hnc14 := NB421_423.out; have hnb15 := NB423_422.out; have hnc15 := NB422_423.out; obtain ⟨_, _, _, _, _, _, _, _, _, _⟩ := be_5 BK423.out; obtain ⟨_, _, _, _, _, _, _, _⟩ := be_4 BK421.out))
 go_loopg [6] k (fun kq v6 w' => ∃ (x6_1 : Int) (x424004_1 : List Int) (u424004 : Value), v6 = .int .i64 x6_1 ∧ Aside0 (impl_maskOver_MeetMask_1.l0 kq x6_1 a2_0 a2_1 a2_2 a2_3 l2_4 a3_0 a3_1 a3_2 a3_3 l3_4 a0_0 a0_1 a0_2 a0_3 a0_0 a0_1 a0_2 a0_3 x424004_1 = some (r1, r2, r3, r4, r5)) ∧ Aside0 (kq ≤ k) ∧ Aside0 (Kd.R (Kd.int .i64) 3 w' w.heap.size (fun _ => True) u424004 x424004_1) ∧ Aside0 (w'.heap[g2]? = some (.cells #[.int .i64 a2_0, .int .i64 a2_1, .int .i64 a2_2, .int .i64 a2_3, (.slice A2_4 l2_4.length c2_4)] 65 (0, 0))) ∧ Aside0 (w'.heap[g3]? = some (.cells #[.int .i64 a3_0, .int .i64 a3_1, .int .i64 a3_2, .int .i64 a3_3, (.slice A3_4 l3_4.length c3_4)] 65 (0, 0))) ∧ Aside0 (w'.heap[gb421]? = some (.cells #[.int .i64 a0_0, .int .i64 a0_1, .int .i64 a0_2, .int .i64 a0_3] 63 (0, 0))) ∧ Aside0 (w'.heap[gb422]? = some (.cells #[.int .i64 0, .int .i64 0, .int .i64 0, .int .i64 0, (.slice none 0 0)] 65 (0, 0))) ∧ Aside0 (w'.heap[gb423]? = some (.cells #[.int .i64 a0_0, .int .i64 a0_1, .int .i64 a0_2, .int .i64 a0_3, u424004] 65 (0, 0))) ∧ Aside0 (Below w.heap.size w w'))
 case atStart => exact ⟨(a0_1), (([] : List Int)), (.slice none 0 0), rs0, H', ⟨Nat.le_refl _⟩, ⟨z14_19⟩, ⟨(by (with_reducible repeat (first | refine blk_drewN ?_ _ | refine blk_drew ?_ | refine blk_alloc ?_ _)); refine blk_far ?_ NB2_423.out _; (with_reducible repeat (first | refine blk_drewN ?_ _ | refine blk_drew ?_ | refine blk_alloc ?_ _)); refine blk_far ?_ NB2_423.out _; (with_reducible repeat (first | refine blk_drewN ?_ _ | refine blk_drew ?_ | refine blk_alloc ?_ _)); refine blk_far ?_ NB2_423.out _; (with_reducible repeat (first | refine blk_drewN ?_ _ | refine blk_drew ?_ | refine blk_alloc ?_ _)); refine blk_far ?_ NB2_423.out _; (with_reducible repeat (first | refine blk_drewN ?_ _ | refine blk_drew ?_ | refine blk_alloc ?_ _)); refine blk_far ?_ NB2_423.out _; (with_reducible repeat (first | refine blk_drewN ?_ _ | refine blk_drew ?_ | refine blk_alloc ?_ _)); exact BK2.out)⟩, ⟨(by (with_reducible repeat (first | refine blk_drewN ?_ _ | refine blk_drew ?_ | refine blk_alloc ?_ _)); refine blk_far ?_ NB3_423.out _; (with_reducible repeat (first | refine blk_drewN ?_ _ | refine blk_drew ?_ | refine blk_alloc ?_ _)); refine blk_far ?_ NB3_423.out _; (with_reducible repeat (first | refine blk_drewN ?_ _ | refine blk_drew ?_ | refine blk_alloc ?_ _)); refine blk_far ?_ NB3_423.out _; (with_reducible repeat (first | refine blk_drewN ?_ _ | refine blk_drew ?_ | refine blk_alloc ?_ _)); refine blk_far ?_ NB3_423.out _; (with_reducible repeat (first | refine blk_drewN ?_ _ | refine blk_drew ?_ | refine blk_alloc ?_ _)); refine blk_far ?_ NB3_423.out _; (with_reducible repeat (first | refine blk_drewN ?_ _ | refine blk_drew ?_ | refine blk_alloc ?_ _)); exact BK3.out)⟩, ⟨(by (with_reducible repeat (first | refine blk_drewN ?_ _ | refine blk_drew ?_ | refine blk_alloc ?_ _)); refine blk_far ?_ NB421_423.out _; (with_reducible repeat (first | refine blk_drewN ?_ _ | refine blk_drew ?_ | refine blk_alloc ?_ _)); refine blk_far ?_ NB421_423.out _; (with_reducible repeat (first | refine blk_drewN ?_ _ | refine blk_drew ?_ | refine blk_alloc ?_ _)); refine blk_far ?_ NB421_423.out _; (with_reducible repeat (first | refine blk_drewN ?_ _ | refine blk_drew ?_ | refine blk_alloc ?_ _)); refine blk_far ?_ NB421_423.out _; (with_reducible repeat (first | refine blk_drewN ?_ _ | refine blk_drew ?_ | refine blk_alloc ?_ _)); refine blk_far ?_ NB421_423.out _; (with_reducible repeat (first | refine blk_drewN ?_ _ | refine blk_drew ?_ | refine blk_alloc ?_ _)); exact BK421.out)⟩, ⟨(by (with_reducible repeat (first | refine blk_drewN ?_ _ | refine blk_drew ?_ | refine blk_alloc ?_ _)); refine blk_far ?_ NB422_423.out _; (with_reducible repeat (first | refine blk_drewN ?_ _ | refine blk_drew ?_ | refine blk_alloc ?_ _)); refine blk_far ?_ NB422_423.out _; (with_reducible repeat (first | refine blk_drewN ?_ _ | refine blk_drew ?_ | refine blk_alloc ?_ _)); refine blk_far ?_ NB422_423.out _; (with_reducible repeat (first | refine blk_drewN ?_ _ | refine blk_drew ?_ | refine blk_alloc ?_ _)); refine blk_far ?_ NB422_423.out _; (with_reducible repeat (first | refine blk_drewN ?_ _ | refine blk_drew ?_ | refine blk_alloc ?_ _)); refine blk_far ?_ NB422_423.out _; (with_reducible repeat (first | refine blk_drewN ?_ _ | refine blk_drew ?_ | refine blk_alloc ?_ _)); exact BK422.out)⟩, ⟨(by (with_reducible repeat (first | refine blk_drewN ?_ _ | refine blk_drew ?_ | refine blk_alloc ?_ _)); refine blk_put (cs := #[.int .i64 a0_0, .int .i64 a0_1, .int .i64 a0_2, .int .i64 a0_3, .slice none 0 0]) ?_ 4 _ rfl; (with_reducible repeat (first | refine blk_drewN ?_ _ | refine blk_drew ?_ | refine blk_alloc ?_ _)); refine blk_put (cs := #[.int .i64 a0_0, .int .i64 a0_1, .int .i64 a0_2, .int .i64 0, .slice none 0 0]) ?_ 3 _ rfl; (with_reducible repeat (first | refine blk_drewN ?_ _ | refine blk_drew ?_ | refine blk_alloc ?_ _)); refine blk_put (cs := #[.int .i64 a0_0, .int .i64 a0_1, .int .i64 0, .int .i64 0, .slice none 0 0]) ?_ 2 _ rfl; (with_reducible repeat (first | refine blk_drewN ?_ _ | refine blk_drew ?_ | refine blk_alloc ?_ _)); refine blk_put (cs := #[.int .i64 a0_0, .int .i64 0, .int .i64 0, .int .i64 0, .slice none 0 0]) ?_ 1 _ rfl; (with_reducible repeat (first | refine blk_drewN ?_ _ | refine blk_drew ?_ | refine blk_alloc ?_ _)); refine blk_put (cs := #[.int .i64 0, .int .i64 0, .int .i64 0, .int .i64 0, .slice none 0 0]) ?_ 0 _ rfl; (with_reducible repeat (first | refine blk_drewN ?_ _ | refine blk_drew ?_ | refine blk_alloc ?_ _)); exact BK423.out)⟩, ⟨z14_5⟩⟩
 case round =>
  clear H'
  try clear c1
  try clear c2
  try clear p2
  try clear c3
  try clear c7
  try clear c8
  try clear c9
  try clear c12
  try clear c13
  try clear c14
  try clear c15
  obtain ⟨x6_1, x424004_1, u424004, rfl, HA, HK1, HO_424004, BK2, BK3, BK421, BK422, BK423, HB⟩ := hrel
  cases gk with
  | zero => exact absurd HA.out (by simp [impl_maskOver_MeetMask_1.l0])
  | succ k1 =>
   have H := HA.out; clear HA
   simp only [impl_maskOver_MeetMask_1.l0] at H
   by_cases c18 : x6_1 < a0_3
   rotate_left
   ·rw [if_neg c18] at H
    have c18b0 := decide_eq_false c18
    clear c18
    simp only [Option.some.injEq, Prod.mk.injEq] at H
    obtain ⟨rfl, rfl, rfl, rfl, rfl⟩ := H
    have hnb42 := NB421_2.out; have hnc42 := NB2_421.out; have hnb43 := NB421_3.out; have hnc43 := NB3_421.out; have hnb44 := NB421_422.out; have hnc44 := NB422_421.out; have hnb45 := NB421_423.out; have hnc45 := NB423_421.out
    obtain ⟨_, _, _, _, _, _, _, _⟩ := be_4 BK421.out
    have hnb47 := NB423_2.out; have hnc47 := NB2_423.out; have hnb48 := NB423_3.out; have hnc48 := NB3_423.out; have hnb49 := NB423_422.out; have hnc49 := NB422_423.out
    obtain ⟨_, _, _, _, _, _, _, _, _, _⟩ := be_5 BK423.out
    have hnb51 := NB422_2.out; have hnc51 := NB2_422.out; have hnb52 := NB422_3.out; have hnc52 := NB3_422.out
    obtain ⟨_, _, _, _, _, _, _, _, _, _⟩ := be_5 BK422.out
    obtain ⟨Ao54, co54, eo54⟩ := Kd.R_slice HO_424004.out
    subst eo54
    go_wp2
    refine bodyPost_ret (results_cell_row rfl _ _ gb422 65 #[.int .i64 a0_0, .int .i64 a0_1, .int .i64 a0_2, .int .i64 a0_3, .slice Ao54 x424004_1.length co54] (0, 0) _ rfl (by apply blk_fin; (focus ((with_reducible repeat (first | apply blk_putQ | refine blk_drewN ?_ _ | refine blk_drew ?_ | refine blk_alloc ?_ _)); exact BK422.out)); first | (simp only [List.setIfInBounds_toArray, List.set_cons_zero, List.set_cons_succ]; done) | rfl) Try.underlying65 rfl (by kernel_rfl)) rfl ?_
    exact ⟨_, z14_15, (by (with_reducible repeat (first | apply Kd.R_alloc | apply Kd.R_drewN | apply Kd.R_drew)); exact Kd.R_mono (Kd.R_far (p := ⟨gb422, 4, none⟩) (Kd.R_far (p := ⟨gb422, 3, none⟩) (Kd.R_far (p := ⟨gb422, 2, none⟩) (Kd.R_far (p := ⟨gb422, 1, none⟩) (Kd.R_far (p := ⟨gb422, 0, none⟩) (Kd.R_types HO_424004.out BK422.out (by decide)) (fun _ hk => hk.2) (.int .i64 a0_0)) (fun _ hk => hk.2) (.int .i64 a0_1)) (fun _ hk => hk.2) (.int .i64 a0_2)) (fun _ hk => hk.2) (.int .i64 a0_3)) (fun _ hk => hk.2) (.slice Ao54 x424004_1.length co54)) (fun _ hk => trivial)), z14_5⟩
   rw [if_pos c18] at H
   have c18b0 := decide_eq_true c18
   clear c18
   have H' := mk0 H
   clear H; have hnb19 := NB421_2.out; have hnc19 := NB2_421.out; have hnb20 := NB421_3.out; have hnc20 := NB3_421.out; have hnb21 := NB421_422.out; have hnc21 := NB422_421.out; have hnb22 := NB421_423.out; have hnc22 := NB423_421.out
   obtain ⟨_, _, _, _, _, _, _, _⟩ := be_4 BK421.out
   go_wp2
   go_loopg [7] k1 (fun kq v7 w' => ∃ (x7_2 : Int) (x424004_2 : List Int) (u424004 : Value), v7 = .int .i64 x7_2 ∧ Aside0 (impl_maskOver_MeetMask_1.l1 kq x6_1 x7_2 a2_0 a2_1 a2_2 a2_3 l2_4 a3_0 a3_1 a3_2 a3_3 l3_4 a0_0 a0_1 a0_2 a0_3 a0_0 a0_1 a0_2 a0_3 x424004_2 = some (r1, r2, r3, r4, r5)) ∧ Aside0 (kq ≤ k1) ∧ Aside0 (Kd.R (Kd.int .i64) 3 w' w.heap.size (fun _ => True) u424004 x424004_2) ∧ Aside0 (w'.heap[g2]? = some (.cells #[.int .i64 a2_0, .int .i64 a2_1, .int .i64 a2_2, .int .i64 a2_3, (.slice A2_4 l2_4.length c2_4)] 65 (0, 0))) ∧ Aside0 (w'.heap[g3]? = some (.cells #[.int .i64 a3_0, .int .i64 a3_1, .int .i64 a3_2, .int .i64 a3_3, (.slice A3_4 l3_4.length c3_4)] 65 (0, 0))) ∧ Aside0 (w'.heap[gb421]? = some (.cells #[.int .i64 a0_0, .int .i64 a0_1, .int .i64 a0_2, .int .i64 a0_3] 63 (0, 0))) ∧ Aside0 (w'.heap[gb422]? = some (.cells #[.int .i64 0, .int .i64 0, .int .i64 0, .int .i64 0, (.slice none 0 0)] 65 (0, 0))) ∧ Aside0 (w'.heap[gb423]? = some (.cells #[.int .i64 a0_0, .int .i64 a0_1, .int .i64 a0_2, .int .i64 a0_3, u424004] 65 (0, 0))) ∧ Aside0 (Below w.heap.size w w'))
   case atStart => exact ⟨(a0_0), (x424004_1), (u424004), rs0, H', ⟨Nat.le_refl _⟩, ⟨pkR HO_424004⟩, ⟨pkb BK2⟩, ⟨pkb BK3⟩, ⟨pkb BK421⟩, ⟨pkb BK422⟩, ⟨pkb BK423⟩, ⟨z14_5⟩⟩
   case round =>
    clear H'
    try clear c1
    try clear c2
    try clear p2
    try clear c3
    try clear c7
    try clear c8
    try clear c9
    try clear c12
    try clear c13
    try clear c14
    try clear c15
    try clear c18
    try clear c18b0
    try clear c19
    try clear c20
    try clear c21
    try clear c22
    try clear p2
    obtain ⟨x7_2, x424004_2, u424004, rfl, HA, HK2, HO_424004, BK2, BK3, BK421, BK422, BK423, HB⟩ := hrel
    cases gk with
    | zero => exact absurd HA.out (by simp [impl_maskOver_MeetMask_1.l1])
    | succ k2 =>
     have H := HA.out; clear HA
     simp only [impl_maskOver_MeetMask_1.l1] at H
     by_cases c24 : x7_2 < a0_2
     rotate_left
     ·rw [if_neg c24] at H
      have c24b0 := decide_eq_false c24
      clear c24
      have H' := mk0 H
      clear H; have hnb37 := NB421_2.out; have hnc37 := NB2_421.out; have hnb38 := NB421_3.out; have hnc38 := NB3_421.out; have hnb39 := NB421_422.out; have hnc39 := NB422_421.out; have hnb40 := NB421_423.out; have hnc40 := NB423_421.out
      obtain ⟨_, _, _, _, _, _, _, _⟩ := be_4 BK421.out
      go_wp2
      go_roundg k2
      case measure => have := HK1.out; have := HK2.out; omega
      case rel => exact ⟨(wrap64 (x6_1 + 1)), (x424004_2), (u424004), rs0, H', ⟨(by have := HK1.out; have := HK2.out; omega)⟩, ⟨pkR HO_424004⟩, ⟨pkb BK2⟩, ⟨pkb BK3⟩, ⟨pkb BK421⟩, ⟨pkb BK422⟩, ⟨pkb BK423⟩, ⟨z14_5⟩⟩
     rw [if_pos c24] at H
     have c24b0 := decide_eq_true c24
     clear c24
     replace H := Option.bind_eq_some_iff.mp H
     obtain ⟨t424, A250, H⟩ := H
     try dsimp only at H
     have A25 := mk0 A250
     clear A250
     by_cases c26 : x424004_2.length < 17592186044416
     rotate_left
     ·rw [if_neg c26] at H
      exact absurd H (by simp)
     rw [if_pos c26] at H
     have LMc26 := mk0 c26
     clear c26
     obtain ⟨y425, hy_⟩ : ∃ y_ : List Int, y_ = (x424004_2 ++ [t424]) := ⟨_, rfl⟩
     replace H : (impl_maskOver_MeetMask_1.l1 k2 x6_1 (wrap64 (x7_2 + 1)) a2_0 a2_1 a2_2 a2_3 l2_4 a3_0 a3_1 a3_2 a3_3 l3_4 a0_0 a0_1 a0_2 a0_3 a0_0 a0_1 a0_2 a0_3 y425) = some (r1, r2, r3, r4, r5) := (by first | (rw [hy_]; with_reducible exact H) | (have H2_ := (Option.bind_some _ _).symm.trans H; rw [hy_]; with_reducible exact H2_) | (have H2_ := (Option.bind_some _ _).symm.trans H; with_reducible exact H2_) | with_reducible exact H | (rw [hy_]; exact H) | exact H)
     have Ny425 := mk0 hy_
     clear hy_
     have H' := mk0 H
     clear H; have hnb27 := NB421_2.out; have hnc27 := NB2_421.out; have hnb28 := NB421_3.out; have hnc28 := NB3_421.out; have hnb29 := NB421_422.out; have hnc29 := NB422_421.out; have hnb30 := NB421_423.out; have hnc30 := NB423_421.out
     obtain ⟨_, _, _, _, _, _, _, _⟩ := be_4 BK421.out
     try go_wp2
     have n0_ := mk0 (Kd.R_drew HO_424004.out)
     have n1_ := mk0 (blk_drew BK2.out)
     have n2_ := mk0 (blk_drew BK3.out)
     have n3_ := mk0 (blk_drew BK421.out)
     have n4_ := mk0 (blk_drew BK422.out)
     have n5_ := mk0 (blk_drew BK423.out)
     have n6_ := mk0 (below_drew1 HB.out)
     clear HO_424004 BK2 BK3 BK421 BK422 BK423 HB; have HO_424004 := n0_; have BK2 := n1_; have BK3 := n2_; have BK421 := n3_; have BK422 := n4_; have BK423 := n5_; have HB := n6_; clear n0_ n1_ n2_ n3_ n4_ n5_ n6_
     refine start_ (n := 10) (S := fun w' => w'.cell? ⟨gb423, 0, none⟩ = some (.int .i64 a0_0) ∧ w'.cell? ⟨gb423, 1, none⟩ = some (.int .i64 a0_1) ∧ w'.cell? ⟨gb423, 2, none⟩ = some (.int .i64 a0_2) ∧ w'.cell? ⟨gb423, 3, none⟩ = some (.int .i64 a0_3) ∧ w'.cell? ⟨gb423, 4, none⟩ = some (u424004)) (ds := [9]) #[false, false, false, false, false, false, false, false, false, false] (by kernel_rfl) rfl rfl ⟨(blk_cell BK423.out 0).trans rfl, (blk_cell BK423.out 1).trans rfl, (blk_cell BK423.out 2).trans rfl, (blk_cell BK423.out 3).trans rfl, (blk_cell BK423.out 4).trans rfl⟩ (fun hHeld => ?_); refine with_tabW impl_maskOver_MeetMask_1.tab8 impl_maskOver_MeetMask_1.bits8 (fun HT_ HW_ => ?_)
     generalize wr.drew = w32 at HO_424004 BK2 BK3 BK421 BK422 BK423 HB hHeld ⊢
     refine pzv (i := 0) (N := 26) (v := ?_) (a' := ?_) (bA 10 1) HT_ ?_ ?_ ?_
     rotate_left
     ·intro w'
      go_simp; with_reducible rfl
     rotate_left
     ·exact x14_put
     refine pzv (i := 2) (N := 28) (v := ?_) (a' := ?_) (bA 10 5) HT_ ?_ ?_ ?_
     rotate_left
     ·intro w'
      go_simp; with_reducible rfl
     rotate_left
     ·exact x14_put
     refine pzv (i := 3) (N := 29) (v := ?_) (a' := ?_) (bA 10 13) HT_ ?_ ?_ ?_
     rotate_left
     ·intro w'
      go_simp; with_reducible rfl
     rotate_left
     ·exact x14_put
     refine pzv (i := 4) (N := 30) (v := ?_) (a' := ?_) (bA 10 29) HT_ ?_ ?_ ?_
     rotate_left
     ·intro w'
      go_simp; with_reducible rfl
     rotate_left
     ·exact x14_put
     refine take_ (i := 1) (N := some 27) (v := ?_) (a' := ?_) (bA 10 31) rfl rfl (take_ofW HT_.out HW_.out (by kernel_rfl)) (fun _ _ _ h => h) (Or.inl ⟨by rfl, ?_⟩) hHeld ?_ ?_
     rotate_left
     ·rintro w' ⟨s0, s1, s2, s3, s4⟩
      go_simp; with_reducible rfl
     rotate_left
     ·exact x14_put
     refine one_ (i := 5) (N := some 31) (bA 10 63) rfl rfl (one_of HT_.out (by kernel_rfl)) (by decide) (fun K hK => ?_)
     refine goesV_ Try.func86 (by kernel_rfl) rfl #[.int .i64 x7_2, .int .i64 x6_1, .pointer (some ⟨g2, 0, none⟩), .pointer (some ⟨g3, 0, none⟩)] (by rfl) rfl rfl (by rfl) z14_10 ?_
     with_reducible refine (impl_MeetMask_1.calls x7_2 x6_1 g2 a2_0 a2_1 a2_2 a2_3 A2_4 c2_4 l2_4 g3 a3_0 a3_1 a3_2 a3_3 A3_4 c3_4 l3_4 t424 _ ?side1 ?side2 ?side3 ?side4 ?side5 ?side6 A25.out).mono ?_
     (case side1 => (with_reducible repeat (first | refine blk_drewN ?_ _ | refine blk_drew ?_ | refine blk_alloc ?_ _)); exact BK2.out)
     (case side2 => repeat (first | exact (Kd.C_below HR2_4.out HB.out) | (with_reducible refine Kd.C_alloc ?_ _) | (with_reducible refine Kd.C_drewN ?_ _) | (with_reducible refine Kd.C_drew ?_)))
     (case side3 => exact HC2_4.out)
     (case side4 => (with_reducible repeat (first | refine blk_drewN ?_ _ | refine blk_drew ?_ | refine blk_alloc ?_ _)); exact BK3.out)
     (case side5 => repeat (first | exact (Kd.C_below HR3_4.out HB.out) | (with_reducible refine Kd.C_alloc ?_ _) | (with_reducible refine Kd.C_drewN ?_ _) | (with_reducible refine Kd.C_drew ?_)))
     (case side6 => exact HC3_4.out)
     rintro e w33 ⟨rfl, hb⟩
     refine ⟨_, rfl, ?_⟩
     have n0_ := mk0 (Kd.R_below (pkR HO_424004) hb)
     have n1_ := mk0 (blk_below (g := g2) (o := .cells #[.int .i64 a2_0, .int .i64 a2_1, .int .i64 a2_2, .int .i64 a2_3, .slice A2_4 l2_4.length c2_4] 65 (0, 0)) (pkb BK2) hb)
     have n2_ := mk0 (blk_below (g := g3) (o := .cells #[.int .i64 a3_0, .int .i64 a3_1, .int .i64 a3_2, .int .i64 a3_3, .slice A3_4 l3_4.length c3_4] 65 (0, 0)) (pkb BK3) hb)
     have n3_ := mk0 (blk_belowB BK421 (pkb BK421) hb)
     have n4_ := mk0 (blk_belowB BK422 (pkb BK422) hb)
     have n5_ := mk0 (blk_belowB BK423 (pkb BK423) hb)
     have n6_ := mk0 (below_step z14_5 hb)
     clear HO_424004 BK2 BK3 BK421 BK422 BK423 HB; have HO_424004 := n0_; have BK2 := n1_; have BK3 := n2_; have BK421 := n3_; have BK422 := n4_; have BK423 := n5_; have HB := n6_; clear n0_ n1_ n2_ n3_ n4_ n5_ n6_; (try clear hb); (try clear hb2); (try clear hk); (try clear hi)
     refine hK.out _ _ ⟨(blk_cell BK423.out 0).trans rfl, (blk_cell BK423.out 1).trans rfl, (blk_cell BK423.out 2).trans rfl, (blk_cell BK423.out 3).trans rfl, (blk_cell BK423.out 4).trans rfl⟩ (fun hHeld => ?_)
     clear hK K
     refine norm_ (a' := ?_) ?_ ?_
     rotate_left
     ·show Act.put _ (some 31) _ = _
      simp only [Act.put, List.setIfInBounds_toArray, List.set_cons_zero, List.set_cons_succ, i64_w, i32_w]
      rfl
     refine one_ (i := 6) (N := some 32) (bA 10 127) rfl rfl (one_of HT_.out (by kernel_rfl)) (by decide) (fun K hK => ?_)
     refine value_ (w1 := ?_) (v := ?_) (by rfl) rfl ?_ ?_
     rotate_left 2
     ·go_simp
      constructor
      ·rfl
      rfl
     refine hK.out _ _ ⟨(blk_cell (blk_alloc BK423.out _) 0).trans rfl, (blk_cell (blk_alloc BK423.out _) 1).trans rfl, (blk_cell (blk_alloc BK423.out _) 2).trans rfl, (blk_cell (blk_alloc BK423.out _) 3).trans rfl, (blk_cell (blk_alloc BK423.out _) 4).trans rfl⟩ (fun hHeld => ?_)
     clear hK K
     refine norm_ (a' := ?_) ?_ ?_
     rotate_left
     ·show Act.put _ (some 32) _ = _
      simp only [Act.put, List.setIfInBounds_toArray, List.set_cons_zero, List.set_cons_succ, i64_w, i32_w]
      rfl
     refine one_ (i := 7) (N := some 33) (bA 10 255) rfl rfl (one_of HT_.out (by kernel_rfl)) (by decide) (fun K hK => ?_)
     refine Kd.R_append_step (Kd.int .i64) (w0 := w) w.heap.size (by rfl) (.tmp 27) (.tmp 32) 22 3 (.int .i64 0) 8 rfl Try.underlying22 info3 rfl (by decide) (by omega) u424004 x424004_2 t424 [.int .i64 t424] (fun _ => True) (fun _ => False) rfl rfl ?aP (fun _ hk => hk.elim) ?aF ?aO ?aB ?aS ?aL ?_
     (case aP => exact rfl)
     (case aB => exact z14_5)
     (case aF => exact (fun _ _ => trivial))
     (case aO => exact (pkR HO_424004))
     (case aS => exact (below_size z14_5))
     (case aL => have := LMc26.out; omega)
     intro v426 w34 ho hb hg hat
     rw [← Ny425.out] at ho
     have n0_ := mk0 (blk_grown (g := g2) (o := .cells #[.int .i64 a2_0, .int .i64 a2_1, .int .i64 a2_2, .int .i64 a2_3, .slice A2_4 l2_4.length c2_4] 65 (0, 0)) (pkb BK2) hg (Kd.R_ne HO_424004.out BK2.out (by decide)))
     have n1_ := mk0 (blk_grown (g := g3) (o := .cells #[.int .i64 a3_0, .int .i64 a3_1, .int .i64 a3_2, .int .i64 a3_3, .slice A3_4 l3_4.length c3_4] 65 (0, 0)) (pkb BK3) hg (Kd.R_ne HO_424004.out BK3.out (by decide)))
     have n2_ := mk0 (blk_grown (g := gb421) (o := .cells #[.int .i64 a0_0, .int .i64 a0_1, .int .i64 a0_2, .int .i64 a0_3] 63 (0, 0)) (pkb BK421) hg (Kd.R_ne HO_424004.out BK421.out (by decide)))
     have n3_ := mk0 (blk_grown (g := gb422) (o := .cells #[.int .i64 0, .int .i64 0, .int .i64 0, .int .i64 0, .slice none 0 0] 65 (0, 0)) (pkb BK422) hg (Kd.R_ne HO_424004.out BK422.out (by decide)))
     have n4_ := mk0 (blk_grown (g := gb423) (o := .cells #[.int .i64 a0_0, .int .i64 a0_1, .int .i64 a0_2, .int .i64 a0_3, u424004] 65 (0, 0)) (pkb BK423) hg (Kd.R_ne HO_424004.out BK423.out (by decide)))
     have n5_ := mk0 (hb)
     have n6_ := mk0 (ho)
     clear BK2 BK3 BK421 BK422 BK423 HB HO_424004; have BK2 := n0_; have BK3 := n1_; have BK421 := n2_; have BK422 := n3_; have BK423 := n4_; have HB := n5_; have HO427 := n6_; clear n0_ n1_ n2_ n3_ n4_ n5_ n6_ ho hb hg hat
     obtain ⟨Ao35, co35, eo35⟩ := Kd.R_slice HO427.out
     (first | subst eo35 | (injection eo35 with f1_ f2_ f3_; have f4_ := f1_.symm; have f5_ := f3_.symm; clear f1_ f2_ f3_; subst f4_; subst f5_))
     refine hK.out _ _ ⟨(blk_cell BK423.out 0).trans rfl, (blk_cell BK423.out 1).trans rfl, (blk_cell BK423.out 2).trans rfl, (blk_cell BK423.out 3).trans rfl, (blk_cell BK423.out 4).trans rfl⟩ (fun hHeld => ?_)
     clear hK K
     refine norm_ (a' := ?_) ?_ ?_
     rotate_left
     ·show Act.put _ (some 33) _ = _
      simp only [Act.put, List.setIfInBounds_toArray, List.set_cons_zero, List.set_cons_succ, i64_w, i32_w]
      rfl
     refine pzv (i := 8) (N := 34) (v := ?_) (a' := ?_) (bA 10 511) HT_ ?_ ?_ ?_
     rotate_left
     ·intro w'
      go_simp; with_reducible rfl
     rotate_left
     ·exact x14_put
     refine last_ (i := 9) (N := none) (bA 10 1023) rfl rfl (one_of HT_.out (by kernel_rfl)) (by decide) (fun K hK => ?_)
     have hs36 : w34.cell? ⟨gb423, 4, none⟩ = some (u424004) := (blk_cell BK423.out 4).trans rfl
     have hfs36 := blk_frozen BK423.out 4
     have hns36_0 := NB2_423.out; have hns36_1 := NB3_423.out; have hns36_2 := NB421_423.out; have hns36_3 := NB422_423.out; have hms36_0 := NB423_2.out; have hms36_1 := NB423_3.out; have hms36_2 := NB423_421.out; have hms36_3 := NB423_422.out
     refine skip_ (w1 := ?_) (by rfl) rfl ?_ ?_
     rotate_left
     ·go_simp
      rfl
     refine hK.out _ _ ?_
     clear hK K
     refine done_ (done_of HT_.out (by kernel_rfl)) ?_
     try go_wp2
     go_roundg k2
     case measure => have := HK1.out; have := HK2.out; omega
     case rel => exact ⟨(wrap64 (x7_2 + 1)), (y425), (.slice Ao35 y425.length co35), rs0, H', ⟨(by have := HK1.out; have := HK2.out; omega)⟩, ⟨(by (with_reducible repeat (first | apply Kd.R_alloc | apply Kd.R_drewN | apply Kd.R_drew)); exact Kd.R_mono (Kd.R_far (p := ⟨gb423, 4, none⟩) (Kd.R_types HO427.out BK423.out (by decide)) (fun _ hk => hk.2) (.slice Ao35 y425.length co35)) (fun _ hk => trivial))⟩, ⟨(by (with_reducible repeat (first | refine blk_drewN ?_ _ | refine blk_drew ?_ | refine blk_alloc ?_ _)); refine blk_far ?_ NB2_423.out _; (with_reducible repeat (first | refine blk_drewN ?_ _ | refine blk_drew ?_ | refine blk_alloc ?_ _)); exact BK2.out)⟩, ⟨(by (with_reducible repeat (first | refine blk_drewN ?_ _ | refine blk_drew ?_ | refine blk_alloc ?_ _)); refine blk_far ?_ NB3_423.out _; (with_reducible repeat (first | refine blk_drewN ?_ _ | refine blk_drew ?_ | refine blk_alloc ?_ _)); exact BK3.out)⟩, ⟨(by (with_reducible repeat (first | refine blk_drewN ?_ _ | refine blk_drew ?_ | refine blk_alloc ?_ _)); refine blk_far ?_ NB421_423.out _; (with_reducible repeat (first | refine blk_drewN ?_ _ | refine blk_drew ?_ | refine blk_alloc ?_ _)); exact BK421.out)⟩, ⟨(by (with_reducible repeat (first | refine blk_drewN ?_ _ | refine blk_drew ?_ | refine blk_alloc ?_ _)); refine blk_far ?_ NB422_423.out _; (with_reducible repeat (first | refine blk_drewN ?_ _ | refine blk_drew ?_ | refine blk_alloc ?_ _)); exact BK422.out)⟩, ⟨(by (with_reducible repeat (first | refine blk_drewN ?_ _ | refine blk_drew ?_ | refine blk_alloc ?_ _)); refine blk_put (cs := #[.int .i64 a0_0, .int .i64 a0_1, .int .i64 a0_2, .int .i64 a0_3, u424004]) ?_ 4 _ rfl; (with_reducible repeat (first | refine blk_drewN ?_ _ | refine blk_drew ?_ | refine blk_alloc ?_ _)); exact BK423.out)⟩, ⟨z14_5⟩⟩

/-! ### impl_MeetMask: function 26 -/
def impl_MeetMask.f (k : Nat) (a0_0 : Int) (a0_1 : Int) (a0_2 : Int) (a0_3 : Int) (l0_4 : List Int) (a1_0 : Int) (a1_1 : Int) (a1_2 : Int) (a1_3 : Int) (l1_4 : List Int) : Option (Int × Int × Int × Int × List Int) := (impl_MeetBox.f a0_0 a0_1 a0_2 a0_3 a1_0 a1_1 a1_2 a1_3).bind fun bt431 => ((impl_Empty.f bt431.1 bt431.2.1 bt431.2.2.1 bt431.2.2.2).bind fun t436 => (if t436 = true then (some (0, 0, 0, 0, ([] : List Int))) else ((impl_MaskOk.f k a0_0 a0_1 a0_2 a0_3 l0_4).bind fun t437 => (if t437 = true then ((impl_MaskOk.f k a1_0 a1_1 a1_2 a1_3 l1_4).bind fun t438 => (if t438 = true then ((impl_maskOver_MeetMask_1.f k bt431.1 bt431.2.1 bt431.2.2.1 bt431.2.2.2 a0_0 a0_1 a0_2 a0_3 l0_4 a1_0 a1_1 a1_2 a1_3 l1_4).bind fun bt439 => (some (bt439.1, bt439.2.1, bt439.2.2.1, bt439.2.2.2.1, bt439.2.2.2.2))) else (some (0, 0, 0, 0, ([] : List Int))))) else (some (0, 0, 0, 0, ([] : List Int)))))))
theorem impl_MeetMask.mono : ∀ a0 a1 a2 a3 a4 a5 a6 a7 a8 a9 k, LeO (impl_MeetMask.f k a0 a1 a2 a3 a4 a5 a6 a7 a8 a9) (impl_MeetMask.f (k + 1) a0 a1 a2 a3 a4 a5 a6 a7 a8 a9) := by
 intro a0 a1 a2 a3 a4 a5 a6 a7 a8 a9 k
 unfold impl_MeetMask.f
 repeat' first
   | (with_reducible exact impl_MaskOk.mono _ _ _ _ _ _)
   | (with_reducible exact impl_maskOver_MeetMask_1.mono _ _ _ _ _ _ _ _ _ _ _ _ _ _ _)
   | (with_reducible exact LeO.refl _)
   | (with_reducible exact LeO.none _)
   | (with_reducible refine LeO.ite ?_ ?_)
   | (with_reducible refine LeO.bind ?_ (fun _ => ?_))
set_option maxHeartbeats 8000000 in
set_option maxRecDepth 100000 in
theorem impl_MeetMask.calls (k : Nat) (a0_0 : Int) (a0_1 : Int) (a0_2 : Int) (a0_3 : Int) (A0_4 : Option Addr) (c0_4 : Nat) (l0_4 : List Int) (a1_0 : Int) (a1_1 : Int) (a1_2 : Int) (a1_3 : Int) (A1_4 : Option Addr) (c1_4 : Nat) (l1_4 : List Int) (r1 : Int) (r2 : Int) (r3 : Int) (r4 : Int) (r5 : List Int) (w : World) (hr0_4 : Kd.C (Kd.int .i64) w A0_4 l0_4.length l0_4) (hc0_4 : l0_4.length ≤ c0_4) (hr1_4 : Kd.C (Kd.int .i64) w A1_4 l1_4.length l1_4) (hc1_4 : l1_4.length ≤ c1_4) (h : impl_MeetMask.f k a0_0 a0_1 a0_2 a0_3 l0_4 a1_0 a1_1 a1_2 a1_3 l1_4 = some (r1, r2, r3, r4, r5)) :
  Calls Try.prog 26 #[.agg #[.int .i64 a0_0, .int .i64 a0_1, .int .i64 a0_2, .int .i64 a0_3, .slice A0_4 l0_4.length c0_4], .agg #[.int .i64 a1_0, .int .i64 a1_1, .int .i64 a1_2, .int .i64 a1_3, .slice A1_4 l1_4.length c1_4]] w fun e w' => ∃ v4_ : Value, e = .returned (.agg #[.int .i64 r1, .int .i64 r2, .int .i64 r3, .int .i64 r4, v4_]) ∧ Kd.R (Kd.int .i64) 3 w' w.heap.size (fun _ => True) v4_ r5 ∧ Below w.heap.size w w' := by
 have hu65 := Try.underlying65
 have hu63 := Try.underlying63
 have hmf : ∀ (fn : Fn) (first cap : Array Value) (w : World), (Instr.makeFunc fn first cap).run Try.prog w = .ok (.func fn first cap) w := fun _ _ _ _ => rfl
 have HR0_4 := mk0 hr0_4
 have HC0_4 := mk0 hc0_4
 clear hr0_4 hc0_4
 have HR1_4 := mk0 hr1_4
 have HC1_4 := mk0 hc1_4
 clear hr1_4 hc1_4
 have HB := mk0 (Below.refl w.heap.size w)
 have H : ((impl_MeetBox.f a0_0 a0_1 a0_2 a0_3 a1_0 a1_1 a1_2 a1_3).bind fun bt431 => ((impl_Empty.f bt431.1 bt431.2.1 bt431.2.2.1 bt431.2.2.2).bind fun t436 => (if t436 = true then (some (0, 0, 0, 0, ([] : List Int))) else ((impl_MaskOk.f k a0_0 a0_1 a0_2 a0_3 l0_4).bind fun t437 => (if t437 = true then ((impl_MaskOk.f k a1_0 a1_1 a1_2 a1_3 l1_4).bind fun t438 => (if t438 = true then ((impl_maskOver_MeetMask_1.f k bt431.1 bt431.2.1 bt431.2.2.1 bt431.2.2.2 a0_0 a0_1 a0_2 a0_3 l0_4 a1_0 a1_1 a1_2 a1_3 l1_4).bind fun bt439 => (some (bt439.1, bt439.2.1, bt439.2.2.1, bt439.2.2.2.1, bt439.2.2.2.2))) else (some (0, 0, 0, 0, ([] : List Int))))) else (some (0, 0, 0, 0, ([] : List Int)))))))) = some (r1, r2, r3, r4, r5) := h
 clear h
 replace H := Option.bind_eq_some_iff.mp H
 obtain ⟨⟨t431, t432, t433, t434⟩, A30, H⟩ := H
 try dsimp only at H
 have A3 := mk0 A30
 clear A30
 replace H := Option.bind_eq_some_iff.mp H
 obtain ⟨t436, A40, H⟩ := H
 try dsimp only at H
 have A4 := mk0 A40
 clear A40
 by_cases c5 : t436 = true
 ·subst c5
  rw [if_pos rfl] at H
  simp only [Option.some.injEq, Prod.mk.injEq] at H
  obtain ⟨rfl, rfl, rfl, rfl, rfl⟩ := H
  go_enter Try.func26, Try.ntmps26
  go_wp2_with (first | ((with_reducible refine gate_dst (N := 2) rfl ?_); refine boxz (cs := #[.int .i64 a0_0, .int .i64 a0_1, .int .i64 a0_2, .int .i64 a0_3, .slice A0_4 l0_4.length c0_4]) (t := 65) rfl ?_; intro gb428 hg w6 hbox hb; have n0_ := mk0 (below_step z14_3 hb); have n1_ := mk0 (hbox); have GW428 := mk0 (ge_go (a := w.heap.size) hg (below_size z14_3)); have GE428 := GW428; clear HB; have HB := n0_; have BK428 := n1_; clear n0_ n1_ ; clear hb hbox hg) | ((with_reducible refine gate_dst (N := 3) rfl ?_); refine boxz (cs := #[.int .i64 a1_0, .int .i64 a1_1, .int .i64 a1_2, .int .i64 a1_3, .slice A1_4 l1_4.length c1_4]) (t := 65) rfl ?_; intro gb429 hg w7 hbox hb; have n0_ := mk0 (blk_belowB BK428 (pkb BK428) hb); have n1_ := mk0 (below_step z14_9 hb); have n2_ := mk0 (hbox); have GW429 := mk0 (ge_go (a := w.heap.size) hg (below_size z14_9)); have GE429 := GW429; have NB428_429 := mk0 (nb_lt hg (blk_ltB BK428 (pkb BK428))); have NB429_428 := mk0 (nb_gt hg (blk_ltB BK428 (pkb BK428))); clear BK428 HB; have BK428 := n0_; have HB := n1_; have BK429 := n2_; clear n0_ n1_ n2_ ; clear hb hbox hg) | ((with_reducible refine gate_dst (N := 4) rfl ?_); refine boxz (cs := #[.int .i64 0, .int .i64 0, .int .i64 0, .int .i64 0, .slice none 0 0]) (t := 65) rfl ?_; intro gb430 hg w8 hbox hb; have n0_ := mk0 (blk_belowB BK428 (pkb BK428) hb); have n1_ := mk0 (blk_belowB BK429 (pkb BK429) hb); have n2_ := mk0 (below_step z14_4 hb); have n3_ := mk0 (hbox); have GW430 := mk0 (ge_go (a := w.heap.size) hg (below_size z14_4)); have GE430 := GW430; have NB428_430 := mk0 (nb_lt hg (blk_ltB BK428 (pkb BK428))); have NB430_428 := mk0 (nb_gt hg (blk_ltB BK428 (pkb BK428))); have NB429_430 := mk0 (nb_lt hg (blk_ltB BK429 (pkb BK429))); have NB430_429 := mk0 (nb_gt hg (blk_ltB BK429 (pkb BK429))); clear BK428 BK429 HB; have BK428 := n0_; have BK429 := n1_; have HB := n2_; have BK430 := n3_; clear n0_ n1_ n2_ n3_ ; clear hb hbox hg; have hnb9 := NB428_429.out; have hnc9 := NB429_428.out; have hnb10 := NB428_430.out; have hnc10 := NB430_428.out; obtain ⟨_, _, _, _, _, _, _, _, _, _⟩ := be_5 BK428.out; have hnb12 := NB429_430.out; have hnc12 := NB430_429.out; obtain ⟨_, _, _, _, _, _, _, _, _, _⟩ := be_5 BK429.out) | ((with_reducible refine gate_callee (f := 83) rfl ?_); refine goesL_ (some 10) rfl rfl Try.func83 (by kernel_rfl) rfl #[.agg #[.int .i64 a0_0, .int .i64 a0_1, .int .i64 a0_2, .int .i64 a0_3], .agg #[.int .i64 a1_0, .int .i64 a1_1, .int .i64 a1_2, .int .i64 a1_3]] rfl z14_10 ?_; (with_reducible refine (impl_MeetBox.calls a0_0 a0_1 a0_2 a0_3 a1_0 a1_1 a1_2 a1_3 t431 t432 t433 t434 _ A3.out).mono ?_); rintro e w14 ⟨rfl, hb⟩; refine ⟨_, rfl, ?_⟩; have n0_ := mk0 (blk_belowB BK428 (pkb BK428) hb); have n1_ := mk0 (blk_belowB BK429 (pkb BK429) hb); have n2_ := mk0 (blk_belowB BK430 (pkb BK430) hb); have n3_ := mk0 (below_step z14_2 hb); clear BK428 BK429 BK430 HB; have BK428 := n0_; have BK429 := n1_; have BK430 := n2_; have HB := n3_; clear n0_ n1_ n2_ n3_; (try clear hb)) | ((with_reducible refine gate_dst (N := 5) rfl ?_); refine boxz (cs := #[.int .i64 0, .int .i64 0, .int .i64 0, .int .i64 0]) (t := 63) rfl ?_; intro gb435 hg w15 hbox hb; have n0_ := mk0 (blk_belowB BK428 (pkb BK428) hb); have n1_ := mk0 (blk_belowB BK429 (pkb BK429) hb); have n2_ := mk0 (blk_belowB BK430 (pkb BK430) hb); have n3_ := mk0 (below_step z14_2 hb); have n4_ := mk0 (hbox); have GW435 := mk0 (ge_go (a := w.heap.size) hg (below_size z14_2)); have GE435 := GW435; have NB428_435 := mk0 (nb_lt hg (blk_ltB BK428 (pkb BK428))); have NB435_428 := mk0 (nb_gt hg (blk_ltB BK428 (pkb BK428))); have NB429_435 := mk0 (nb_lt hg (blk_ltB BK429 (pkb BK429))); have NB435_429 := mk0 (nb_gt hg (blk_ltB BK429 (pkb BK429))); have NB430_435 := mk0 (nb_lt hg (blk_ltB BK430 (pkb BK430))); have NB435_430 := mk0 (nb_gt hg (blk_ltB BK430 (pkb BK430))); clear BK428 BK429 BK430 HB; have BK428 := n0_; have BK429 := n1_; have BK430 := n2_; have HB := n3_; have BK435 := n4_; clear n0_ n1_ n2_ n3_ n4_ ; clear hb hbox hg; have hnb16 := NB435_428.out; have hnc16 := NB428_435.out; have hnb17 := NB435_429.out; have hnc17 := NB429_435.out; have hnb18 := NB435_430.out; have hnc18 := NB430_435.out; obtain ⟨_, _, _, _, _, _, _, _⟩ := be_4 BK435.out) | ((with_reducible refine gate_callee (f := 84) rfl ?_); refine goesL_ (some 12) rfl rfl Try.func84 (by kernel_rfl) rfl #[.agg #[.int .i64 t431, .int .i64 t432, .int .i64 t433, .int .i64 t434]] rfl z14_10 ?_; (with_reducible refine (impl_Empty.calls t431 t432 t433 t434 true _ A4.out).mono ?_); rintro e w20 ⟨rfl, hb⟩; refine ⟨_, rfl, ?_⟩; have n0_ := mk0 (blk_belowB BK428 z14_6 hb); have n1_ := mk0 (blk_belowB BK429 z14_7 hb); have n2_ := mk0 (blk_belowB BK430 z14_8 hb); have n3_ := mk0 (blk_below (g := gb435) (o := .cells #[.int .i64 t431, .int .i64 t432, .int .i64 t433, .int .i64 t434] 63 (0, 0)) z14_12 hb); have n4_ := mk0 (below_step z14_1 hb); clear BK428 BK429 BK430 BK435 HB; have BK428 := n0_; have BK429 := n1_; have BK430 := n2_; have BK435 := n3_; have HB := n4_; clear n0_ n1_ n2_ n3_ n4_; (try clear hb); obtain ⟨_, _, _, _, _, _, _, _, _, _⟩ := be_5 BK430.out))
  refine bodyPost_ret (results_cell_row rfl _ _ gb430 65 #[.int .i64 0, .int .i64 0, .int .i64 0, .int .i64 0, .slice none 0 0] (0, 0) _ rfl z14_13 Try.underlying65 rfl (by kernel_rfl)) rfl ?_
  exact ⟨_, z14_15, z14_19, z14_1⟩
 replace c5 := Bool.eq_false_iff.mpr c5
 subst c5
 rw [if_neg (show ¬ (false = true) by decide)] at H
 replace H := Option.bind_eq_some_iff.mp H
 obtain ⟨t437, A220, H⟩ := H
 try dsimp only at H
 have A22 := mk0 A220
 clear A220
 by_cases c23 : t437 = true
 rotate_left
 ·replace c23 := Bool.eq_false_iff.mpr c23
  subst c23
  rw [if_neg (show ¬ (false = true) by decide)] at H
  simp only [Option.some.injEq, Prod.mk.injEq] at H
  obtain ⟨rfl, rfl, rfl, rfl, rfl⟩ := H
  go_enter Try.func26, Try.ntmps26
  go_wp2_with (first | ((with_reducible refine gate_dst (N := 2) rfl ?_); refine boxz (cs := #[.int .i64 a0_0, .int .i64 a0_1, .int .i64 a0_2, .int .i64 a0_3, .slice A0_4 l0_4.length c0_4]) (t := 65) rfl ?_; intro gb428 hg w70 hbox hb; have n0_ := mk0 (below_step z14_3 hb); have n1_ := mk0 (hbox); have GW428 := mk0 (ge_go (a := w.heap.size) hg (below_size z14_3)); have GE428 := GW428; clear HB; have HB := n0_; have BK428 := n1_; clear n0_ n1_ ; clear hb hbox hg) | ((with_reducible refine gate_dst (N := 3) rfl ?_); refine boxz (cs := #[.int .i64 a1_0, .int .i64 a1_1, .int .i64 a1_2, .int .i64 a1_3, .slice A1_4 l1_4.length c1_4]) (t := 65) rfl ?_; intro gb429 hg w71 hbox hb; have n0_ := mk0 (blk_belowB BK428 (pkb BK428) hb); have n1_ := mk0 (below_step z14_9 hb); have n2_ := mk0 (hbox); have GW429 := mk0 (ge_go (a := w.heap.size) hg (below_size z14_9)); have GE429 := GW429; have NB428_429 := mk0 (nb_lt hg (blk_ltB BK428 (pkb BK428))); have NB429_428 := mk0 (nb_gt hg (blk_ltB BK428 (pkb BK428))); clear BK428 HB; have BK428 := n0_; have HB := n1_; have BK429 := n2_; clear n0_ n1_ n2_ ; clear hb hbox hg) | ((with_reducible refine gate_dst (N := 4) rfl ?_); refine boxz (cs := #[.int .i64 0, .int .i64 0, .int .i64 0, .int .i64 0, .slice none 0 0]) (t := 65) rfl ?_; intro gb430 hg w72 hbox hb; have n0_ := mk0 (blk_belowB BK428 (pkb BK428) hb); have n1_ := mk0 (blk_belowB BK429 (pkb BK429) hb); have n2_ := mk0 (below_step z14_4 hb); have n3_ := mk0 (hbox); have GW430 := mk0 (ge_go (a := w.heap.size) hg (below_size z14_4)); have GE430 := GW430; have NB428_430 := mk0 (nb_lt hg (blk_ltB BK428 (pkb BK428))); have NB430_428 := mk0 (nb_gt hg (blk_ltB BK428 (pkb BK428))); have NB429_430 := mk0 (nb_lt hg (blk_ltB BK429 (pkb BK429))); have NB430_429 := mk0 (nb_gt hg (blk_ltB BK429 (pkb BK429))); clear BK428 BK429 HB; have BK428 := n0_; have BK429 := n1_; have HB := n2_; have BK430 := n3_; clear n0_ n1_ n2_ n3_ ; clear hb hbox hg; have hnb73 := NB428_429.out; have hnc73 := NB429_428.out; have hnb74 := NB428_430.out; have hnc74 := NB430_428.out; obtain ⟨_, _, _, _, _, _, _, _, _, _⟩ := be_5 BK428.out; have hnb76 := NB429_430.out; have hnc76 := NB430_429.out; obtain ⟨_, _, _, _, _, _, _, _, _, _⟩ := be_5 BK429.out) | ((with_reducible refine gate_callee (f := 83) rfl ?_); refine goesL_ (some 10) rfl rfl Try.func83 (by kernel_rfl) rfl #[.agg #[.int .i64 a0_0, .int .i64 a0_1, .int .i64 a0_2, .int .i64 a0_3], .agg #[.int .i64 a1_0, .int .i64 a1_1, .int .i64 a1_2, .int .i64 a1_3]] rfl z14_10 ?_; (with_reducible refine (impl_MeetBox.calls a0_0 a0_1 a0_2 a0_3 a1_0 a1_1 a1_2 a1_3 t431 t432 t433 t434 _ A3.out).mono ?_); rintro e w78 ⟨rfl, hb⟩; refine ⟨_, rfl, ?_⟩; have n0_ := mk0 (blk_belowB BK428 (pkb BK428) hb); have n1_ := mk0 (blk_belowB BK429 (pkb BK429) hb); have n2_ := mk0 (blk_belowB BK430 (pkb BK430) hb); have n3_ := mk0 (below_step z14_2 hb); clear BK428 BK429 BK430 HB; have BK428 := n0_; have BK429 := n1_; have BK430 := n2_; have HB := n3_; clear n0_ n1_ n2_ n3_; (try clear hb)) | ((with_reducible refine gate_dst (N := 5) rfl ?_); refine boxz (cs := #[.int .i64 0, .int .i64 0, .int .i64 0, .int .i64 0]) (t := 63) rfl ?_; intro gb435 hg w79 hbox hb; have n0_ := mk0 (blk_belowB BK428 (pkb BK428) hb); have n1_ := mk0 (blk_belowB BK429 (pkb BK429) hb); have n2_ := mk0 (blk_belowB BK430 (pkb BK430) hb); have n3_ := mk0 (below_step z14_2 hb); have n4_ := mk0 (hbox); have GW435 := mk0 (ge_go (a := w.heap.size) hg (below_size z14_2)); have GE435 := GW435; have NB428_435 := mk0 (nb_lt hg (blk_ltB BK428 (pkb BK428))); have NB435_428 := mk0 (nb_gt hg (blk_ltB BK428 (pkb BK428))); have NB429_435 := mk0 (nb_lt hg (blk_ltB BK429 (pkb BK429))); have NB435_429 := mk0 (nb_gt hg (blk_ltB BK429 (pkb BK429))); have NB430_435 := mk0 (nb_lt hg (blk_ltB BK430 (pkb BK430))); have NB435_430 := mk0 (nb_gt hg (blk_ltB BK430 (pkb BK430))); clear BK428 BK429 BK430 HB; have BK428 := n0_; have BK429 := n1_; have BK430 := n2_; have HB := n3_; have BK435 := n4_; clear n0_ n1_ n2_ n3_ n4_ ; clear hb hbox hg; have hnb80 := NB435_428.out; have hnc80 := NB428_435.out; have hnb81 := NB435_429.out; have hnc81 := NB429_435.out; have hnb82 := NB435_430.out; have hnc82 := NB430_435.out; obtain ⟨_, _, _, _, _, _, _, _⟩ := be_4 BK435.out) | ((with_reducible refine gate_callee (f := 84) rfl ?_); refine goesL_ (some 12) rfl rfl Try.func84 (by kernel_rfl) rfl #[.agg #[.int .i64 t431, .int .i64 t432, .int .i64 t433, .int .i64 t434]] rfl z14_10 ?_; (with_reducible refine (impl_Empty.calls t431 t432 t433 t434 false _ A4.out).mono ?_); rintro e w84 ⟨rfl, hb⟩; refine ⟨_, rfl, ?_⟩; have n0_ := mk0 (blk_belowB BK428 z14_6 hb); have n1_ := mk0 (blk_belowB BK429 z14_7 hb); have n2_ := mk0 (blk_belowB BK430 z14_8 hb); have n3_ := mk0 (blk_below (g := gb435) (o := .cells #[.int .i64 t431, .int .i64 t432, .int .i64 t433, .int .i64 t434] 63 (0, 0)) z14_12 hb); have n4_ := mk0 (below_step z14_1 hb); clear BK428 BK429 BK430 BK435 HB; have BK428 := n0_; have BK429 := n1_; have BK430 := n2_; have BK435 := n3_; have HB := n4_; clear n0_ n1_ n2_ n3_ n4_; (try clear hb); obtain ⟨_, _, _, _, _, _, _, _, _, _⟩ := be_5 BK428.out) | (go_at_call 27; (with_reducible refine (impl_MaskOk.calls k a0_0 a0_1 a0_2 a0_3 _ _ l0_4 false _ ?side1 ?side2 A22.out).mono ?_); (case side1 => exact z14_14); (case side2 => exact HC0_4.out); rintro e w86 ⟨rfl, hb⟩; have n0_ := mk0 (blk_belowB BK428 (pkb BK428) hb); have n1_ := mk0 (blk_belowB BK429 (pkb BK429) hb); have n2_ := mk0 (blk_belowB BK430 (pkb BK430) hb); have n3_ := mk0 (blk_belowB BK435 (pkb BK435) hb); have n4_ := mk0 (below_step z14_1 hb); clear BK428 BK429 BK430 BK435 HB; have BK428 := n0_; have BK429 := n1_; have BK430 := n2_; have BK435 := n3_; have HB := n4_; clear n0_ n1_ n2_ n3_ n4_; (try clear hb); obtain ⟨_, _, _, _, _, _, _, _, _, _⟩ := be_5 BK430.out))
  refine bodyPost_ret (results_cell_row rfl _ _ gb430 65 #[.int .i64 0, .int .i64 0, .int .i64 0, .int .i64 0, .slice none 0 0] (0, 0) _ rfl z14_13 Try.underlying65 rfl (by kernel_rfl)) rfl ?_
  exact ⟨_, z14_15, z14_19, z14_1⟩
 subst c23
 rw [if_pos rfl] at H
 replace H := Option.bind_eq_some_iff.mp H
 obtain ⟨t438, A240, H⟩ := H
 try dsimp only at H
 have A24 := mk0 A240
 clear A240
 by_cases c25 : t438 = true
 rotate_left
 ·replace c25 := Bool.eq_false_iff.mpr c25
  subst c25
  rw [if_neg (show ¬ (false = true) by decide)] at H
  simp only [Option.some.injEq, Prod.mk.injEq] at H
  obtain ⟨rfl, rfl, rfl, rfl, rfl⟩ := H
  go_enter Try.func26, Try.ntmps26
  go_wp2_with (first | ((with_reducible refine gate_dst (N := 2) rfl ?_); refine boxz (cs := #[.int .i64 a0_0, .int .i64 a0_1, .int .i64 a0_2, .int .i64 a0_3, .slice A0_4 l0_4.length c0_4]) (t := 65) rfl ?_; intro gb428 hg w50 hbox hb; have n0_ := mk0 (below_step z14_3 hb); have n1_ := mk0 (hbox); have GW428 := mk0 (ge_go (a := w.heap.size) hg (below_size z14_3)); have GE428 := GW428; clear HB; have HB := n0_; have BK428 := n1_; clear n0_ n1_ ; clear hb hbox hg) | ((with_reducible refine gate_dst (N := 3) rfl ?_); refine boxz (cs := #[.int .i64 a1_0, .int .i64 a1_1, .int .i64 a1_2, .int .i64 a1_3, .slice A1_4 l1_4.length c1_4]) (t := 65) rfl ?_; intro gb429 hg w51 hbox hb; have n0_ := mk0 (blk_belowB BK428 (pkb BK428) hb); have n1_ := mk0 (below_step z14_9 hb); have n2_ := mk0 (hbox); have GW429 := mk0 (ge_go (a := w.heap.size) hg (below_size z14_9)); have GE429 := GW429; have NB428_429 := mk0 (nb_lt hg (blk_ltB BK428 (pkb BK428))); have NB429_428 := mk0 (nb_gt hg (blk_ltB BK428 (pkb BK428))); clear BK428 HB; have BK428 := n0_; have HB := n1_; have BK429 := n2_; clear n0_ n1_ n2_ ; clear hb hbox hg) | ((with_reducible refine gate_dst (N := 4) rfl ?_); refine boxz (cs := #[.int .i64 0, .int .i64 0, .int .i64 0, .int .i64 0, .slice none 0 0]) (t := 65) rfl ?_; intro gb430 hg w52 hbox hb; have n0_ := mk0 (blk_belowB BK428 (pkb BK428) hb); have n1_ := mk0 (blk_belowB BK429 (pkb BK429) hb); have n2_ := mk0 (below_step z14_4 hb); have n3_ := mk0 (hbox); have GW430 := mk0 (ge_go (a := w.heap.size) hg (below_size z14_4)); have GE430 := GW430; have NB428_430 := mk0 (nb_lt hg (blk_ltB BK428 (pkb BK428))); have NB430_428 := mk0 (nb_gt hg (blk_ltB BK428 (pkb BK428))); have NB429_430 := mk0 (nb_lt hg (blk_ltB BK429 (pkb BK429))); have NB430_429 := mk0 (nb_gt hg (blk_ltB BK429 (pkb BK429))); clear BK428 BK429 HB; have BK428 := n0_; have BK429 := n1_; have HB := n2_; have BK430 := n3_; clear n0_ n1_ n2_ n3_ ; clear hb hbox hg; have hnb53 := NB428_429.out; have hnc53 := NB429_428.out; have hnb54 := NB428_430.out; have hnc54 := NB430_428.out; obtain ⟨_, _, _, _, _, _, _, _, _, _⟩ := be_5 BK428.out; have hnb56 := NB429_430.out; have hnc56 := NB430_429.out; obtain ⟨_, _, _, _, _, _, _, _, _, _⟩ := be_5 BK429.out) | ((with_reducible refine gate_callee (f := 83) rfl ?_); refine goesL_ (some 10) rfl rfl Try.func83 (by kernel_rfl) rfl #[.agg #[.int .i64 a0_0, .int .i64 a0_1, .int .i64 a0_2, .int .i64 a0_3], .agg #[.int .i64 a1_0, .int .i64 a1_1, .int .i64 a1_2, .int .i64 a1_3]] rfl z14_10 ?_; (with_reducible refine (impl_MeetBox.calls a0_0 a0_1 a0_2 a0_3 a1_0 a1_1 a1_2 a1_3 t431 t432 t433 t434 _ A3.out).mono ?_); rintro e w58 ⟨rfl, hb⟩; refine ⟨_, rfl, ?_⟩; have n0_ := mk0 (blk_belowB BK428 (pkb BK428) hb); have n1_ := mk0 (blk_belowB BK429 (pkb BK429) hb); have n2_ := mk0 (blk_belowB BK430 (pkb BK430) hb); have n3_ := mk0 (below_step z14_2 hb); clear BK428 BK429 BK430 HB; have BK428 := n0_; have BK429 := n1_; have BK430 := n2_; have HB := n3_; clear n0_ n1_ n2_ n3_; (try clear hb)) | ((with_reducible refine gate_dst (N := 5) rfl ?_); refine boxz (cs := #[.int .i64 0, .int .i64 0, .int .i64 0, .int .i64 0]) (t := 63) rfl ?_; intro gb435 hg w59 hbox hb; have n0_ := mk0 (blk_belowB BK428 (pkb BK428) hb); have n1_ := mk0 (blk_belowB BK429 (pkb BK429) hb); have n2_ := mk0 (blk_belowB BK430 (pkb BK430) hb); have n3_ := mk0 (below_step z14_2 hb); have n4_ := mk0 (hbox); have GW435 := mk0 (ge_go (a := w.heap.size) hg (below_size z14_2)); have GE435 := GW435; have NB428_435 := mk0 (nb_lt hg (blk_ltB BK428 (pkb BK428))); have NB435_428 := mk0 (nb_gt hg (blk_ltB BK428 (pkb BK428))); have NB429_435 := mk0 (nb_lt hg (blk_ltB BK429 (pkb BK429))); have NB435_429 := mk0 (nb_gt hg (blk_ltB BK429 (pkb BK429))); have NB430_435 := mk0 (nb_lt hg (blk_ltB BK430 (pkb BK430))); have NB435_430 := mk0 (nb_gt hg (blk_ltB BK430 (pkb BK430))); clear BK428 BK429 BK430 HB; have BK428 := n0_; have BK429 := n1_; have BK430 := n2_; have HB := n3_; have BK435 := n4_; clear n0_ n1_ n2_ n3_ n4_ ; clear hb hbox hg; have hnb60 := NB435_428.out; have hnc60 := NB428_435.out; have hnb61 := NB435_429.out; have hnc61 := NB429_435.out; have hnb62 := NB435_430.out; have hnc62 := NB430_435.out; obtain ⟨_, _, _, _, _, _, _, _⟩ := be_4 BK435.out) | ((with_reducible refine gate_callee (f := 84) rfl ?_); refine goesL_ (some 12) rfl rfl Try.func84 (by kernel_rfl) rfl #[.agg #[.int .i64 t431, .int .i64 t432, .int .i64 t433, .int .i64 t434]] rfl z14_10 ?_; (with_reducible refine (impl_Empty.calls t431 t432 t433 t434 false _ A4.out).mono ?_); rintro e w64 ⟨rfl, hb⟩; refine ⟨_, rfl, ?_⟩; have n0_ := mk0 (blk_belowB BK428 z14_6 hb); have n1_ := mk0 (blk_belowB BK429 z14_7 hb); have n2_ := mk0 (blk_belowB BK430 z14_8 hb); have n3_ := mk0 (blk_below (g := gb435) (o := .cells #[.int .i64 t431, .int .i64 t432, .int .i64 t433, .int .i64 t434] 63 (0, 0)) z14_12 hb); have n4_ := mk0 (below_step z14_1 hb); clear BK428 BK429 BK430 BK435 HB; have BK428 := n0_; have BK429 := n1_; have BK430 := n2_; have BK435 := n3_; have HB := n4_; clear n0_ n1_ n2_ n3_ n4_; (try clear hb); obtain ⟨_, _, _, _, _, _, _, _, _, _⟩ := be_5 BK428.out) | (go_at_call 27; (with_reducible refine (impl_MaskOk.calls k a0_0 a0_1 a0_2 a0_3 _ _ l0_4 true _ ?side1 ?side2 A22.out).mono ?_); (case side1 => exact z14_14); (case side2 => exact HC0_4.out); rintro e w66 ⟨rfl, hb⟩; have n0_ := mk0 (blk_belowB BK428 (pkb BK428) hb); have n1_ := mk0 (blk_belowB BK429 (pkb BK429) hb); have n2_ := mk0 (blk_belowB BK430 (pkb BK430) hb); have n3_ := mk0 (blk_belowB BK435 (pkb BK435) hb); have n4_ := mk0 (below_step z14_1 hb); clear BK428 BK429 BK430 BK435 HB; have BK428 := n0_; have BK429 := n1_; have BK430 := n2_; have BK435 := n3_; have HB := n4_; clear n0_ n1_ n2_ n3_ n4_; (try clear hb); obtain ⟨_, _, _, _, _, _, _, _, _, _⟩ := be_5 BK429.out) | (go_at_call 27; (with_reducible refine (impl_MaskOk.calls k a1_0 a1_1 a1_2 a1_3 _ _ l1_4 false _ ?side1 ?side2 A24.out).mono ?_); (case side1 => exact z14_16); (case side2 => exact HC1_4.out); rintro e w68 ⟨rfl, hb⟩; have n0_ := mk0 (blk_belowB BK428 (pkb BK428) hb); have n1_ := mk0 (blk_belowB BK429 (pkb BK429) hb); have n2_ := mk0 (blk_belowB BK430 (pkb BK430) hb); have n3_ := mk0 (blk_belowB BK435 (pkb BK435) hb); have n4_ := mk0 (below_step z14_1 hb); clear BK428 BK429 BK430 BK435 HB; have BK428 := n0_; have BK429 := n1_; have BK430 := n2_; have BK435 := n3_; have HB := n4_; clear n0_ n1_ n2_ n3_ n4_; (try clear hb); obtain ⟨_, _, _, _, _, _, _, _, _, _⟩ := be_5 BK430.out))
  refine bodyPost_ret (results_cell_row rfl _ _ gb430 65 #[.int .i64 0, .int .i64 0, .int .i64 0, .int .i64 0, .slice none 0 0] (0, 0) _ rfl z14_13 Try.underlying65 rfl (by kernel_rfl)) rfl ?_
  exact ⟨_, z14_15, z14_19, z14_1⟩
 subst c25
 rw [if_pos rfl] at H
 replace H := Option.bind_eq_some_iff.mp H
 obtain ⟨⟨t439, t440, t441, t442, t443⟩, A260, H⟩ := H
 try dsimp only at H
 have A26 := mk0 A260
 clear A260
 simp only [Option.some.injEq, Prod.mk.injEq] at H
 obtain ⟨rfl, rfl, rfl, rfl, rfl⟩ := H
 go_enter Try.func26, Try.ntmps26
 go_wp2_with (first | ((with_reducible refine gate_dst (N := 2) rfl ?_); refine boxz (cs := #[.int .i64 a0_0, .int .i64 a0_1, .int .i64 a0_2, .int .i64 a0_3, .slice A0_4 l0_4.length c0_4]) (t := 65) rfl ?_; intro gb428 hg w27 hbox hb; have n0_ := mk0 (below_step z14_3 hb); have n1_ := mk0 (hbox); have GW428 := mk0 (ge_go (a := w.heap.size) hg (below_size z14_3)); have GE428 := GW428; clear HB; have HB := n0_; have BK428 := n1_; clear n0_ n1_ ; clear hb hbox hg) | ((with_reducible refine gate_dst (N := 3) rfl ?_); refine boxz (cs := #[.int .i64 a1_0, .int .i64 a1_1, .int .i64 a1_2, .int .i64 a1_3, .slice A1_4 l1_4.length c1_4]) (t := 65) rfl ?_; intro gb429 hg w28 hbox hb; have n0_ := mk0 (blk_belowB BK428 (pkb BK428) hb); have n1_ := mk0 (below_step z14_9 hb); have n2_ := mk0 (hbox); have GW429 := mk0 (ge_go (a := w.heap.size) hg (below_size z14_9)); have GE429 := GW429; have NB428_429 := mk0 (nb_lt hg (blk_ltB BK428 (pkb BK428))); have NB429_428 := mk0 (nb_gt hg (blk_ltB BK428 (pkb BK428))); clear BK428 HB; have BK428 := n0_; have HB := n1_; have BK429 := n2_; clear n0_ n1_ n2_ ; clear hb hbox hg) | ((with_reducible refine gate_dst (N := 4) rfl ?_); refine boxz (cs := #[.int .i64 0, .int .i64 0, .int .i64 0, .int .i64 0, .slice none 0 0]) (t := 65) rfl ?_; intro gb430 hg w29 hbox hb; have n0_ := mk0 (blk_belowB BK428 (pkb BK428) hb); have n1_ := mk0 (blk_belowB BK429 (pkb BK429) hb); have n2_ := mk0 (below_step z14_4 hb); have n3_ := mk0 (hbox); have GW430 := mk0 (ge_go (a := w.heap.size) hg (below_size z14_4)); have GE430 := GW430; have NB428_430 := mk0 (nb_lt hg (blk_ltB BK428 (pkb BK428))); have NB430_428 := mk0 (nb_gt hg (blk_ltB BK428 (pkb BK428))); have NB429_430 := mk0 (nb_lt hg (blk_ltB BK429 (pkb BK429))); have NB430_429 := mk0 (nb_gt hg (blk_ltB BK429 (pkb BK429))); clear BK428 BK429 HB; have BK428 := n0_; have BK429 := n1_; have HB := n2_; have BK430 := n3_; clear n0_ n1_ n2_ n3_ ; clear hb hbox hg; have hnb30 := NB428_429.out; have hnc30 := NB429_428.out; have hnb31 := NB428_430.out; have hnc31 := NB430_428.out; obtain ⟨_, _, _, _, _, _, _, _, _, _⟩ := be_5 BK428.out; have hnb33 := NB429_430.out; have hnc33 := NB430_429.out; obtain ⟨_, _, _, _, _, _, _, _, _, _⟩ := be_5 BK429.out) | ((with_reducible refine gate_callee (f := 83) rfl ?_); refine goesL_ (some 10) rfl rfl Try.func83 (by kernel_rfl) rfl #[.agg #[.int .i64 a0_0, .int .i64 a0_1, .int .i64 a0_2, .int .i64 a0_3], .agg #[.int .i64 a1_0, .int .i64 a1_1, .int .i64 a1_2, .int .i64 a1_3]] rfl z14_10 ?_; (with_reducible refine (impl_MeetBox.calls a0_0 a0_1 a0_2 a0_3 a1_0 a1_1 a1_2 a1_3 t431 t432 t433 t434 _ A3.out).mono ?_); rintro e w35 ⟨rfl, hb⟩; refine ⟨_, rfl, ?_⟩; have n0_ := mk0 (blk_belowB BK428 (pkb BK428) hb); have n1_ := mk0 (blk_belowB BK429 (pkb BK429) hb); have n2_ := mk0 (blk_belowB BK430 (pkb BK430) hb); have n3_ := mk0 (below_step z14_2 hb); clear BK428 BK429 BK430 HB; have BK428 := n0_; have BK429 := n1_; have BK430 := n2_; have HB := n3_; clear n0_ n1_ n2_ n3_; (try clear hb)) | ((with_reducible refine gate_dst (N := 5) rfl ?_); refine boxz (cs := #[.int .i64 0, .int .i64 0, .int .i64 0, .int .i64 0]) (t := 63) rfl ?_; intro gb435 hg w36 hbox hb; have n0_ := mk0 (blk_belowB BK428 (pkb BK428) hb); have n1_ := mk0 (blk_belowB BK429 (pkb BK429) hb); have n2_ := mk0 (blk_belowB BK430 (pkb BK430) hb); have n3_ := mk0 (below_step z14_2 hb); have n4_ := mk0 (hbox); have GW435 := mk0 (ge_go (a := w.heap.size) hg (below_size z14_2)); have GE435 := GW435; have NB428_435 := mk0 (nb_lt hg (blk_ltB BK428 (pkb BK428))); have NB435_428 := mk0 (nb_gt hg (blk_ltB BK428 (pkb BK428))); have NB429_435 := mk0 (nb_lt hg (blk_ltB BK429 (pkb BK429))); have NB435_429 := mk0 (nb_gt hg (blk_ltB BK429 (pkb BK429))); have NB430_435 := mk0 (nb_lt hg (blk_ltB BK430 (pkb BK430))); have NB435_430 := mk0 (nb_gt hg (blk_ltB BK430 (pkb BK430))); clear BK428 BK429 BK430 HB; have BK428 := n0_; have BK429 := n1_; have BK430 := n2_; have HB := n3_; have BK435 := n4_; clear n0_ n1_ n2_ n3_ n4_ ; clear hb hbox hg; have hnb37 := NB435_428.out; have hnc37 := NB428_435.out; have hnb38 := NB435_429.out; have hnc38 := NB429_435.out; have hnb39 := NB435_430.out; have hnc39 := NB430_435.out; obtain ⟨_, _, _, _, _, _, _, _⟩ := be_4 BK435.out) | ((with_reducible refine gate_callee (f := 84) rfl ?_); refine goesL_ (some 12) rfl rfl Try.func84 (by kernel_rfl) rfl #[.agg #[.int .i64 t431, .int .i64 t432, .int .i64 t433, .int .i64 t434]] rfl z14_10 ?_; (with_reducible refine (impl_Empty.calls t431 t432 t433 t434 false _ A4.out).mono ?_); rintro e w41 ⟨rfl, hb⟩; refine ⟨_, rfl, ?_⟩; have n0_ := mk0 (blk_belowB BK428 z14_6 hb); have n1_ := mk0 (blk_belowB BK429 z14_7 hb); have n2_ := mk0 (blk_belowB BK430 z14_8 hb); have n3_ := mk0 (blk_below (g := gb435) (o := .cells #[.int .i64 t431, .int .i64 t432, .int .i64 t433, .int .i64 t434] 63 (0, 0)) z14_12 hb); have n4_ := mk0 (below_step z14_1 hb); clear BK428 BK429 BK430 BK435 HB; have BK428 := n0_; have BK429 := n1_; have BK430 := n2_; have BK435 := n3_; have HB := n4_; clear n0_ n1_ n2_ n3_ n4_; (try clear hb); obtain ⟨_, _, _, _, _, _, _, _, _, _⟩ := be_5 BK428.out) | (go_at_call 27; (with_reducible refine (impl_MaskOk.calls k a0_0 a0_1 a0_2 a0_3 _ _ l0_4 true _ ?side1 ?side2 A22.out).mono ?_); (case side1 => exact z14_14); (case side2 => exact HC0_4.out); rintro e w43 ⟨rfl, hb⟩; have n0_ := mk0 (blk_belowB BK428 (pkb BK428) hb); have n1_ := mk0 (blk_belowB BK429 (pkb BK429) hb); have n2_ := mk0 (blk_belowB BK430 (pkb BK430) hb); have n3_ := mk0 (blk_belowB BK435 (pkb BK435) hb); have n4_ := mk0 (below_step z14_1 hb); clear BK428 BK429 BK430 BK435 HB; have BK428 := n0_; have BK429 := n1_; have BK430 := n2_; have BK435 := n3_; have HB := n4_; clear n0_ n1_ n2_ n3_ n4_; (try clear hb); obtain ⟨_, _, _, _, _, _, _, _, _, _⟩ := be_5 BK429.out) | (go_at_call 27; (with_reducible refine (impl_MaskOk.calls k a1_0 a1_1 a1_2 a1_3 _ _ l1_4 true _ ?side1 ?side2 A24.out).mono ?_); (case side1 => exact z14_16); (case side2 => exact HC1_4.out); rintro e w45 ⟨rfl, hb⟩; have n0_ := mk0 (blk_belowB BK428 (pkb BK428) hb); have n1_ := mk0 (blk_belowB BK429 (pkb BK429) hb); have n2_ := mk0 (blk_belowB BK430 (pkb BK430) hb); have n3_ := mk0 (blk_belowB BK435 (pkb BK435) hb); have n4_ := mk0 (below_step z14_1 hb); clear BK428 BK429 BK430 BK435 HB; have BK428 := n0_; have BK429 := n1_; have BK430 := n2_; have BK435 := n3_; have HB := n4_; clear n0_ n1_ n2_ n3_ n4_; (try clear hb); obtain ⟨_, _, _, _, _, _, _, _⟩ := be_4 BK435.out) | ((with_reducible refine gate_callee (f := 85) rfl ?_); refine goesL_ (some 26) rfl rfl Try.func85 (by kernel_rfl) rfl #[.agg #[.int .i64 t431, .int .i64 t432, .int .i64 t433, .int .i64 t434], .func (.func 86) #[] #[.pointer (some ⟨gb428, 0, none⟩), .pointer (some ⟨gb429, 0, none⟩)]] rfl z14_10 ?_; (with_reducible refine (impl_maskOver_MeetMask_1.calls k t431 t432 t433 t434 gb428 a0_0 a0_1 a0_2 a0_3 A0_4 c0_4 l0_4 gb429 a1_0 a1_1 a1_2 a1_3 A1_4 c1_4 l1_4 t439 t440 t441 t442 t443 _ ?side1 ?side2 ?side3 ?side4 ?side5 ?side6 A26.out).mono ?_); (case side1 => (with_reducible repeat (first | refine blk_drewN ?_ _ | refine blk_drew ?_ | refine blk_alloc ?_ _)); exact BK428.out); (case side2 => exact z14_14); (case side3 => exact HC0_4.out); (case side4 => (with_reducible repeat (first | refine blk_drewN ?_ _ | refine blk_drew ?_ | refine blk_alloc ?_ _)); exact BK429.out); (case side5 => exact z14_16); (case side6 => exact HC1_4.out); rintro e w47 ⟨v444, rfl, ho0, hb⟩; refine ⟨_, rfl, ?_⟩; have n0_ := mk0 (Kd.R_lower ho0 (below_size z14_1)); have n1_ := mk0 (blk_belowB BK428 (pkb BK428) hb); have n2_ := mk0 (blk_belowB BK429 (pkb BK429) hb); have n3_ := mk0 (blk_belowB BK430 (pkb BK430) hb); have n4_ := mk0 (blk_belowB BK435 (pkb BK435) hb); have n5_ := mk0 (below_step z14_1 hb); clear BK428 BK429 BK430 BK435 HB; have HO445 := n0_; have BK428 := n1_; have BK429 := n2_; have BK430 := n3_; have BK435 := n4_; have HB := n5_; clear n0_ n1_ n2_ n3_ n4_ n5_; (try clear hb); (try clear ho0); obtain ⟨_, _, _, _, _, _, _, _, _, _⟩ := be_5 BK430.out; obtain ⟨Ao49, co49, eo49⟩ := Kd.R_slice HO445.out; subst eo49))
 refine bodyPost_ret (results_cell_row rfl _ _ gb430 65 #[.int .i64 t439, .int .i64 t440, .int .i64 t441, .int .i64 t442, .slice Ao49 t443.length co49] (0, 0) _ rfl z14_13 Try.underlying65 rfl (by kernel_rfl)) rfl ?_
 exact ⟨_, z14_15, (by (with_reducible repeat (first | apply Kd.R_alloc | apply Kd.R_drewN | apply Kd.R_drew)); exact Kd.R_mono (Kd.R_far (p := ⟨gb430, 4, none⟩) (Kd.R_far (p := ⟨gb430, 3, none⟩) (Kd.R_far (p := ⟨gb430, 2, none⟩) (Kd.R_far (p := ⟨gb430, 1, none⟩) (Kd.R_far (p := ⟨gb430, 0, none⟩) (Kd.R_types HO445.out BK430.out (by decide)) (fun _ hk => hk.2) (.int .i64 t439)) (fun _ hk => hk.2) (.int .i64 t440)) (fun _ hk => hk.2) (.int .i64 t441)) (fun _ hk => hk.2) (.int .i64 t442)) (fun _ hk => hk.2) (.slice Ao49 t443.length co49)) (fun _ hk => trivial)), z14_1⟩

/-! ### laws_sameInts: function 89 -/
def laws_sameInts.l0 : Nat → List Int → List Int → Int → Option (Bool)
 | 0, _, _, _ => none
 | k + 1, x0, x1, x5 => if x5 < (x0.length : Int) then (if 0 ≤ x5 then (if x5 < (x1.length : Int) then (if (rd x0 x5) = (rd x1 x5) then (laws_sameInts.l0 k x0 x1 (wrap64 (x5 + 1))) else (some false)) else (none)) else (none)) else (some true)
def laws_sameInts.f (k : Nat) (l0 : List Int) (l1 : List Int) : Option (Bool) := if (l0.length : Int) = (l1.length : Int) then (laws_sameInts.l0 k l0 l1 0) else (some false)
theorem laws_sameInts.mono_l : ∀ k, (∀ y0 y1 y2, LeO (laws_sameInts.l0 k y0 y1 y2) (laws_sameInts.l0 (k + 1) y0 y1 y2))
 | 0 => fun _ _ _ r h => by simp [laws_sameInts.l0] at h
 | k + 1 => by
  have ih0 := laws_sameInts.mono_l k
  ·intro y0 y1 y2
   unfold laws_sameInts.l0
   repeat' first
   | (with_reducible exact ih0 _ _ _)
   | (with_reducible exact LeO.refl _)
   | (with_reducible exact LeO.none _)
   | (with_reducible refine LeO.ite ?_ ?_)
   | (with_reducible refine LeO.bind ?_ (fun _ => ?_))
theorem laws_sameInts.mono : ∀ a0 a1 k, LeO (laws_sameInts.f k a0 a1) (laws_sameInts.f (k + 1) a0 a1) := by
 intro a0 a1 k
 have ih0 := laws_sameInts.mono_l k
 unfold laws_sameInts.f
 repeat' first
   | (with_reducible exact ih0 _ _ _)
   | (with_reducible exact LeO.refl _)
   | (with_reducible exact LeO.none _)
   | (with_reducible refine LeO.ite ?_ ?_)
   | (with_reducible refine LeO.bind ?_ (fun _ => ?_))
set_option maxHeartbeats 8000000 in
set_option maxRecDepth 100000 in
theorem laws_sameInts.calls (k : Nat) (A0 : Option Addr) (c0 : Nat) (l0 : List Int) (A1 : Option Addr) (c1 : Nat) (l1 : List Int) (r : Bool) (w : World) (hr0 : Kd.C (Kd.int .i64) w A0 l0.length l0) (hc0 : l0.length ≤ c0) (hr1 : Kd.C (Kd.int .i64) w A1 l1.length l1) (hc1 : l1.length ≤ c1) (h : laws_sameInts.f k l0 l1 = some r) :
  Calls Try.prog 89 #[.slice A0 l0.length c0, .slice A1 l1.length c1] w fun e w' => e = .returned (.bool r) ∧ Drawn0 w w' := by
 have HR0 := mk0 hr0
 have HC0 := mk0 hc0
 clear hr0 hc0
 have HR1 := mk0 hr1
 have HC1 := mk0 hc1
 clear hr1 hc1
 have H : (if (l0.length : Int) = (l1.length : Int) then (laws_sameInts.l0 k l0 l1 0) else (some false)) = some r := h
 clear h
 by_cases c3 : (l0.length : Int) = (l1.length : Int)
 rotate_left
 ·rw [if_neg c3] at H
  have c3b0 : ((l0.length : Int) == (l1.length : Int)) = false := beq_eq_false_iff_ne.mpr c3
  have c3b1 : ((l0.length : Int) != (l1.length : Int)) = true := bne_iff_ne.mpr c3
  have c3b2 : (l0.length == l1.length) = false := by first | simpa using c3 | (simp at c3 ⊢; omega)
  obtain rfl := Option.some.inj H
  simp only [Option.some.injEq, Prod.mk.injEq] at H
  obtain ⟨rfl⟩ := H
  go_enter Try.func89, Try.ntmps89
  go_wp2
  repeat (go_quiet (fail); try go_wp2)
  go_ret
  exact ⟨rs0, z14_21⟩
 rw [if_pos c3] at H
 have c3b0 : ((l0.length : Int) == (l1.length : Int)) = true := beq_iff_eq.mpr c3
 have c3b1 : ((l0.length : Int) != (l1.length : Int)) = false := bne_eq_false_iff_eq.mpr c3
 have c3b2 : (l0.length == l1.length) = true := by first | simpa using c3 | (simp at c3 ⊢; omega)
 clear c3
 have H' := mk0 H
 clear H
 go_enter Try.func89, Try.ntmps89
 go_wp2
 repeat (go_quiet (fail); try go_wp2)
 go_loopg [5] k (fun kq v5 w' => ∃ (x5_1 : Int), v5 = .int .i64 x5_1 ∧ Aside0 (laws_sameInts.l0 kq l0 l1 x5_1 = some r) ∧ Aside0 (kq ≤ k) ∧ Drawn0 w w')
 case atStart => exact ⟨(0), rs0, H', ⟨Nat.le_refl _⟩, z14_21⟩
 case round =>
  clear H'
  try clear c1
  try clear p2
  try clear c3
  try clear c3b0
  try clear c3b1
  try clear c3b2
  obtain ⟨x5_1, rfl, HA, HK1, ⟨m1, rfl⟩⟩ := hrel
  cases gk with
  | zero => exact absurd HA.out (by simp [laws_sameInts.l0])
  | succ k1 =>
   have H := HA.out; clear HA
   simp only [laws_sameInts.l0] at H
   by_cases c4 : x5_1 < (l0.length : Int)
   rotate_left
   ·rw [if_neg c4] at H
    have c4b0 := decide_eq_false c4
    clear c4
    obtain rfl := Option.some.inj H
    simp only [Option.some.injEq, Prod.mk.injEq] at H
    obtain ⟨rfl⟩ := H
    go_wp2
    repeat (go_quiet (fail); try go_wp2)
    go_ret
    exact ⟨rs0, z14_21⟩
   rw [if_pos c4] at H
   have c4b0 := decide_eq_true c4
   clear c4
   by_cases c5 : 0 ≤ x5_1
   rotate_left
   ·rw [if_neg c5] at H
    exact absurd H (by simp)
   rw [if_pos c5] at H
   have c5b0 := decide_eq_true c5
   clear c5
   by_cases c6 : x5_1 < (l1.length : Int)
   rotate_left
   ·rw [if_neg c6] at H
    exact absurd H (by simp)
   rw [if_pos c6] at H
   have c6b0 := decide_eq_true c6
   clear c6
   by_cases c7 : (rd l0 x5_1) = (rd l1 x5_1)
   rotate_left
   ·rw [if_neg c7] at H
    have c7b0 : ((rd l0 x5_1) == (rd l1 x5_1)) = false := beq_eq_false_iff_ne.mpr c7
    have c7b1 : ((rd l0 x5_1) != (rd l1 x5_1)) = true := bne_iff_ne.mpr c7
    obtain rfl := Option.some.inj H
    simp only [Option.some.injEq, Prod.mk.injEq] at H
    obtain ⟨rfl⟩ := H
    have p446 : 0 ≤ (x5_1 : Int) := of_decide_eq_true (by first | (with_reducible assumption) | assumption)
    have q446 : x5_1 < (l0.length : Int) := of_decide_eq_true (by first | (with_reducible assumption) | assumption)
    obtain ⟨ad446, e446, hx446_0⟩ := Kd.at_int HR0.out x5_1 p446 q446
    cases e446
    replace p446 := eq_true p446
    replace q446 := eq_true q446
    have p447 : 0 ≤ (x5_1 : Int) := of_decide_eq_true (by first | (with_reducible assumption) | assumption)
    have q447 : x5_1 < (l1.length : Int) := of_decide_eq_true (by first | (with_reducible assumption) | assumption)
    obtain ⟨ad447, e447, hx447_0⟩ := Kd.at_int HR1.out x5_1 p447 q447
    cases e447
    replace p447 := eq_true p447
    replace q447 := eq_true q447
    go_wp2
    repeat (go_quiet (fail); try go_wp2)
    go_ret
    exact ⟨rs0, z14_21⟩
   rw [if_pos c7] at H
   have c7b0 : ((rd l0 x5_1) == (rd l1 x5_1)) = true := beq_iff_eq.mpr c7
   have c7b1 : ((rd l0 x5_1) != (rd l1 x5_1)) = false := bne_eq_false_iff_eq.mpr c7
   clear c7
   have H' := mk0 H
   clear H
   have p446 : 0 ≤ (x5_1 : Int) := of_decide_eq_true (by first | (with_reducible assumption) | assumption)
   have q446 : x5_1 < (l0.length : Int) := of_decide_eq_true (by first | (with_reducible assumption) | assumption)
   obtain ⟨ad446, e446, hx446_0⟩ := Kd.at_int HR0.out x5_1 p446 q446
   cases e446
   replace p446 := eq_true p446
   replace q446 := eq_true q446
   have p447 : 0 ≤ (x5_1 : Int) := of_decide_eq_true (by first | (with_reducible assumption) | assumption)
   have q447 : x5_1 < (l1.length : Int) := of_decide_eq_true (by first | (with_reducible assumption) | assumption)
   obtain ⟨ad447, e447, hx447_0⟩ := Kd.at_int HR1.out x5_1 p447 q447
   cases e447
   replace p447 := eq_true p447
   replace q447 := eq_true q447
   go_wp2
   repeat (go_quiet (fail); try go_wp2)
   go_roundg k1
   case measure => have := HK1.out; omega
   case rel => exact ⟨(wrap64 (x5_1 + 1)), rs0, H', ⟨(by have := HK1.out; omega)⟩, z14_21⟩

/-! ### laws_sameMask: function 28 -/
def laws_sameMask.f (k : Nat) (a0_0 : Int) (a0_1 : Int) (a0_2 : Int) (a0_3 : Int) (l0_4 : List Int) (a1_0 : Int) (a1_1 : Int) (a1_2 : Int) (a1_3 : Int) (l1_4 : List Int) : Option (Bool) := if (a0_0 == a1_0 && (a0_1 == a1_1 && (a0_2 == a1_2 && (a0_3 == a1_3)))) = true then ((laws_sameInts.f k l0_4 l1_4).bind fun t450 => (some t450)) else (some false)
theorem laws_sameMask.mono : ∀ a0 a1 a2 a3 a4 a5 a6 a7 a8 a9 k, LeO (laws_sameMask.f k a0 a1 a2 a3 a4 a5 a6 a7 a8 a9) (laws_sameMask.f (k + 1) a0 a1 a2 a3 a4 a5 a6 a7 a8 a9) := by
 intro a0 a1 a2 a3 a4 a5 a6 a7 a8 a9 k
 unfold laws_sameMask.f
 repeat' first
   | (with_reducible exact laws_sameInts.mono _ _ _)
   | (with_reducible exact LeO.refl _)
   | (with_reducible exact LeO.none _)
   | (with_reducible refine LeO.ite ?_ ?_)
   | (with_reducible refine LeO.bind ?_ (fun _ => ?_))
set_option maxHeartbeats 8000000 in
set_option maxRecDepth 100000 in
theorem laws_sameMask.calls (k : Nat) (a0_0 : Int) (a0_1 : Int) (a0_2 : Int) (a0_3 : Int) (A0_4 : Option Addr) (c0_4 : Nat) (l0_4 : List Int) (a1_0 : Int) (a1_1 : Int) (a1_2 : Int) (a1_3 : Int) (A1_4 : Option Addr) (c1_4 : Nat) (l1_4 : List Int) (r : Bool) (w : World) (hr0_4 : Kd.C (Kd.int .i64) w A0_4 l0_4.length l0_4) (hc0_4 : l0_4.length ≤ c0_4) (hr1_4 : Kd.C (Kd.int .i64) w A1_4 l1_4.length l1_4) (hc1_4 : l1_4.length ≤ c1_4) (h : laws_sameMask.f k a0_0 a0_1 a0_2 a0_3 l0_4 a1_0 a1_1 a1_2 a1_3 l1_4 = some r) :
  Calls Try.prog 28 #[.agg #[.int .i64 a0_0, .int .i64 a0_1, .int .i64 a0_2, .int .i64 a0_3, .slice A0_4 l0_4.length c0_4], .agg #[.int .i64 a1_0, .int .i64 a1_1, .int .i64 a1_2, .int .i64 a1_3, .slice A1_4 l1_4.length c1_4]] w fun e w' => e = .returned (.bool r) ∧ Below w.heap.size w w' := by
 have hu65 := Try.underlying65
 have hu63 := Try.underlying63
 have HR0_4 := mk0 hr0_4
 have HC0_4 := mk0 hc0_4
 clear hr0_4 hc0_4
 have HR1_4 := mk0 hr1_4
 have HC1_4 := mk0 hc1_4
 clear hr1_4 hc1_4
 have HB := mk0 (Below.refl w.heap.size w)
 have H : (if (a0_0 == a1_0 && (a0_1 == a1_1 && (a0_2 == a1_2 && (a0_3 == a1_3)))) = true then ((laws_sameInts.f k l0_4 l1_4).bind fun t450 => (some t450)) else (some false)) = some r := h
 clear h
 by_cases c3 : (a0_0 == a1_0 && (a0_1 == a1_1 && (a0_2 == a1_2 && (a0_3 == a1_3)))) = true
 rotate_left
 ·rw [if_neg c3] at H
  have c3b0 : (a0_0 == a1_0 && (a0_1 == a1_1 && (a0_2 == a1_2 && (a0_3 == a1_3)))) = false := by simpa using c3
  (try (have c3b1 : decide (a0_0 = a1_0 && (a0_1 == a1_1 && (a0_2 == a1_2 && (a0_3 == a1_3)))) = false := by simpa using c3))
  (try (have c3b2 : (a0_0 == a1_0 && (a0_1 == a1_1 && (a0_2 == a1_2 && (a0_3 == a1_3)))) = false := by simpa using c3))
  (try (have c3b3 : ¬ (a0_0 = a1_0 && (a0_1 == a1_1 && (a0_2 == a1_2 && (a0_3 == a1_3)))) := by simpa using c3))
  clear c3
  obtain rfl := Option.some.inj H
  simp only [Option.some.injEq, Prod.mk.injEq] at H
  obtain ⟨rfl⟩ := H
  go_enter Try.func28, Try.ntmps28
  go_wp2_with (first | ((with_reducible refine gate_dst (N := 2) rfl ?_); refine boxz (cs := #[.int .i64 a0_0, .int .i64 a0_1, .int .i64 a0_2, .int .i64 a0_3, .slice A0_4 l0_4.length c0_4]) (t := 65) rfl ?_; intro gb448 hg w10 hbox hb; have n0_ := mk0 (below_step z14_3 hb); have n1_ := mk0 (hbox); have GW448 := mk0 (ge_go (a := w.heap.size) hg (below_size z14_3)); have GE448 := GW448; clear HB; have HB := n0_; have BK448 := n1_; clear n0_ n1_ ; clear hb hbox hg) | ((with_reducible refine gate_dst (N := 3) rfl ?_); refine boxz (cs := #[.int .i64 a1_0, .int .i64 a1_1, .int .i64 a1_2, .int .i64 a1_3, .slice A1_4 l1_4.length c1_4]) (t := 65) rfl ?_; intro gb449 hg w11 hbox hb; have n0_ := mk0 (blk_belowB BK448 (pkb BK448) hb); have n1_ := mk0 (below_step z14_11 hb); have n2_ := mk0 (hbox); have GW449 := mk0 (ge_go (a := w.heap.size) hg (below_size z14_11)); have GE449 := GW449; have NB448_449 := mk0 (nb_lt hg (blk_ltB BK448 (pkb BK448))); have NB449_448 := mk0 (nb_gt hg (blk_ltB BK448 (pkb BK448))); clear BK448 HB; have BK448 := n0_; have HB := n1_; have BK449 := n2_; clear n0_ n1_ n2_ ; clear hb hbox hg; have hnb12 := NB448_449.out; have hnc12 := NB449_448.out; obtain ⟨_, _, _, _, _, _, _, _, _, _⟩ := be_5 BK448.out; obtain ⟨_, _, _, _, _, _, _, _, _, _⟩ := be_5 BK449.out))
  go_ret
  exact ⟨z14_15, z14_22⟩
 rw [if_pos c3] at H
 have c3b0 : (a0_0 == a1_0 && (a0_1 == a1_1 && (a0_2 == a1_2 && (a0_3 == a1_3)))) = true := c3
 (try (have c3b1 : decide (a0_0 = a1_0 && (a0_1 == a1_1 && (a0_2 == a1_2 && (a0_3 == a1_3)))) = true := by simpa using c3))
 (try (have c3b2 : (a0_0 == a1_0 && (a0_1 == a1_1 && (a0_2 == a1_2 && (a0_3 == a1_3)))) = true := by simpa using c3))
 clear c3
 replace H := Option.bind_eq_some_iff.mp H
 obtain ⟨t450, A40, H⟩ := H
 try dsimp only at H
 have A4 := mk0 A40
 clear A40
 obtain rfl := Option.some.inj H
 simp only [Option.some.injEq, Prod.mk.injEq] at H
 obtain ⟨rfl⟩ := H
 go_enter Try.func28, Try.ntmps28
 go_wp2_with (first | ((with_reducible refine gate_dst (N := 2) rfl ?_); refine boxz (cs := #[.int .i64 a0_0, .int .i64 a0_1, .int .i64 a0_2, .int .i64 a0_3, .slice A0_4 l0_4.length c0_4]) (t := 65) rfl ?_; intro gb448 hg w5 hbox hb; have n0_ := mk0 (below_step z14_3 hb); have n1_ := mk0 (hbox); have GW448 := mk0 (ge_go (a := w.heap.size) hg (below_size z14_3)); have GE448 := GW448; clear HB; have HB := n0_; have BK448 := n1_; clear n0_ n1_ ; clear hb hbox hg) | ((with_reducible refine gate_dst (N := 3) rfl ?_); refine boxz (cs := #[.int .i64 a1_0, .int .i64 a1_1, .int .i64 a1_2, .int .i64 a1_3, .slice A1_4 l1_4.length c1_4]) (t := 65) rfl ?_; intro gb449 hg w6 hbox hb; have n0_ := mk0 (blk_belowB BK448 (pkb BK448) hb); have n1_ := mk0 (below_step z14_11 hb); have n2_ := mk0 (hbox); have GW449 := mk0 (ge_go (a := w.heap.size) hg (below_size z14_11)); have GE449 := GW449; have NB448_449 := mk0 (nb_lt hg (blk_ltB BK448 (pkb BK448))); have NB449_448 := mk0 (nb_gt hg (blk_ltB BK448 (pkb BK448))); clear BK448 HB; have BK448 := n0_; have HB := n1_; have BK449 := n2_; clear n0_ n1_ n2_ ; clear hb hbox hg; have hnb7 := NB448_449.out; have hnc7 := NB449_448.out; obtain ⟨_, _, _, _, _, _, _, _, _, _⟩ := be_5 BK448.out; obtain ⟨_, _, _, _, _, _, _, _, _, _⟩ := be_5 BK449.out) | (go_at_call 89; (with_reducible refine (laws_sameInts.calls k _ _ l0_4 _ _ l1_4 t450 _ ?side1 ?side2 ?side3 ?side4 A4.out).mono ?_); (case side1 => exact z14_14); (case side2 => exact HC0_4.out); (case side3 => exact z14_16); (case side4 => exact HC1_4.out); rintro e w' ⟨rfl, ⟨nd, rfl⟩⟩))
 go_ret
 exact ⟨z14_15, z14_22⟩

end Go.Proofs.Ytghbenapnhcllaa.MFnMeets
