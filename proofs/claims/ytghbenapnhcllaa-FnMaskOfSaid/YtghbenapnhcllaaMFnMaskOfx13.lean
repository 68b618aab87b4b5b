/- Functions of the program as Lean functions, and the proof that a call comes to just these: machine text of this session's own program (myprint.py). -/
import Derived.Test.YtghbenapnhcllaaMFnMaskOfx0
import Derived.Test.YtghbenapnhcllaaMFnMaskOfx3
import Derived.Test.YtghbenapnhcllaaMFnMaskOfx4
import Derived.Test.YtghbenapnhcllaaMFnMaskOfx5
import Derived.Test.YtghbenapnhcllaaMFnMaskOfx12
namespace Go.Proofs.Ytghbenapnhcllaa.MFnMaskOf
open Go.RowKit Go.Proofs.YtghbenapnhcllaaW.PrintWords Go.Proofs.YtghbenapnhcllaaW.PrintLast Go.Proofs.YtghbenapnhcllaaW.PrintMore
attribute [local go_sem] max2_int min2_int max_two min_two max_three min_three max_four min_four   -- for this text's walks alone
set_option linter.unusedVariables false
set_option linter.unusedSimpArgs false

theorem x13_put {P : Prop} (h : P := by simp only [Act.put, List.setIfInBounds_toArray, List.set_cons_zero, List.set_cons_succ, i64_w, i32_w]; rfl) : P := h
theorem z13_1 {P : Prop} (h : P := by repeat (first | (with_reducible first | exact HI451.out | apply IsS152.alloc | apply IsS152.drewN | apply IsS152.drew | apply IsS152.set_1 | apply IsS152.set_2 | apply IsS152.farB NB451_447.out | apply IsS152.farB NB451_458.out) | exact HI451.out)) : P := h
theorem z13_2 {P : Prop} (h : P := by (try simp only [List.map_toArray, List.map_cons, List.map_nil]); first | done | rfl | (simp only [List.length_drop, List.length_take]; rfl)) : P := h
theorem z13_3 {P : Prop} (h : P := by repeat (first | (with_reducible first | exact HB.out | apply below_alloc | apply pw_below_drewN | apply below_drew1 | refine below_set ?_ (IsS152.ge HI451.out) | refine below_set ?_ GE447.out | refine below_set ?_ GE458.out) | exact HB.out)) : P := h
theorem z13_4 {P : Prop} (h : P := by (with_reducible repeat (first | refine blk_drewN ?_ _ | refine blk_drew ?_ | refine blk_alloc ?_ _)); exact BK447.out) : P := h
theorem z13_5 {P : Prop} (h : P := by repeat (first | (with_reducible first | exact HB.out | apply below_alloc | apply pw_below_drewN | apply below_drew1) | exact HB.out)) : P := h
theorem z13_6 {P : Prop} (h : P := by (with_reducible repeat (first | refine blk_drewN ?_ _ | refine blk_drew ?_ | refine blk_alloc ?_ _)); exact BK458.out) : P := h
theorem z13_7 {P : Prop} (h : P := by repeat (first | (with_reducible first | exact HB.out | apply below_alloc | apply pw_below_drewN | apply below_drew1 | refine below_set ?_ (IsS152.ge HI451.out) | refine below_set ?_ GE447.out | refine below_set ?_ GE458.out) | exact HB.out)) : P := h
theorem z13_8 {P : Prop} (h : P := by repeat (first | (with_reducible first | exact HB.out | apply below_alloc | apply pw_below_drewN | apply below_drew1 | refine below_set ?_ (IsS152.ge HI451.out) | refine below_set ?_ GE447.out) | exact HB.out)) : P := h
theorem z13_9 {P : Prop} (h : P := by first | rfl | (simp [errW_none, errW_some] <;> rfl) | (simp [*, errW_none, errW_some] <;> rfl)) : P := h
theorem z13_10 {P : Prop} (h : P := by apply blk_fin; (focus ((with_reducible repeat (first | apply blk_putQ | refine blk_drewN ?_ _ | refine blk_drew ?_ | refine blk_alloc ?_ _)); exact BK447.out)); first | (simp only [List.setIfInBounds_toArray, List.set_cons_zero, List.set_cons_succ]; done) | rfl) : P := h
theorem z13_11 {P : Prop} (h : P := by repeat (first | (with_reducible first | exact HI451.out | apply IsS152.alloc | apply IsS152.drewN | apply IsS152.drew | apply IsS152.set_1 | apply IsS152.set_2 | apply IsS152.farB NB451_447.out | apply IsS152.farB NB451_458.out) | exact HI451.out)) : P := h
theorem z13_12 {P : Prop} (h : P := by repeat (first | (with_reducible first | exact HI451.out | apply IsS152.alloc | apply IsS152.drewN | apply IsS152.drew | apply IsS152.set_1 | apply IsS152.set_2 | apply IsS152.farB NB451_447.out) | exact HI451.out)) : P := h
theorem z13_13 {P : Prop} (h : P := by repeat (first | (with_reducible first | exact HB.out | apply below_alloc | apply pw_below_drewN | apply below_drew1 | refine below_set ?_ (IsS152.ge HI451.out) | refine below_set ?_ GE447.out) | exact HB.out)) : P := h
theorem z13_14 {P : Prop} (h : P := by repeat (first | (with_reducible first | exact HB.out | apply below_alloc | apply pw_below_drewN | apply below_drew1 | refine below_set ?_ GE499.out) | exact HB.out)) : P := h
/-! ### spec_DrawMaskOf: function 31 -/
def spec_DrawMaskOf.j0 : Nat → List Int → Int → Int → Int → Int → Int → Int → Option ((List (List (S52))) × Bool × Int × Int × Int × Int)
 | 0, _, _, _, _, _, _, _ => none
 | k + 1, x452000, x452001, x452002, x459000, x459001, x459002, x459003 => (spec_l01Once.f x452000 x452001 x452002 40).bind fun bt474 => (if bt474.1 = true then ((spec_l01Below.f x452000 bt474.2.1 bt474.2.2 2).bind fun bt477 => ((spec_l10Lines.f k x452000 bt477.2.1 bt477.2.2).bind fun bt480 => ((spec_l01Once.f x452000 bt480.2.1 bt480.2.2 2).bind fun bt485 => (some (bt480.1, bt485.1, 1940, 0, 2000, wrap64 (1 + (wrap64 (bt477.1 * 60)))))))) else ((spec_l10Lines.f k x452000 bt474.2.1 bt474.2.2).bind fun bt488 => ((spec_l01Once.f x452000 bt488.2.1 bt488.2.2 2).bind fun bt493 => (some (bt488.1, bt493.1, x459000, x459001, x459002, x459003)))))
def spec_DrawMaskOf.f (k : Nat) (l0 : List Int) : Option ((List (List (S52))) × Bool × Int × Int × Int × Int) := (spec_l01New.f k l0).bind fun bt448 => ((spec_l01Below.f bt448.1 bt448.2.1 bt448.2.2 8).bind fun bt452 => ((spec_l01Below.f bt448.1 bt452.2.1 bt452.2.2 8).bind fun bt455 => ((spec_l01Below.f bt448.1 bt455.2.1 bt455.2.2 8).bind fun bt459 => ((spec_l01Below.f bt448.1 bt459.2.1 bt459.2.2 8).bind fun bt462 => ((spec_l01Once.f bt448.1 bt462.2.1 bt462.2.2 12).bind fun bt465 => (if bt465.1 = true then ((spec_l05Box.f k bt448.1 bt465.2.1 bt465.2.2).bind fun bt468 => (spec_DrawMaskOf.j0 k bt448.1 bt468.2.2.2.2.1 bt468.2.2.2.2.2 bt468.1 bt468.2.1 bt468.2.2.1 bt468.2.2.2.1)) else (spec_DrawMaskOf.j0 k bt448.1 bt465.2.1 bt465.2.2 (wrap64 (bt452.1 - 2)) (wrap64 (bt455.1 - 2)) (wrap64 ((wrap64 (bt452.1 - 2)) + bt459.1)) (wrap64 ((wrap64 (bt455.1 - 2)) + bt462.1)))))))))
theorem spec_DrawMaskOf.mono_l : ∀ k, (∀ y0 y1 y2 y3 y4 y5 y6, LeO (spec_DrawMaskOf.j0 k y0 y1 y2 y3 y4 y5 y6) (spec_DrawMaskOf.j0 (k + 1) y0 y1 y2 y3 y4 y5 y6))
 | 0 => fun _ _ _ _ _ _ _ r h => by simp [spec_DrawMaskOf.j0] at h
 | k + 1 => by
  have ih0 := spec_DrawMaskOf.mono_l k
  ·intro y0 y1 y2 y3 y4 y5 y6
   unfold spec_DrawMaskOf.j0
   repeat' first
   | (with_reducible exact ih0 _ _ _ _ _ _ _)
   | (with_reducible exact spec_l01New.mono _ _)
   | (with_reducible exact spec_l05Box.mono _ _ _ _)
   | (with_reducible exact spec_l10Lines.mono _ _ _ _)
   | (with_reducible exact LeO.refl _)
   | (with_reducible exact LeO.none _)
   | (with_reducible refine LeO.ite ?_ ?_)
   | (with_reducible refine LeO.bind ?_ (fun _ => ?_))
   | exact ih0 _ _ _ _ _ _ _
   | exact spec_l01New.mono _ _
   | exact spec_l05Box.mono _ _ _ _
   | exact spec_l10Lines.mono _ _ _ _
   | exact LeO.none _
   | refine LeO.ite ?_ ?_
   | refine LeO.bind ?_ (fun _ => ?_)
theorem spec_DrawMaskOf.mono : ∀ a0 k, LeO (spec_DrawMaskOf.f k a0) (spec_DrawMaskOf.f (k + 1) a0) := by
 intro a0 k
 have ih0 := spec_DrawMaskOf.mono_l k
 unfold spec_DrawMaskOf.f
 repeat' first
   | (with_reducible exact ih0 _ _ _ _ _ _ _)
   | (with_reducible exact spec_l01New.mono _ _)
   | (with_reducible exact spec_l05Box.mono _ _ _ _)
   | (with_reducible exact spec_l10Lines.mono _ _ _ _)
   | (with_reducible exact LeO.refl _)
   | (with_reducible exact LeO.none _)
   | (with_reducible refine LeO.ite ?_ ?_)
   | (with_reducible refine LeO.bind ?_ (fun _ => ?_))
   | exact ih0 _ _ _ _ _ _ _
   | exact spec_l01New.mono _ _
   | exact spec_l05Box.mono _ _ _ _
   | exact spec_l10Lines.mono _ _ _ _
   | exact LeO.none _
   | refine LeO.ite ?_ ?_
   | refine LeO.bind ?_ (fun _ => ?_)
def spec_DrawMaskOf.T9 : Bool × List (List Nat × List Nat) := (true, [([], []), ([0], [0]), ([], []), ([2, 1], [2]), ([], []), ([1, 3, 0, 1], [1]), ([3, 5, 0, 1, 2, 3, 5], [3]), ([4, 6, 0, 1, 2, 3, 4, 5, 6], [4])])
def spec_DrawMaskOf.B9 : List Nat := [0, 1, 0, 7, 0, 15, 47, 127]
theorem spec_DrawMaskOf.tab9 : rtab .any (opsOf Try.f31 9) = spec_DrawMaskOf.T9 := by kernel_rfl
theorem spec_DrawMaskOf.bits9 : waitsOk spec_DrawMaskOf.T9.2 spec_DrawMaskOf.B9 = true := by kernel_rfl
set_option maxHeartbeats 8000000 in
set_option maxRecDepth 100000 in
theorem spec_DrawMaskOf.calls (k : Nat) (A0 : Option Addr) (c0 : Nat) (l0 : List Int) (r1 : List (List (S52))) (r2 : Bool) (r3 : Int) (r4 : Int) (r5 : Int) (r6 : Int) (w : World) (hr0 : Kd.C (Kd.int .u8) w A0 l0.length l0) (hc0 : l0.length ≤ c0) (h : spec_DrawMaskOf.f k l0 = some (r1, r2, r3, r4, r5, r6)) :
  Calls Try.prog 31 #[.slice A0 l0.length c0] w fun e w' => ∃ v0_ : Value, e = .returned (.tuple #[v0_, .bool r2, .agg #[.int .i64 r3, .int .i64 r4, .int .i64 r5, .int .i64 r6]]) ∧ Kd.N (Kd.slice 52 k52) 29 w' w.heap.size (fun k_ => (w.heap.size ≤ k_)) v0_ r1 ∧ Below w.heap.size w w' := by
 have hu63 := Try.underlying63
 have HR0 := Aside0.mk hr0
 have HC0 := Aside0.mk hc0
 clear hr0 hc0
 have HB := Aside0.mk (Below.refl w.heap.size w)
 have H : ((spec_l01New.f k l0).bind fun bt448 => ((spec_l01Below.f bt448.1 bt448.2.1 bt448.2.2 8).bind fun bt452 => ((spec_l01Below.f bt448.1 bt452.2.1 bt452.2.2 8).bind fun bt455 => ((spec_l01Below.f bt448.1 bt455.2.1 bt455.2.2 8).bind fun bt459 => ((spec_l01Below.f bt448.1 bt459.2.1 bt459.2.2 8).bind fun bt462 => ((spec_l01Once.f bt448.1 bt462.2.1 bt462.2.2 12).bind fun bt465 => (if bt465.1 = true then ((spec_l05Box.f k bt448.1 bt465.2.1 bt465.2.2).bind fun bt468 => (spec_DrawMaskOf.j0 k bt448.1 bt468.2.2.2.2.1 bt468.2.2.2.2.2 bt468.1 bt468.2.1 bt468.2.2.1 bt468.2.2.2.1)) else (spec_DrawMaskOf.j0 k bt448.1 bt465.2.1 bt465.2.2 (wrap64 (bt452.1 - 2)) (wrap64 (bt455.1 - 2)) (wrap64 ((wrap64 (bt452.1 - 2)) + bt459.1)) (wrap64 ((wrap64 (bt455.1 - 2)) + bt462.1)))))))))) = some (r1, r2, r3, r4, r5, r6) := h
 clear h
 replace H := Option.bind_eq_some_iff.mp H
 obtain ⟨⟨t448, t449, t450⟩, A20, H⟩ := H
 try dsimp only at H
 have A2 := Aside0.mk A20
 clear A20
 replace H := Option.bind_eq_some_iff.mp H
 obtain ⟨⟨t452, t453, t454⟩, A30, H⟩ := H
 try dsimp only at H
 have A3 := Aside0.mk A30
 clear A30
 replace H := Option.bind_eq_some_iff.mp H
 obtain ⟨⟨t455, t456, t457⟩, A40, H⟩ := H
 try dsimp only at H
 have A4 := Aside0.mk A40
 clear A40
 replace H := Option.bind_eq_some_iff.mp H
 obtain ⟨⟨t459, t460, t461⟩, A50, H⟩ := H
 try dsimp only at H
 have A5 := Aside0.mk A50
 clear A50
 replace H := Option.bind_eq_some_iff.mp H
 obtain ⟨⟨t462, t463, t464⟩, A60, H⟩ := H
 try dsimp only at H
 have A6 := Aside0.mk A60
 clear A60
 replace H := Option.bind_eq_some_iff.mp H
 obtain ⟨⟨t465, t466, t467⟩, A70, H⟩ := H
 try dsimp only at H
 have A7 := Aside0.mk A70
 clear A70
 have HC8 := Aside0.mk H
 clear H
 go_enter Try.func31, Try.ntmps31
 try go_wp2_with (first | ((with_reducible refine gate_dst (N := 4) rfl ?_); refine boxz (cs := #[.int .i64 0, .int .i64 0, .int .i64 0, .int .i64 0]) (t := 63) rfl ?_; intro gb447 hg w9 hbox hb; have n0_ := Aside0.mk (below_step z13_5 hb); have n1_ := Aside0.mk (hbox); have n2_ := Aside0.mk (ge_go (a := w.heap.size) hg (below_size z13_5)); have n3_ := Aside0.mk (ge_go (a := w.heap.size) hg (below_size z13_5)); clear HB; have HB := n0_; have BK447 := n1_; have GW447 := n2_; have GE447 := n3_; clear n0_ n1_ n2_ n3_; clear hb hbox hg) | ((with_reducible refine gate_callee (f := 81) rfl ?_); refine goesL_ (some 8) rfl rfl Try.func81 (by kernel_rfl) rfl #[.slice A0 l0.length c0] rfl z13_2 ?_; (with_reducible refine (spec_l01New.calls k _ _ l0 t448 t449 t450 w _ ?side1 ?side2 ?side3 A2.out).mono ?_); (case side1 => repeat (first | (with_reducible first | exact HB.out | apply below_alloc | apply pw_below_drewN | apply below_drew1 | refine below_set ?_ GE447.out) | exact HB.out)); (case side2 => exact HR0.out); (case side3 => exact HC0.out); rintro e w10 ⟨g451, rfl, hi, hb, hb2⟩; refine ⟨_, rfl, ?_⟩; have n0_ := Aside0.mk (blk_belowB BK447 z13_4 hb2); have n1_ := Aside0.mk (hb); have n2_ := Aside0.mk (hi); have n3_ := Aside0.mk (IsS152.ne_blk hi (blk_belowB BK447 z13_4 hb2) (by decide)); have n4_ := Aside0.mk (Ne.symm (IsS152.ne_blk hi (blk_belowB BK447 z13_4 hb2) (by decide))); clear BK447; clear HB; have BK447 := n0_; have HB := n1_; have HI451 := n2_; have NB451_447 := n3_; have NB447_451 := n4_; clear n0_ n1_ n2_ n3_ n4_; (try clear hb); (try clear hb2); (try clear hk); (try clear hi)) | ((with_reducible refine gate_callee (f := 94) rfl ?_); refine goesL_ (some 10) rfl rfl Try.func94 (by kernel_rfl) rfl #[.pointer (some ⟨g451, 0, none⟩), .int .i64 8] rfl z13_2 ?_; (with_reducible refine (spec_l01Below.calls g451 t448 t449 t450 8 t452 t453 t454 w _ ?side1 ?side2 A3.out).mono ?_); (case side1 => exact z13_12); (case side2 => exact z13_13); rintro e w11 ⟨rfl, hi, hb, hk⟩; refine ⟨_, rfl, ?_⟩; have n0_ := Aside0.mk (KeepBut.blk hk (g' := gb447) (o := .cells #[.int .i64 0, .int .i64 0, .int .i64 0, .int .i64 0] 63 (0, 0)) z13_4 NB447_451.out (by simp)); have n1_ := Aside0.mk (hb); have n2_ := Aside0.mk (hi); clear BK447; clear HB; clear HI451; have BK447 := n0_; have HB := n1_; have HI451 := n2_; clear n0_ n1_ n2_; (try clear hb); (try clear hb2); (try clear hk); (try clear hi)) | ((with_reducible refine gate_callee (f := 94) rfl ?_); refine goesL_ (some 13) rfl rfl Try.func94 (by kernel_rfl) rfl #[.pointer (some ⟨g451, 0, none⟩), .int .i64 8] rfl z13_2 ?_; (with_reducible refine (spec_l01Below.calls g451 t448 t453 t454 8 t455 t456 t457 w _ ?side1 ?side2 A4.out).mono ?_); (case side1 => exact z13_12); (case side2 => exact z13_13); rintro e w12 ⟨rfl, hi, hb, hk⟩; refine ⟨_, rfl, ?_⟩; have n0_ := Aside0.mk (KeepBut.blk hk (g' := gb447) (o := .cells #[.int .i64 0, .int .i64 0, .int .i64 0, .int .i64 0] 63 (0, 0)) z13_4 NB447_451.out (by simp)); have n1_ := Aside0.mk (hb); have n2_ := Aside0.mk (hi); clear BK447; clear HB; clear HI451; have BK447 := n0_; have HB := n1_; have HI451 := n2_; clear n0_ n1_ n2_; (try clear hb); (try clear hb2); (try clear hk); (try clear hi)) | ((with_reducible refine gate_dst (N := 6) rfl ?_); refine boxz (cs := #[.int .i64 0, .int .i64 0, .int .i64 0, .int .i64 0]) (t := 63) rfl ?_; intro gb458 hg w13 hbox hb; have n0_ := Aside0.mk (blk_belowB BK447 z13_4 hb); have n1_ := Aside0.mk (IsS152.below (by repeat (first | (with_reducible first | exact HI451.out | apply IsS152.alloc | apply IsS152.drewN | apply IsS152.drew | apply IsS152.set_1 | apply IsS152.set_2 | apply IsS152.farB NB451_447.out) | exact HI451.out)) hb); have n2_ := Aside0.mk (below_step z13_8 hb); have n3_ := Aside0.mk (hbox); have n4_ := Aside0.mk ((by rw [hg]; exact (below_size z13_8) : w.heap.size ≤ gb458)); have n5_ := Aside0.mk ((by rw [hg]; exact (below_size z13_8) : w.heap.size ≤ gb458)); have n6_ := Aside0.mk (nb_lt hg (blk_ltB BK447 z13_4)); have n7_ := Aside0.mk (nb_gt hg (blk_ltB BK447 z13_4)); have n8_ := Aside0.mk ((by rw [hg]; exact Nat.ne_of_lt (IsS152.lt (show IsS152 w _ g451 t448 t456 t457 from by repeat (first | (with_reducible first | exact HI451.out | apply IsS152.alloc | apply IsS152.drewN | apply IsS152.drew | apply IsS152.set_1 | apply IsS152.set_2 | apply IsS152.farB NB451_447.out) | exact HI451.out))) : g451 ≠ gb458)); have n9_ := Aside0.mk ((by rw [hg]; exact Nat.ne_of_gt (IsS152.lt (show IsS152 w _ g451 t448 t456 t457 from by repeat (first | (with_reducible first | exact HI451.out | apply IsS152.alloc | apply IsS152.drewN | apply IsS152.drew | apply IsS152.set_1 | apply IsS152.set_2 | apply IsS152.farB NB451_447.out) | exact HI451.out))) : gb458 ≠ g451)); clear BK447; clear HI451; clear HB; have BK447 := n0_; have HI451 := n1_; have HB := n2_; have BK458 := n3_; have GW458 := n4_; have GE458 := n5_; have NB447_458 := n6_; have NB458_447 := n7_; have NB451_458 := n8_; have NB458_451 := n9_; clear n0_ n1_ n2_ n3_ n4_ n5_ n6_ n7_ n8_ n9_; clear hb hbox hg; have hnb14 := NB458_447.out; have hnc14 := NB447_458.out; have hnb15 := NB458_451.out; have hnc15 := NB451_458.out; obtain ⟨_, _, _, _, _, _, _, _⟩ := be_4 BK458.out))
 have n0_ : Aside0 (((((w13.setCell ⟨gb458, 0, none⟩ (.int .i64 (wrap64 (t452 - 2)))).setCell ⟨gb458, 1, none⟩ (.int .i64 (wrap64 (t455 - 2)))).setCell ⟨gb458, 2, none⟩ (.int .i64 0)).setCell ⟨gb458, 3, none⟩ (.int .i64 0)).heap[gb447]? = some (.cells #[.int .i64 0, .int .i64 0, .int .i64 0, .int .i64 0] 63 (0, 0))) := ⟨by (with_reducible repeat (first | refine blk_drewN ?_ _ | refine blk_drew ?_ | refine blk_alloc ?_ _)); refine blk_far ?_ NB447_458.out _; (with_reducible repeat (first | refine blk_drewN ?_ _ | refine blk_drew ?_ | refine blk_alloc ?_ _)); refine blk_far ?_ NB447_458.out _; (with_reducible repeat (first | refine blk_drewN ?_ _ | refine blk_drew ?_ | refine blk_alloc ?_ _)); refine blk_far ?_ NB447_458.out _; (with_reducible repeat (first | refine blk_drewN ?_ _ | refine blk_drew ?_ | refine blk_alloc ?_ _)); refine blk_far ?_ NB447_458.out _; (with_reducible repeat (first | refine blk_drewN ?_ _ | refine blk_drew ?_ | refine blk_alloc ?_ _)); exact BK447.out⟩
 have n1_ : Aside0 (((((w13.setCell ⟨gb458, 0, none⟩ (.int .i64 (wrap64 (t452 - 2)))).setCell ⟨gb458, 1, none⟩ (.int .i64 (wrap64 (t455 - 2)))).setCell ⟨gb458, 2, none⟩ (.int .i64 0)).setCell ⟨gb458, 3, none⟩ (.int .i64 0)).heap[gb458]? = some (.cells #[.int .i64 (wrap64 (t452 - 2)), .int .i64 (wrap64 (t455 - 2)), .int .i64 0, .int .i64 0] 63 (0, 0))) := ⟨by (with_reducible repeat (first | refine blk_drewN ?_ _ | refine blk_drew ?_ | refine blk_alloc ?_ _)); refine blk_put (cs := #[.int .i64 (wrap64 (t452 - 2)), .int .i64 (wrap64 (t455 - 2)), .int .i64 0, .int .i64 0]) ?_ 3 _ rfl; (with_reducible repeat (first | refine blk_drewN ?_ _ | refine blk_drew ?_ | refine blk_alloc ?_ _)); refine blk_put (cs := #[.int .i64 (wrap64 (t452 - 2)), .int .i64 (wrap64 (t455 - 2)), .int .i64 0, .int .i64 0]) ?_ 2 _ rfl; (with_reducible repeat (first | refine blk_drewN ?_ _ | refine blk_drew ?_ | refine blk_alloc ?_ _)); refine blk_put (cs := #[.int .i64 (wrap64 (t452 - 2)), .int .i64 0, .int .i64 0, .int .i64 0]) ?_ 1 _ rfl; (with_reducible repeat (first | refine blk_drewN ?_ _ | refine blk_drew ?_ | refine blk_alloc ?_ _)); refine blk_put (cs := #[.int .i64 0, .int .i64 0, .int .i64 0, .int .i64 0]) ?_ 0 _ rfl; (with_reducible repeat (first | refine blk_drewN ?_ _ | refine blk_drew ?_ | refine blk_alloc ?_ _)); exact BK458.out⟩
 have n2_ : Aside0 (IsS152 w ((((w13.setCell ⟨gb458, 0, none⟩ (.int .i64 (wrap64 (t452 - 2)))).setCell ⟨gb458, 1, none⟩ (.int .i64 (wrap64 (t455 - 2)))).setCell ⟨gb458, 2, none⟩ (.int .i64 0)).setCell ⟨gb458, 3, none⟩ (.int .i64 0)) g451 t448 t456 t457) := ⟨by repeat (first | (with_reducible first | exact HI451.out | apply IsS152.alloc | apply IsS152.drewN | apply IsS152.drew | apply IsS152.set_1 | apply IsS152.set_2 | apply IsS152.farB NB451_447.out | apply IsS152.farB NB451_458.out) | exact HI451.out)⟩
 have n3_ : Aside0 (Below w.heap.size w ((((w13.setCell ⟨gb458, 0, none⟩ (.int .i64 (wrap64 (t452 - 2)))).setCell ⟨gb458, 1, none⟩ (.int .i64 (wrap64 (t455 - 2)))).setCell ⟨gb458, 2, none⟩ (.int .i64 0)).setCell ⟨gb458, 3, none⟩ (.int .i64 0))) := ⟨by repeat (first | (with_reducible first | exact HB.out | apply below_alloc | apply pw_below_drewN | apply below_drew1 | refine below_set ?_ (IsS152.ge HI451.out) | refine below_set ?_ GE447.out | refine below_set ?_ GE458.out) | exact HB.out)⟩
 (try clear BK447); (try clear BK458); (try clear HI451); (try clear HB)
 generalize ((((w13.setCell ⟨gb458, 0, none⟩ (.int .i64 (wrap64 (t452 - 2)))).setCell ⟨gb458, 1, none⟩ (.int .i64 (wrap64 (t455 - 2)))).setCell ⟨gb458, 2, none⟩ (.int .i64 0)).setCell ⟨gb458, 3, none⟩ (.int .i64 0)) = w17 at n0_ n1_ n2_ n3_ ⊢
 have BK447 := n0_; have BK458 := n1_; have HI451 := n2_; have HB := n3_; clear n0_ n1_ n2_ n3_
 have n0_ := Aside0.mk (blk_drew BK447.out)
 have n1_ := Aside0.mk (blk_drew BK458.out)
 have n2_ := Aside0.mk (IsS152.drew HI451.out)
 have n3_ := Aside0.mk (below_drew1 HB.out)
 clear BK447; clear BK458; clear HI451; clear HB; have BK447 := n0_; have BK458 := n1_; have HI451 := n2_; have HB := n3_; clear n0_ n1_ n2_ n3_
 refine start_ (n := 7) (S := fun w' => w'.cell? ⟨gb458, 0, none⟩ = some (.int .i64 (wrap64 (t452 - 2))) ∧ w'.cell? ⟨gb458, 1, none⟩ = some (.int .i64 (wrap64 (t455 - 2))) ∧ w'.cell? ⟨gb458, 2, none⟩ = some (.int .i64 0) ∧ w'.cell? ⟨gb458, 3, none⟩ = some (.int .i64 0)) (ds := [6]) #[false, false, false, false, false, false, false] (by kernel_rfl) rfl rfl ⟨(blk_cell BK458.out 0).trans rfl, (blk_cell BK458.out 1).trans rfl, (blk_cell BK458.out 2).trans rfl, (blk_cell BK458.out 3).trans rfl⟩ (fun hHeld => ?_)
 generalize w17.drew = w18 at BK447 BK458 HI451 HB hHeld ⊢
 refine pure_ (i := 0) (N := some 16) (v := ?_) (a' := ?_) #[true, false, false, false, false, false, false] rfl rfl (by kernel_rfl) (fun _ _ _ h => h) (Or.inl ⟨by rfl, ?_⟩) ?_ ?_; rotate_left
 ·intro w'
  go_simp; with_reducible rfl
 rotate_left
 ·exact x13_put
 refine pure_ (i := 2) (N := some 18) (v := ?_) (a' := ?_) #[true, false, true, false, false, false, false] rfl rfl (by kernel_rfl) (fun _ _ _ h => h) (Or.inl ⟨by rfl, ?_⟩) ?_ ?_; rotate_left
 ·intro w'
  go_simp; with_reducible rfl
 rotate_left
 ·exact x13_put
 refine take_ (i := 1) (N := some 17) (v := ?_) (a' := ?_) #[true, true, true, false, false, false, false] rfl rfl (by kernel_rfl) (fun _ _ _ h => h) (Or.inl ⟨by rfl, ?_⟩) hHeld ?_ ?_
 rotate_left
 ·rintro w' ⟨s0, s1, s2, s3⟩
  go_simp; with_reducible rfl
 rotate_left
 ·exact x13_put
 refine one_ (i := 3) (N := some 19) #[true, true, true, true, false, false, false] rfl rfl (by kernel_rfl) (by decide) (fun K hK => ?_)
 refine goes_ Try.func94 (by kernel_rfl) rfl #[.pointer (some ⟨g451, 0, none⟩), .int .i64 8] (by rfl) rfl rfl z13_2 ?_
 with_reducible refine (spec_l01Below.calls g451 t448 t456 t457 8 t459 t460 t461 w _ ?side1 ?side2 A5.out).mono ?_
 (case side1 => exact z13_1)
 (case side2 => exact z13_3)
 rintro e w19 ⟨rfl, hi, hb, hk⟩
 refine ⟨_, rfl, ?_⟩
 have n0_ := Aside0.mk (KeepBut.blk hk (g' := gb447) (o := .cells #[.int .i64 0, .int .i64 0, .int .i64 0, .int .i64 0] 63 (0, 0)) z13_4 NB447_451.out (by simp))
 have n1_ := Aside0.mk (KeepBut.blk hk (g' := gb458) (o := .cells #[.int .i64 (wrap64 (t452 - 2)), .int .i64 (wrap64 (t455 - 2)), .int .i64 0, .int .i64 0] 63 (0, 0)) z13_6 NB458_451.out (by simp))
 have n2_ := Aside0.mk (hb)
 have n3_ := Aside0.mk (hi)
 clear BK447; clear BK458; clear HB; clear HI451; have BK447 := n0_; have BK458 := n1_; have HB := n2_; have HI451 := n3_; clear n0_ n1_ n2_ n3_; (try clear hb); (try clear hb2); (try clear hk); (try clear hi)
 refine hK.out _ _ ⟨(blk_cell BK458.out 0).trans rfl, (blk_cell BK458.out 1).trans rfl, (blk_cell BK458.out 2).trans rfl, (blk_cell BK458.out 3).trans rfl⟩ (fun hHeld => ?_)
 clear hK K
 refine norm_ (a' := ?_) ?_ ?_
 rotate_left
 ·show Act.put _ (some 19) _ = _
  simp only [Act.put, List.setIfInBounds_toArray, List.set_cons_zero, List.set_cons_succ, i64_w, i32_w]
  rfl
 refine pure_ (i := 4) (N := some 20) (v := ?_) (a' := ?_) #[true, true, true, true, true, false, false] rfl rfl (by kernel_rfl) (fun _ _ _ h => h) (Or.inl ⟨by rfl, ?_⟩) ?_ ?_; rotate_left
 ·intro w'
  go_simp; with_reducible rfl
 rotate_left
 ·exact x13_put
 refine pure_ (i := 5) (N := some 21) (v := ?_) (a' := ?_) #[true, true, true, true, true, true, false] rfl rfl (by kernel_rfl) (fun _ _ _ h => h) (Or.inl ⟨by rfl, ?_⟩) ?_ ?_; rotate_left
 ·intro w'
  go_simp; with_reducible rfl
 rotate_left
 ·exact x13_put
 refine last_ (i := 6) (N := none) #[true, true, true, true, true, true, true] rfl rfl (by kernel_rfl) (by decide) (fun K hK => ?_)
 have hs20 : w19.cell? ⟨gb458, 2, none⟩ = some (.int .i64 0) := (blk_cell BK458.out 2).trans rfl
 have hfs20 := blk_frozen BK458.out 2
 have hns20_0 := NB447_458.out; have hms20_0 := NB458_447.out
 refine skip_ (w1 := ?_) (by rfl) rfl ?_ ?_
 rotate_left
 ·go_simp
  rfl
 refine hK.out _ _ ?_
 clear hK K
 refine done_ (by kernel_rfl) ?_
 try go_wp2
 have n0_ : Aside0 ((w19.setCell ⟨gb458, 2, none⟩ (.int .i64 (wrap64 ((wrap64 (t452 - 2)) + t459)))).heap[gb447]? = some (.cells #[.int .i64 0, .int .i64 0, .int .i64 0, .int .i64 0] 63 (0, 0))) := ⟨by (with_reducible repeat (first | refine blk_drewN ?_ _ | refine blk_drew ?_ | refine blk_alloc ?_ _)); refine blk_far ?_ NB447_458.out _; (with_reducible repeat (first | refine blk_drewN ?_ _ | refine blk_drew ?_ | refine blk_alloc ?_ _)); exact BK447.out⟩
 have n1_ : Aside0 ((w19.setCell ⟨gb458, 2, none⟩ (.int .i64 (wrap64 ((wrap64 (t452 - 2)) + t459)))).heap[gb458]? = some (.cells #[.int .i64 (wrap64 (t452 - 2)), .int .i64 (wrap64 (t455 - 2)), .int .i64 (wrap64 ((wrap64 (t452 - 2)) + t459)), .int .i64 0] 63 (0, 0))) := ⟨by (with_reducible repeat (first | refine blk_drewN ?_ _ | refine blk_drew ?_ | refine blk_alloc ?_ _)); refine blk_put (cs := #[.int .i64 (wrap64 (t452 - 2)), .int .i64 (wrap64 (t455 - 2)), .int .i64 0, .int .i64 0]) ?_ 2 _ rfl; (with_reducible repeat (first | refine blk_drewN ?_ _ | refine blk_drew ?_ | refine blk_alloc ?_ _)); exact BK458.out⟩
 have n2_ : Aside0 (IsS152 w (w19.setCell ⟨gb458, 2, none⟩ (.int .i64 (wrap64 ((wrap64 (t452 - 2)) + t459)))) g451 t448 t460 t461) := ⟨by repeat (first | (with_reducible first | exact HI451.out | apply IsS152.alloc | apply IsS152.drewN | apply IsS152.drew | apply IsS152.set_1 | apply IsS152.set_2 | apply IsS152.farB NB451_447.out | apply IsS152.farB NB451_458.out) | exact HI451.out)⟩
 have n3_ : Aside0 (Below w.heap.size w (w19.setCell ⟨gb458, 2, none⟩ (.int .i64 (wrap64 ((wrap64 (t452 - 2)) + t459))))) := ⟨by repeat (first | (with_reducible first | exact HB.out | apply below_alloc | apply pw_below_drewN | apply below_drew1 | refine below_set ?_ (IsS152.ge HI451.out) | refine below_set ?_ GE447.out | refine below_set ?_ GE458.out) | exact HB.out)⟩
 (try clear BK447); (try clear BK458); (try clear HI451); (try clear HB)
 generalize (w19.setCell ⟨gb458, 2, none⟩ (.int .i64 (wrap64 ((wrap64 (t452 - 2)) + t459)))) = w21 at n0_ n1_ n2_ n3_ ⊢
 have BK447 := n0_; have BK458 := n1_; have HI451 := n2_; have HB := n3_; clear n0_ n1_ n2_ n3_
 have n0_ := Aside0.mk (blk_drew BK447.out)
 have n1_ := Aside0.mk (blk_drew BK458.out)
 have n2_ := Aside0.mk (IsS152.drew HI451.out)
 have n3_ := Aside0.mk (below_drew1 HB.out)
 clear BK447; clear BK458; clear HI451; clear HB; have BK447 := n0_; have BK458 := n1_; have HI451 := n2_; have HB := n3_; clear n0_ n1_ n2_ n3_
 refine start_ (n := 7) (S := fun w' => w'.cell? ⟨gb458, 0, none⟩ = some (.int .i64 (wrap64 (t452 - 2))) ∧ w'.cell? ⟨gb458, 1, none⟩ = some (.int .i64 (wrap64 (t455 - 2))) ∧ w'.cell? ⟨gb458, 2, none⟩ = some (.int .i64 (wrap64 ((wrap64 (t452 - 2)) + t459))) ∧ w'.cell? ⟨gb458, 3, none⟩ = some (.int .i64 0)) (ds := [6]) #[false, false, false, false, false, false, false] (by kernel_rfl) rfl rfl ⟨(blk_cell BK458.out 0).trans rfl, (blk_cell BK458.out 1).trans rfl, (blk_cell BK458.out 2).trans rfl, (blk_cell BK458.out 3).trans rfl⟩ (fun hHeld => ?_)
 generalize w21.drew = w22 at BK447 BK458 HI451 HB hHeld ⊢
 refine pure_ (i := 0) (N := some 22) (v := ?_) (a' := ?_) #[true, false, false, false, false, false, false] rfl rfl (by kernel_rfl) (fun _ _ _ h => h) (Or.inl ⟨by rfl, ?_⟩) ?_ ?_; rotate_left
 ·intro w'
  go_simp; with_reducible rfl
 rotate_left
 ·exact x13_put
 refine pure_ (i := 2) (N := some 24) (v := ?_) (a' := ?_) #[true, false, true, false, false, false, false] rfl rfl (by kernel_rfl) (fun _ _ _ h => h) (Or.inl ⟨by rfl, ?_⟩) ?_ ?_; rotate_left
 ·intro w'
  go_simp; with_reducible rfl
 rotate_left
 ·exact x13_put
 refine take_ (i := 1) (N := some 23) (v := ?_) (a' := ?_) #[true, true, true, false, false, false, false] rfl rfl (by kernel_rfl) (fun _ _ _ h => h) (Or.inl ⟨by rfl, ?_⟩) hHeld ?_ ?_
 rotate_left
 ·rintro w' ⟨s0, s1, s2, s3⟩
  go_simp; with_reducible rfl
 rotate_left
 ·exact x13_put
 refine one_ (i := 3) (N := some 25) #[true, true, true, true, false, false, false] rfl rfl (by kernel_rfl) (by decide) (fun K hK => ?_)
 refine goes_ Try.func94 (by kernel_rfl) rfl #[.pointer (some ⟨g451, 0, none⟩), .int .i64 8] (by rfl) rfl rfl z13_2 ?_
 with_reducible refine (spec_l01Below.calls g451 t448 t460 t461 8 t462 t463 t464 w _ ?side1 ?side2 A6.out).mono ?_
 (case side1 => exact z13_1)
 (case side2 => exact z13_3)
 rintro e w23 ⟨rfl, hi, hb, hk⟩
 refine ⟨_, rfl, ?_⟩
 have n0_ := Aside0.mk (KeepBut.blk hk (g' := gb447) (o := .cells #[.int .i64 0, .int .i64 0, .int .i64 0, .int .i64 0] 63 (0, 0)) z13_4 NB447_451.out (by simp))
 have n1_ := Aside0.mk (KeepBut.blk hk (g' := gb458) (o := .cells #[.int .i64 (wrap64 (t452 - 2)), .int .i64 (wrap64 (t455 - 2)), .int .i64 (wrap64 ((wrap64 (t452 - 2)) + t459)), .int .i64 0] 63 (0, 0)) z13_6 NB458_451.out (by simp))
 have n2_ := Aside0.mk (hb)
 have n3_ := Aside0.mk (hi)
 clear BK447; clear BK458; clear HB; clear HI451; have BK447 := n0_; have BK458 := n1_; have HB := n2_; have HI451 := n3_; clear n0_ n1_ n2_ n3_; (try clear hb); (try clear hb2); (try clear hk); (try clear hi)
 refine hK.out _ _ ⟨(blk_cell BK458.out 0).trans rfl, (blk_cell BK458.out 1).trans rfl, (blk_cell BK458.out 2).trans rfl, (blk_cell BK458.out 3).trans rfl⟩ (fun hHeld => ?_)
 clear hK K
 refine norm_ (a' := ?_) ?_ ?_
 rotate_left
 ·show Act.put _ (some 25) _ = _
  simp only [Act.put, List.setIfInBounds_toArray, List.set_cons_zero, List.set_cons_succ, i64_w, i32_w]
  rfl
 refine pure_ (i := 4) (N := some 26) (v := ?_) (a' := ?_) #[true, true, true, true, true, false, false] rfl rfl (by kernel_rfl) (fun _ _ _ h => h) (Or.inl ⟨by rfl, ?_⟩) ?_ ?_; rotate_left
 ·intro w'
  go_simp; with_reducible rfl
 rotate_left
 ·exact x13_put
 refine pure_ (i := 5) (N := some 27) (v := ?_) (a' := ?_) #[true, true, true, true, true, true, false] rfl rfl (by kernel_rfl) (fun _ _ _ h => h) (Or.inl ⟨by rfl, ?_⟩) ?_ ?_; rotate_left
 ·intro w'
  go_simp; with_reducible rfl
 rotate_left
 ·exact x13_put
 refine last_ (i := 6) (N := none) #[true, true, true, true, true, true, true] rfl rfl (by kernel_rfl) (by decide) (fun K hK => ?_)
 have hs24 : w23.cell? ⟨gb458, 3, none⟩ = some (.int .i64 0) := (blk_cell BK458.out 3).trans rfl
 have hfs24 := blk_frozen BK458.out 3
 have hns24_0 := NB447_458.out; have hms24_0 := NB458_447.out
 refine skip_ (w1 := ?_) (by rfl) rfl ?_ ?_
 rotate_left
 ·go_simp
  rfl
 refine hK.out _ _ ?_
 clear hK K
 refine done_ (by kernel_rfl) ?_
 go_upto_if 29 with (first | ((with_reducible refine gate_callee (f := 95) rfl ?_); refine goesL_ (some 29) rfl rfl Try.func95 (by kernel_rfl) rfl #[.pointer (some ⟨g451, 0, none⟩), .int .i64 12] rfl z13_2 ?_; (with_reducible refine (spec_l01Once.calls g451 t448 t463 t464 12 t465 t466 t467 w _ ?side1 ?side2 A7.out).mono ?_); (case side1 => exact z13_1); (case side2 => exact z13_3); rintro e w25 ⟨rfl, hi, hb, hk⟩; refine ⟨_, rfl, ?_⟩; have n0_ := Aside0.mk (KeepBut.blk hk (g' := gb447) (o := .cells #[.int .i64 0, .int .i64 0, .int .i64 0, .int .i64 0] 63 (0, 0)) (by (with_reducible repeat (first | refine blk_drewN ?_ _ | refine blk_drew ?_ | refine blk_alloc ?_ _)); refine blk_far ?_ NB447_458.out _; (with_reducible repeat (first | refine blk_drewN ?_ _ | refine blk_drew ?_ | refine blk_alloc ?_ _)); exact BK447.out) NB447_451.out (by simp)); have n1_ := Aside0.mk (KeepBut.blk hk (g' := gb458) (o := .cells #[.int .i64 (wrap64 (t452 - 2)), .int .i64 (wrap64 (t455 - 2)), .int .i64 (wrap64 ((wrap64 (t452 - 2)) + t459)), .int .i64 (wrap64 ((wrap64 (t455 - 2)) + t462))] 63 (0, 0)) (by apply blk_fin; (focus ((with_reducible repeat (first | apply blk_putQ | refine blk_drewN ?_ _ | refine blk_drew ?_ | refine blk_alloc ?_ _)); exact BK458.out)); first | (simp only [List.setIfInBounds_toArray, List.set_cons_zero, List.set_cons_succ]; done) | rfl) NB458_451.out (by simp)); have n2_ := Aside0.mk (hb); have n3_ := Aside0.mk (hi); clear BK447; clear BK458; clear HB; clear HI451; have BK447 := n0_; have BK458 := n1_; have HB := n2_; have HI451 := n3_; clear n0_ n1_ n2_ n3_; (try clear hb); (try clear hk); (try clear hi)))
 (try simp only [Act.put, List.setIfInBounds_toArray, List.set_cons_zero, List.set_cons_succ])
 go_cut [] (fun wc => ∃ (kq : Nat) (x452001_7 : Int) (x452002_7 : Int) (x459000_7 : Int) (x459001_7 : Int) (x459002_7 : Int) (x459003_7 : Int), Aside0 (spec_DrawMaskOf.j0 kq t448 x452001_7 x452002_7 x459000_7 x459001_7 x459002_7 x459003_7 = some (r1, r2, r3, r4, r5, r6)) ∧ Aside0 (kq ≤ k) ∧ Aside0 (wc.heap[gb447]? = some (.cells #[.int .i64 0, .int .i64 0, .int .i64 0, .int .i64 0] 63 (0, 0))) ∧ Aside0 (wc.heap[gb458]? = some (.cells #[.int .i64 x459000_7, .int .i64 x459001_7, .int .i64 x459002_7, .int .i64 x459003_7] 63 (0, 0))) ∧ Aside0 (IsS152 w wc g451 t448 x452001_7 x452002_7) ∧ Aside0 (Below w.heap.size w wc))
 case first =>
  have H := HC8.out; clear HC8
  by_cases c26 : t465 = true
  ·subst c26
   have H1 : ((spec_l05Box.f k t448 t466 t467).bind fun bt468 => (spec_DrawMaskOf.j0 k t448 bt468.2.2.2.2.1 bt468.2.2.2.2.2 bt468.1 bt468.2.1 bt468.2.2.1 bt468.2.2.2.1)) = some (r1, r2, r3, r4, r5, r6) := by rw [if_pos rfl] at H; exact H
   clear H; have H := H1; clear H1
   replace H := Option.bind_eq_some_iff.mp H
   obtain ⟨⟨t468, t469, t470, t471, t472, t473⟩, A270, H⟩ := H
   try dsimp only at H
   have A27 := Aside0.mk A270
   clear A270
   have H' := Aside0.mk H
   clear H
   go_wp2_with (first | ((with_reducible refine gate_callee (f := 96) rfl ?_); refine goesL_ (some 31) rfl rfl Try.func96 (by kernel_rfl) rfl #[.pointer (some ⟨g451, 0, none⟩)] rfl z13_2 ?_; (with_reducible refine (spec_l05Box.calls k g451 t448 t466 t467 t468 t469 t470 t471 t472 t473 w _ ?side1 ?side2 A27.out).mono ?_); (case side1 => exact z13_1); (case side2 => exact z13_3); rintro e w28 ⟨rfl, hi, hb, hk⟩; refine ⟨_, rfl, ?_⟩; have n0_ := Aside0.mk (KeepBut.blk hk (g' := gb447) (o := .cells #[.int .i64 0, .int .i64 0, .int .i64 0, .int .i64 0] 63 (0, 0)) z13_4 NB447_451.out (by simp)); have n1_ := Aside0.mk (KeepBut.blk hk (g' := gb458) (o := .cells #[.int .i64 (wrap64 (t452 - 2)), .int .i64 (wrap64 (t455 - 2)), .int .i64 (wrap64 ((wrap64 (t452 - 2)) + t459)), .int .i64 (wrap64 ((wrap64 (t455 - 2)) + t462))] 63 (0, 0)) z13_6 NB458_451.out (by simp)); have n2_ := Aside0.mk (hb); have n3_ := Aside0.mk (hi); clear BK447; clear BK458; clear HB; clear HI451; have BK447 := n0_; have BK458 := n1_; have HB := n2_; have HI451 := n3_; clear n0_ n1_ n2_ n3_; (try clear hb); (try clear hk); (try clear hi); have hnb29 := NB458_447.out; have hnc29 := NB447_458.out; have hnb30 := NB458_451.out; have hnc30 := NB451_458.out; obtain ⟨_, _, _, _, _, _, _, _⟩ := be_4 BK458.out))
   go_meet
   case rel => exact ⟨_, (t472), (t473), (t468), (t469), (t470), (t471), H', ⟨by first | omega | exact Nat.le_refl _⟩, ⟨by (with_reducible repeat (first | refine blk_drewN ?_ _ | refine blk_drew ?_ | refine blk_alloc ?_ _)); refine blk_far ?_ NB447_458.out _; (with_reducible repeat (first | refine blk_drewN ?_ _ | refine blk_drew ?_ | refine blk_alloc ?_ _)); refine blk_far ?_ NB447_458.out _; (with_reducible repeat (first | refine blk_drewN ?_ _ | refine blk_drew ?_ | refine blk_alloc ?_ _)); refine blk_far ?_ NB447_458.out _; (with_reducible repeat (first | refine blk_drewN ?_ _ | refine blk_drew ?_ | refine blk_alloc ?_ _)); refine blk_far ?_ NB447_458.out _; (with_reducible repeat (first | refine blk_drewN ?_ _ | refine blk_drew ?_ | refine blk_alloc ?_ _)); exact BK447.out⟩, ⟨by (with_reducible repeat (first | refine blk_drewN ?_ _ | refine blk_drew ?_ | refine blk_alloc ?_ _)); refine blk_put (cs := #[.int .i64 t468, .int .i64 t469, .int .i64 t470, .int .i64 (wrap64 ((wrap64 (t455 - 2)) + t462))]) ?_ 3 _ rfl; (with_reducible repeat (first | refine blk_drewN ?_ _ | refine blk_drew ?_ | refine blk_alloc ?_ _)); refine blk_put (cs := #[.int .i64 t468, .int .i64 t469, .int .i64 (wrap64 ((wrap64 (t452 - 2)) + t459)), .int .i64 (wrap64 ((wrap64 (t455 - 2)) + t462))]) ?_ 2 _ rfl; (with_reducible repeat (first | refine blk_drewN ?_ _ | refine blk_drew ?_ | refine blk_alloc ?_ _)); refine blk_put (cs := #[.int .i64 t468, .int .i64 (wrap64 (t455 - 2)), .int .i64 (wrap64 ((wrap64 (t452 - 2)) + t459)), .int .i64 (wrap64 ((wrap64 (t455 - 2)) + t462))]) ?_ 1 _ rfl; (with_reducible repeat (first | refine blk_drewN ?_ _ | refine blk_drew ?_ | refine blk_alloc ?_ _)); refine blk_put (cs := #[.int .i64 (wrap64 (t452 - 2)), .int .i64 (wrap64 (t455 - 2)), .int .i64 (wrap64 ((wrap64 (t452 - 2)) + t459)), .int .i64 (wrap64 ((wrap64 (t455 - 2)) + t462))]) ?_ 0 _ rfl; (with_reducible repeat (first | refine blk_drewN ?_ _ | refine blk_drew ?_ | refine blk_alloc ?_ _)); exact BK458.out⟩, ⟨by repeat (first | (with_reducible first | exact HI451.out | apply IsS152.alloc | apply IsS152.drewN | apply IsS152.drew | apply IsS152.set_1 | apply IsS152.set_2 | apply IsS152.farB NB451_447.out | apply IsS152.farB NB451_458.out) | exact HI451.out)⟩, ⟨by repeat (first | (with_reducible first | exact HB.out | apply below_alloc | apply pw_below_drewN | apply below_drew1 | refine below_set ?_ (IsS152.ge HI451.out) | refine below_set ?_ GE447.out | refine below_set ?_ GE458.out) | exact HB.out)⟩⟩
  ·replace c26 := Bool.eq_false_iff.mpr c26
   subst c26
   have H1 : (spec_DrawMaskOf.j0 k t448 t466 t467 (wrap64 (t452 - 2)) (wrap64 (t455 - 2)) (wrap64 ((wrap64 (t452 - 2)) + t459)) (wrap64 ((wrap64 (t455 - 2)) + t462))) = some (r1, r2, r3, r4, r5, r6) := by rw [if_neg (show ¬ (false = true) by decide)] at H; exact H
   clear H; have H := H1; clear H1
   have H' := Aside0.mk H
   clear H
   go_wp2
   go_meet
   case rel => exact ⟨_, (t466), (t467), (wrap64 (t452 - 2)), (wrap64 (t455 - 2)), (wrap64 ((wrap64 (t452 - 2)) + t459)), (wrap64 ((wrap64 (t455 - 2)) + t462)), H', ⟨by first | omega | exact Nat.le_refl _⟩, ⟨by (with_reducible repeat (first | refine blk_drewN ?_ _ | refine blk_drew ?_ | refine blk_alloc ?_ _)); exact BK447.out⟩, ⟨by (with_reducible repeat (first | refine blk_drewN ?_ _ | refine blk_drew ?_ | refine blk_alloc ?_ _)); exact BK458.out⟩, ⟨by repeat (first | (with_reducible first | exact HI451.out | apply IsS152.alloc | apply IsS152.drewN | apply IsS152.drew | apply IsS152.set_1 | apply IsS152.set_2 | apply IsS152.farB NB451_447.out | apply IsS152.farB NB451_458.out) | exact HI451.out)⟩, ⟨by repeat (first | (with_reducible first | exact HB.out | apply below_alloc | apply pw_below_drewN | apply below_drew1 | refine below_set ?_ (IsS152.ge HI451.out) | refine below_set ?_ GE447.out | refine below_set ?_ GE458.out) | exact HB.out)⟩⟩
 case rest =>
  clear HC8; try clear c1
  try clear c2
  try clear p2
  try clear c3
  try clear p6
  try clear c8
  try clear c9
  try clear c14
  try clear c15
  try clear c26
  try clear c29
  try clear c30
  try clear c31
  obtain ⟨kq, x452001_7, x452002_7, x459000_7, x459001_7, x459002_7, x459003_7, HA, HJ7, BK447, BK458, HI451, HB⟩ := hcut
  cases kq with
  | zero => exact absurd HA.out (by simp [spec_DrawMaskOf.j0])
  | succ kj7 =>
   have H := HA.out; clear HA
   simp only [spec_DrawMaskOf.j0] at H
   replace H := Option.bind_eq_some_iff.mp H
   obtain ⟨⟨t474, t475, t476⟩, A320, H⟩ := H
   try dsimp only at H
   have A32 := Aside0.mk A320
   clear A320
   by_cases c33 : t474 = true
   ·subst c33
    have H1 : ((spec_l01Below.f t448 t475 t476 2).bind fun bt477 => ((spec_l10Lines.f kj7 t448 bt477.2.1 bt477.2.2).bind fun bt480 => ((spec_l01Once.f t448 bt480.2.1 bt480.2.2 2).bind fun bt485 => (some (bt480.1, bt485.1, 1940, 0, 2000, wrap64 (1 + (wrap64 (bt477.1 * 60)))))))) = some (r1, r2, r3, r4, r5, r6) := by rw [if_pos rfl] at H; exact H
    clear H; have H := H1; clear H1
    replace H := Option.bind_eq_some_iff.mp H
    obtain ⟨⟨t477, t478, t479⟩, A340, H⟩ := H
    try dsimp only at H
    have A34 := Aside0.mk A340
    clear A340
    replace H := Option.bind_eq_some_iff.mp H
    obtain ⟨⟨t480, t483, t484⟩, A350, H⟩ := H
    try dsimp only at H
    have A35 := Aside0.mk A350
    clear A350
    replace H := Option.bind_eq_some_iff.mp H
    obtain ⟨⟨t485, t486, t487⟩, A360, H⟩ := H
    try dsimp only at H
    have A36 := Aside0.mk A360
    clear A360
    simp only [Option.some.injEq, Prod.mk.injEq] at H
    obtain ⟨rfl, rfl, rfl, rfl, rfl, rfl⟩ := H
    try go_wp2_with (first | ((with_reducible refine gate_callee (f := 95) rfl ?_); refine goesL_ (some 33) rfl rfl Try.func95 (by kernel_rfl) rfl #[.pointer (some ⟨g451, 0, none⟩), .int .i64 40] rfl z13_2 ?_; (with_reducible refine (spec_l01Once.calls g451 t448 x452001_7 x452002_7 40 true t475 t476 w _ ?side1 ?side2 A32.out).mono ?_); (case side1 => exact z13_1); (case side2 => exact z13_3); rintro e w37 ⟨rfl, hi, hb, hk⟩; refine ⟨_, rfl, ?_⟩; have n0_ := Aside0.mk (KeepBut.blk hk (g' := gb447) (o := .cells #[.int .i64 0, .int .i64 0, .int .i64 0, .int .i64 0] 63 (0, 0)) z13_4 NB447_451.out (by simp)); have n1_ := Aside0.mk (KeepBut.blk hk (g' := gb458) (o := .cells #[.int .i64 x459000_7, .int .i64 x459001_7, .int .i64 x459002_7, .int .i64 x459003_7] 63 (0, 0)) z13_6 NB458_451.out (by simp)); have n2_ := Aside0.mk (hb); have n3_ := Aside0.mk (hi); clear BK447; clear BK458; clear HB; clear HI451; have BK447 := n0_; have BK458 := n1_; have HB := n2_; have HI451 := n3_; clear n0_ n1_ n2_ n3_; (try clear hb); (try clear hk); (try clear hi)) | ((with_reducible refine gate_callee (f := 94) rfl ?_); refine goesL_ (some 35) rfl rfl Try.func94 (by kernel_rfl) rfl #[.pointer (some ⟨g451, 0, none⟩), .int .i64 2] rfl z13_2 ?_; (with_reducible refine (spec_l01Below.calls g451 t448 t475 t476 2 t477 t478 t479 w _ ?side1 ?side2 A34.out).mono ?_); (case side1 => exact z13_1); (case side2 => exact z13_3); rintro e w38 ⟨rfl, hi, hb, hk⟩; refine ⟨_, rfl, ?_⟩; have n0_ := Aside0.mk (KeepBut.blk hk (g' := gb447) (o := .cells #[.int .i64 0, .int .i64 0, .int .i64 0, .int .i64 0] 63 (0, 0)) z13_4 NB447_451.out (by simp)); have n1_ := Aside0.mk (KeepBut.blk hk (g' := gb458) (o := .cells #[.int .i64 x459000_7, .int .i64 x459001_7, .int .i64 x459002_7, .int .i64 x459003_7] 63 (0, 0)) z13_6 NB458_451.out (by simp)); have n2_ := Aside0.mk (hb); have n3_ := Aside0.mk (hi); clear BK447; clear BK458; clear HB; clear HI451; have BK447 := n0_; have BK458 := n1_; have HB := n2_; have HI451 := n3_; clear n0_ n1_ n2_ n3_; (try clear hb); (try clear hk); (try clear hi); have hnb39 := NB458_447.out; have hnc39 := NB447_458.out; have hnb40 := NB458_451.out; have hnc40 := NB451_458.out; obtain ⟨_, _, _, _, _, _, _, _⟩ := be_4 BK458.out))
    have n0_ : Aside0 (((((w38.setCell ⟨gb458, 0, none⟩ (.int .i64 1940)).setCell ⟨gb458, 1, none⟩ (.int .i64 0)).setCell ⟨gb458, 2, none⟩ (.int .i64 2000)).setCell ⟨gb458, 3, none⟩ (.int .i64 (wrap64 (1 + (wrap64 (t477 * 60)))))).heap[gb447]? = some (.cells #[.int .i64 0, .int .i64 0, .int .i64 0, .int .i64 0] 63 (0, 0))) := ⟨by (with_reducible repeat (first | refine blk_drewN ?_ _ | refine blk_drew ?_ | refine blk_alloc ?_ _)); refine blk_far ?_ NB447_458.out _; (with_reducible repeat (first | refine blk_drewN ?_ _ | refine blk_drew ?_ | refine blk_alloc ?_ _)); refine blk_far ?_ NB447_458.out _; (with_reducible repeat (first | refine blk_drewN ?_ _ | refine blk_drew ?_ | refine blk_alloc ?_ _)); refine blk_far ?_ NB447_458.out _; (with_reducible repeat (first | refine blk_drewN ?_ _ | refine blk_drew ?_ | refine blk_alloc ?_ _)); refine blk_far ?_ NB447_458.out _; (with_reducible repeat (first | refine blk_drewN ?_ _ | refine blk_drew ?_ | refine blk_alloc ?_ _)); exact BK447.out⟩
    have n1_ : Aside0 (((((w38.setCell ⟨gb458, 0, none⟩ (.int .i64 1940)).setCell ⟨gb458, 1, none⟩ (.int .i64 0)).setCell ⟨gb458, 2, none⟩ (.int .i64 2000)).setCell ⟨gb458, 3, none⟩ (.int .i64 (wrap64 (1 + (wrap64 (t477 * 60)))))).heap[gb458]? = some (.cells #[.int .i64 1940, .int .i64 0, .int .i64 2000, .int .i64 (wrap64 (1 + (wrap64 (t477 * 60))))] 63 (0, 0))) := ⟨by (with_reducible repeat (first | refine blk_drewN ?_ _ | refine blk_drew ?_ | refine blk_alloc ?_ _)); refine blk_put (cs := #[.int .i64 1940, .int .i64 0, .int .i64 2000, .int .i64 x459003_7]) ?_ 3 _ rfl; (with_reducible repeat (first | refine blk_drewN ?_ _ | refine blk_drew ?_ | refine blk_alloc ?_ _)); refine blk_put (cs := #[.int .i64 1940, .int .i64 0, .int .i64 x459002_7, .int .i64 x459003_7]) ?_ 2 _ rfl; (with_reducible repeat (first | refine blk_drewN ?_ _ | refine blk_drew ?_ | refine blk_alloc ?_ _)); refine blk_put (cs := #[.int .i64 1940, .int .i64 x459001_7, .int .i64 x459002_7, .int .i64 x459003_7]) ?_ 1 _ rfl; (with_reducible repeat (first | refine blk_drewN ?_ _ | refine blk_drew ?_ | refine blk_alloc ?_ _)); refine blk_put (cs := #[.int .i64 x459000_7, .int .i64 x459001_7, .int .i64 x459002_7, .int .i64 x459003_7]) ?_ 0 _ rfl; (with_reducible repeat (first | refine blk_drewN ?_ _ | refine blk_drew ?_ | refine blk_alloc ?_ _)); exact BK458.out⟩
    have n2_ : Aside0 (IsS152 w ((((w38.setCell ⟨gb458, 0, none⟩ (.int .i64 1940)).setCell ⟨gb458, 1, none⟩ (.int .i64 0)).setCell ⟨gb458, 2, none⟩ (.int .i64 2000)).setCell ⟨gb458, 3, none⟩ (.int .i64 (wrap64 (1 + (wrap64 (t477 * 60)))))) g451 t448 t478 t479) := ⟨by repeat (first | (with_reducible first | exact HI451.out | apply IsS152.alloc | apply IsS152.drewN | apply IsS152.drew | apply IsS152.set_1 | apply IsS152.set_2 | apply IsS152.farB NB451_447.out | apply IsS152.farB NB451_458.out) | exact HI451.out)⟩
    have n3_ : Aside0 (Below w.heap.size w ((((w38.setCell ⟨gb458, 0, none⟩ (.int .i64 1940)).setCell ⟨gb458, 1, none⟩ (.int .i64 0)).setCell ⟨gb458, 2, none⟩ (.int .i64 2000)).setCell ⟨gb458, 3, none⟩ (.int .i64 (wrap64 (1 + (wrap64 (t477 * 60))))))) := ⟨by repeat (first | (with_reducible first | exact HB.out | apply below_alloc | apply pw_below_drewN | apply below_drew1 | refine below_set ?_ (IsS152.ge HI451.out) | refine below_set ?_ GE447.out | refine below_set ?_ GE458.out) | exact HB.out)⟩
    (try clear BK447); (try clear BK458); (try clear HI451); (try clear HB)
    generalize ((((w38.setCell ⟨gb458, 0, none⟩ (.int .i64 1940)).setCell ⟨gb458, 1, none⟩ (.int .i64 0)).setCell ⟨gb458, 2, none⟩ (.int .i64 2000)).setCell ⟨gb458, 3, none⟩ (.int .i64 (wrap64 (1 + (wrap64 (t477 * 60)))))) = w42 at n0_ n1_ n2_ n3_ ⊢
    have BK447 := n0_; have BK458 := n1_; have HI451 := n2_; have HB := n3_; clear n0_ n1_ n2_ n3_
    have n0_ := Aside0.mk (blk_drew BK447.out)
    have n1_ := Aside0.mk (blk_drew BK458.out)
    have n2_ := Aside0.mk (IsS152.drew HI451.out)
    have n3_ := Aside0.mk (below_drew1 HB.out)
    clear BK447; clear BK458; clear HI451; clear HB; have BK447 := n0_; have BK458 := n1_; have HI451 := n2_; have HB := n3_; clear n0_ n1_ n2_ n3_
    refine start_ (n := 8) (S := fun w' => w'.cell? ⟨gb458, 0, none⟩ = some (.int .i64 1940) ∧ w'.cell? ⟨gb458, 1, none⟩ = some (.int .i64 0) ∧ w'.cell? ⟨gb458, 2, none⟩ = some (.int .i64 2000) ∧ w'.cell? ⟨gb458, 3, none⟩ = some (.int .i64 (wrap64 (1 + (wrap64 (t477 * 60)))))) (ds := []) #[false, false, false, false, false, false, false, false] (by kernel_rfl) rfl rfl ⟨(blk_cell BK458.out 0).trans rfl, (blk_cell BK458.out 1).trans rfl, (blk_cell BK458.out 2).trans rfl, (blk_cell BK458.out 3).trans rfl⟩ (fun hHeld => ?_); refine with_tabW spec_DrawMaskOf.tab9 spec_DrawMaskOf.bits9 (fun HT_ HW_ => ?_)
    generalize w42.drew = w43 at BK447 BK458 HI451 HB hHeld ⊢
    refine pure_ (i := 0) (N := some 39) (v := ?_) (a' := ?_) #[true, false, false, false, false, false, false, false] rfl rfl (any_of HT_.out (by kernel_rfl)) (fun _ _ _ h => h) (Or.inl ⟨by rfl, ?_⟩) ?_ ?_; rotate_left
    ·intro w'
     go_simp; with_reducible rfl
    rotate_left
    ·exact x13_put
    refine pure_ (i := 2) (N := some 41) (v := ?_) (a' := ?_) #[true, false, true, false, false, false, false, false] rfl rfl (any_of HT_.out (by kernel_rfl)) (fun _ _ _ h => h) (Or.inl ⟨by rfl, ?_⟩) ?_ ?_; rotate_left
    ·intro w'
     go_simp; with_reducible rfl
    rotate_left
    ·exact x13_put
    refine take_ (i := 4) (N := some 43) (v := ?_) (a' := ?_) #[true, false, true, false, true, false, false, false] rfl rfl (take_ofW HT_.out HW_.out (by kernel_rfl)) (fun _ _ _ h => h) (Or.inl ⟨by rfl, ?_⟩) hHeld ?_ ?_
    rotate_left
    ·rintro w' ⟨s0, s1, s2, s3⟩
     go_simp; with_reducible rfl
    rotate_left
    ·exact x13_put
    refine one_ (i := 1) (N := some 40) #[true, true, true, false, true, false, false, false] rfl rfl (one_of HT_.out (by kernel_rfl)) (by decide) (fun K hK => ?_)
    refine goes_ Try.func97 (by kernel_rfl) rfl #[.pointer (some ⟨g451, 0, none⟩)] (by rfl) rfl rfl z13_2 ?_
    with_reducible refine (spec_l10Lines.calls kj7 g451 t448 t478 t479 t480 t483 t484 w _ ?side1 ?side2 A35.out).mono ?_
    (case side1 => exact z13_1)
    (case side2 => exact z13_3)
    rintro e w44 ⟨v481, rfl, ho0, hi, hb, hk⟩
    refine ⟨_, rfl, ?_⟩
    have n0_ := Aside0.mk (KeepBut.blk hk (g' := gb447) (o := .cells #[.int .i64 0, .int .i64 0, .int .i64 0, .int .i64 0] 63 (0, 0)) z13_4 NB447_451.out (by simp))
    have n1_ := Aside0.mk (KeepBut.blk hk (g' := gb458) (o := .cells #[.int .i64 1940, .int .i64 0, .int .i64 2000, .int .i64 (wrap64 (1 + (wrap64 (t477 * 60))))] 63 (0, 0)) z13_6 NB458_451.out (by simp))
    have n2_ := Aside0.mk (Kd.N_lower (Kd.N_mono (ok' := fun k_ => (w.heap.size ≤ k_) ∧ k_ ≠ gb447 ∧ k_ ≠ gb458 ∧ k_ ≠ g451) ho0 (fun k_ hk_ => ⟨(Nat.le_trans (below_size z13_7) hk_), (Kd.freshB (g := gb447) (o := .cells #[.int .i64 0, .int .i64 0, .int .i64 0, .int .i64 0] 63 (0, 0)) z13_4 k_ hk_), (Kd.freshB (g := gb458) (o := .cells #[.int .i64 1940, .int .i64 0, .int .i64 2000, .int .i64 (wrap64 (1 + (wrap64 (t477 * 60))))] 63 (0, 0)) z13_6 k_ hk_), (IsS152.fresh z13_11 k_ hk_)⟩)) (below_size z13_7))
    have n3_ := Aside0.mk (hb)
    have n4_ := Aside0.mk (hi)
    clear BK447; clear BK458; clear HB; clear HI451; have BK447 := n0_; have BK458 := n1_; have HO482 := n2_; have HB := n3_; have HI451 := n4_; clear n0_ n1_ n2_ n3_ n4_; (try clear hb); (try clear hb2); (try clear hk); (try clear hi); (try clear ho0)
    refine hK.out _ _ ⟨(blk_cell BK458.out 0).trans rfl, (blk_cell BK458.out 1).trans rfl, (blk_cell BK458.out 2).trans rfl, (blk_cell BK458.out 3).trans rfl⟩ (fun hHeld => ?_)
    clear hK K
    refine norm_ (a' := ?_) ?_ ?_
    rotate_left
    ·show Act.put _ (some 40) _ = _
     simp only [Act.put, List.setIfInBounds_toArray, List.set_cons_zero, List.set_cons_succ, i64_w, i32_w]
     rfl
    refine one_ (i := 3) (N := some 42) #[true, true, true, true, true, false, false, false] rfl rfl (one_of HT_.out (by kernel_rfl)) (by decide) (fun K hK => ?_)
    refine goes_ Try.func95 (by kernel_rfl) rfl #[.pointer (some ⟨g451, 0, none⟩), .int .i64 2] (by rfl) rfl rfl z13_2 ?_
    with_reducible refine (spec_l01Once.calls g451 t448 t483 t484 2 t485 t486 t487 w _ ?side1 ?side2 A36.out).mono ?_
    (case side1 => exact z13_1)
    (case side2 => exact z13_3)
    rintro e w45 ⟨rfl, hi, hb, hk⟩
    refine ⟨_, rfl, ?_⟩
    have n0_ := Aside0.mk (KeepBut.blk hk (g' := gb447) (o := .cells #[.int .i64 0, .int .i64 0, .int .i64 0, .int .i64 0] 63 (0, 0)) z13_4 NB447_451.out (by simp))
    have n1_ := Aside0.mk (KeepBut.blk hk (g' := gb458) (o := .cells #[.int .i64 1940, .int .i64 0, .int .i64 2000, .int .i64 (wrap64 (1 + (wrap64 (t477 * 60))))] 63 (0, 0)) z13_6 NB458_451.out (by simp))
    have n2_ := Aside0.mk (Kd.N_mono (Kd.N_keep (Kd.N_mono (ok := fun k_ => (((w.heap.size ≤ k_)) ∧ (k_ ≠ gb447 ∧ (k_ ≠ gb458 ∧ k_ ≠ g451)))) (by (with_reducible repeat (first | apply Kd.N_alloc | apply Kd.N_drewN | apply Kd.N_drew)); exact HO482.out) (fun k_ hk_ => (⟨hk_, hk_.2.2.2⟩ : _ ∧ k_ ≠ g451))) hk (fun _ h => h.2)) (fun _ h => h.1))
    have n3_ := Aside0.mk (hb)
    have n4_ := Aside0.mk (hi)
    clear BK447; clear BK458; clear HO482; clear HB; clear HI451; have BK447 := n0_; have BK458 := n1_; have HO482 := n2_; have HB := n3_; have HI451 := n4_; clear n0_ n1_ n2_ n3_ n4_; (try clear hb); (try clear hb2); (try clear hk); (try clear hi)
    refine hK.out _ _ ⟨(blk_cell BK458.out 0).trans rfl, (blk_cell BK458.out 1).trans rfl, (blk_cell BK458.out 2).trans rfl, (blk_cell BK458.out 3).trans rfl⟩ (fun hHeld => ?_)
    clear hK K
    refine norm_ (a' := ?_) ?_ ?_
    rotate_left
    ·show Act.put _ (some 42) _ = _
     simp only [Act.put, List.setIfInBounds_toArray, List.set_cons_zero, List.set_cons_succ, i64_w, i32_w]
     rfl
    refine pure_ (i := 5) (N := some 2) (v := ?_) (a' := ?_) #[true, true, true, true, true, true, false, false] rfl rfl (any_of HT_.out (by kernel_rfl)) (fun _ _ _ h => h) (Or.inl ⟨by rfl, ?_⟩) ?_ ?_; rotate_left
    ·intro w'
     go_simp; with_reducible rfl
    rotate_left
    ·exact x13_put
    refine pure_ (i := 6) (N := some 3) (v := ?_) (a' := ?_) #[true, true, true, true, true, true, true, false] rfl rfl (any_of HT_.out (by kernel_rfl)) (fun _ _ _ h => h) (Or.inl ⟨by rfl, ?_⟩) ?_ ?_; rotate_left
    ·intro w'
     go_simp; with_reducible rfl
    rotate_left
    ·exact x13_put
    refine one_ (i := 7) (N := none) #[true, true, true, true, true, true, true, true] rfl rfl (one_of HT_.out (by kernel_rfl)) (by decide) (fun K hK => ?_)
    have hs46 : w45.cell? ⟨gb447, 0, none⟩ = some (.int .i64 0) := (blk_cell BK447.out 0).trans rfl
    have hfs46 := blk_frozen BK447.out 0
    have hns46_1 := NB458_447.out; have hms46_1 := NB447_458.out
    have hs47 : w45.cell? ⟨gb447, 1, none⟩ = some (.int .i64 0) := (blk_cell BK447.out 1).trans rfl
    have hfs47 := blk_frozen BK447.out 1
    have hns47_1 := NB458_447.out; have hms47_1 := NB447_458.out
    have hs48 : w45.cell? ⟨gb447, 2, none⟩ = some (.int .i64 0) := (blk_cell BK447.out 2).trans rfl
    have hfs48 := blk_frozen BK447.out 2
    have hns48_1 := NB458_447.out; have hms48_1 := NB447_458.out
    have hs49 : w45.cell? ⟨gb447, 3, none⟩ = some (.int .i64 0) := (blk_cell BK447.out 3).trans rfl
    have hfs49 := blk_frozen BK447.out 3
    have hns49_1 := NB458_447.out; have hms49_1 := NB447_458.out
    refine skip_ (w1 := ?_) (by rfl) rfl ?_ ?_
    rotate_left
    ·go_simp
     rfl
    refine hK.out _ _ ⟨((cell_far (p := ⟨gb447, _, none⟩) NB458_447.out _).trans (((cell_far (p := ⟨gb447, _, none⟩) NB458_447.out _).trans (((cell_far (p := ⟨gb447, _, none⟩) NB458_447.out _).trans (((cell_far (p := ⟨gb447, _, none⟩) NB458_447.out _).trans (hHeld.1)))))))), ((cell_far (p := ⟨gb447, _, none⟩) NB458_447.out _).trans (((cell_far (p := ⟨gb447, _, none⟩) NB458_447.out _).trans (((cell_far (p := ⟨gb447, _, none⟩) NB458_447.out _).trans (((cell_far (p := ⟨gb447, _, none⟩) NB458_447.out _).trans (hHeld.2.1)))))))), ((cell_far (p := ⟨gb447, _, none⟩) NB458_447.out _).trans (((cell_far (p := ⟨gb447, _, none⟩) NB458_447.out _).trans (((cell_far (p := ⟨gb447, _, none⟩) NB458_447.out _).trans (((cell_far (p := ⟨gb447, _, none⟩) NB458_447.out _).trans (hHeld.2.2.1)))))))), ((cell_far (p := ⟨gb447, _, none⟩) NB458_447.out _).trans (((cell_far (p := ⟨gb447, _, none⟩) NB458_447.out _).trans (((cell_far (p := ⟨gb447, _, none⟩) NB458_447.out _).trans (((cell_far (p := ⟨gb447, _, none⟩) NB458_447.out _).trans (hHeld.2.2.2))))))))⟩ (fun hHeld => ?_)
    clear hK K
    refine done_ (done_of HT_.out (by kernel_rfl)) ?_
    try go_wp2
    refine bodyPost_ret (results_list (rs := [.tmp 2, .tmp 3, .cell 4 63]) rfl (by simp) (.tmp (.tmp (.cell gb447 63 #[.int .i64 1940, .int .i64 0, .int .i64 2000, .int .i64 (wrap64 (1 + (wrap64 (t477 * 60))))] (0, 0) _ rfl z13_10 Try.underlying63 rfl (by kernel_rfl) .nil)))) rfl ?_
    exact ⟨_, z13_9, (by (with_reducible repeat (first | apply Kd.N_alloc | apply Kd.N_drewN | apply Kd.N_drew)); exact Kd.N_mono (Kd.N_far (p := ⟨gb447, 3, none⟩) (Kd.N_far (p := ⟨gb447, 2, none⟩) (Kd.N_far (p := ⟨gb447, 1, none⟩) (Kd.N_far (p := ⟨gb447, 0, none⟩) (Kd.N_mono HO482.out (fun k_ hk => (⟨hk, hk.2.1⟩ : _ ∧ k_ ≠ gb447))) (fun _ hk => hk.2) (.int .i64 1940)) (fun _ hk => hk.2) (.int .i64 0)) (fun _ hk => hk.2) (.int .i64 2000)) (fun _ hk => hk.2) (.int .i64 (wrap64 (1 + (wrap64 (t477 * 60)))))) (fun _ hk => hk.1.1)), z13_7⟩
   ·replace c33 := Bool.eq_false_iff.mpr c33
    subst c33
    have H1 : ((spec_l10Lines.f kj7 t448 t475 t476).bind fun bt488 => ((spec_l01Once.f t448 bt488.2.1 bt488.2.2 2).bind fun bt493 => (some (bt488.1, bt493.1, x459000_7, x459001_7, x459002_7, x459003_7)))) = some (r1, r2, r3, r4, r5, r6) := by rw [if_neg (show ¬ (false = true) by decide)] at H; exact H
    clear H; have H := H1; clear H1
    replace H := Option.bind_eq_some_iff.mp H
    obtain ⟨⟨t488, t491, t492⟩, A500, H⟩ := H
    try dsimp only at H
    have A50 := Aside0.mk A500
    clear A500
    replace H := Option.bind_eq_some_iff.mp H
    obtain ⟨⟨t493, t494, t495⟩, A510, H⟩ := H
    try dsimp only at H
    have A51 := Aside0.mk A510
    clear A510
    simp only [Option.some.injEq, Prod.mk.injEq] at H
    obtain ⟨rfl, rfl, rfl, rfl, rfl, rfl⟩ := H
    try go_wp2_with (first | ((with_reducible refine gate_callee (f := 95) rfl ?_); refine goesL_ (some 33) rfl rfl Try.func95 (by kernel_rfl) rfl #[.pointer (some ⟨g451, 0, none⟩), .int .i64 40] rfl z13_2 ?_; (with_reducible refine (spec_l01Once.calls g451 t448 x452001_7 x452002_7 40 false t475 t476 w _ ?side1 ?side2 A32.out).mono ?_); (case side1 => exact z13_1); (case side2 => exact z13_3); rintro e w52 ⟨rfl, hi, hb, hk⟩; refine ⟨_, rfl, ?_⟩; have n0_ := Aside0.mk (KeepBut.blk hk (g' := gb447) (o := .cells #[.int .i64 0, .int .i64 0, .int .i64 0, .int .i64 0] 63 (0, 0)) z13_4 NB447_451.out (by simp)); have n1_ := Aside0.mk (KeepBut.blk hk (g' := gb458) (o := .cells #[.int .i64 x459000_7, .int .i64 x459001_7, .int .i64 x459002_7, .int .i64 x459003_7] 63 (0, 0)) z13_6 NB458_451.out (by simp)); have n2_ := Aside0.mk (hb); have n3_ := Aside0.mk (hi); clear BK447; clear BK458; clear HB; clear HI451; have BK447 := n0_; have BK458 := n1_; have HB := n2_; have HI451 := n3_; clear n0_ n1_ n2_ n3_; (try clear hb); (try clear hk); (try clear hi)))
    have n0_ := Aside0.mk (blk_drew BK447.out)
    have n1_ := Aside0.mk (blk_drew BK458.out)
    have n2_ := Aside0.mk (IsS152.drew HI451.out)
    have n3_ := Aside0.mk (below_drew1 HB.out)
    clear BK447; clear BK458; clear HI451; clear HB; have BK447 := n0_; have BK458 := n1_; have HI451 := n2_; have HB := n3_; clear n0_ n1_ n2_ n3_
    refine start_ (n := 8) (S := fun w' => w'.cell? ⟨gb458, 0, none⟩ = some (.int .i64 x459000_7) ∧ w'.cell? ⟨gb458, 1, none⟩ = some (.int .i64 x459001_7) ∧ w'.cell? ⟨gb458, 2, none⟩ = some (.int .i64 x459002_7) ∧ w'.cell? ⟨gb458, 3, none⟩ = some (.int .i64 x459003_7)) (ds := []) #[false, false, false, false, false, false, false, false] (by kernel_rfl) rfl rfl ⟨(blk_cell BK458.out 0).trans rfl, (blk_cell BK458.out 1).trans rfl, (blk_cell BK458.out 2).trans rfl, (blk_cell BK458.out 3).trans rfl⟩ (fun hHeld => ?_); refine with_tabW spec_DrawMaskOf.tab9 spec_DrawMaskOf.bits9 (fun HT_ HW_ => ?_)
    generalize w52.drew = w53 at BK447 BK458 HI451 HB hHeld ⊢
    refine pure_ (i := 0) (N := some 39) (v := ?_) (a' := ?_) #[true, false, false, false, false, false, false, false] rfl rfl (any_of HT_.out (by kernel_rfl)) (fun _ _ _ h => h) (Or.inl ⟨by rfl, ?_⟩) ?_ ?_; rotate_left
    ·intro w'
     go_simp; with_reducible rfl
    rotate_left
    ·exact x13_put
    refine pure_ (i := 2) (N := some 41) (v := ?_) (a' := ?_) #[true, false, true, false, false, false, false, false] rfl rfl (any_of HT_.out (by kernel_rfl)) (fun _ _ _ h => h) (Or.inl ⟨by rfl, ?_⟩) ?_ ?_; rotate_left
    ·intro w'
     go_simp; with_reducible rfl
    rotate_left
    ·exact x13_put
    refine take_ (i := 4) (N := some 43) (v := ?_) (a' := ?_) #[true, false, true, false, true, false, false, false] rfl rfl (take_ofW HT_.out HW_.out (by kernel_rfl)) (fun _ _ _ h => h) (Or.inl ⟨by rfl, ?_⟩) hHeld ?_ ?_
    rotate_left
    ·rintro w' ⟨s0, s1, s2, s3⟩
     go_simp; with_reducible rfl
    rotate_left
    ·exact x13_put
    refine one_ (i := 1) (N := some 40) #[true, true, true, false, true, false, false, false] rfl rfl (one_of HT_.out (by kernel_rfl)) (by decide) (fun K hK => ?_)
    refine goes_ Try.func97 (by kernel_rfl) rfl #[.pointer (some ⟨g451, 0, none⟩)] (by rfl) rfl rfl z13_2 ?_
    with_reducible refine (spec_l10Lines.calls kj7 g451 t448 t475 t476 t488 t491 t492 w _ ?side1 ?side2 A50.out).mono ?_
    (case side1 => exact z13_1)
    (case side2 => exact z13_3)
    rintro e w54 ⟨v489, rfl, ho0, hi, hb, hk⟩
    refine ⟨_, rfl, ?_⟩
    have n0_ := Aside0.mk (KeepBut.blk hk (g' := gb447) (o := .cells #[.int .i64 0, .int .i64 0, .int .i64 0, .int .i64 0] 63 (0, 0)) z13_4 NB447_451.out (by simp))
    have n1_ := Aside0.mk (KeepBut.blk hk (g' := gb458) (o := .cells #[.int .i64 x459000_7, .int .i64 x459001_7, .int .i64 x459002_7, .int .i64 x459003_7] 63 (0, 0)) z13_6 NB458_451.out (by simp))
    have n2_ := Aside0.mk (Kd.N_lower (Kd.N_mono (ok' := fun k_ => (w.heap.size ≤ k_) ∧ k_ ≠ gb447 ∧ k_ ≠ gb458 ∧ k_ ≠ g451) ho0 (fun k_ hk_ => ⟨(Nat.le_trans (below_size z13_7) hk_), (Kd.freshB (g := gb447) (o := .cells #[.int .i64 0, .int .i64 0, .int .i64 0, .int .i64 0] 63 (0, 0)) z13_4 k_ hk_), (Kd.freshB (g := gb458) (o := .cells #[.int .i64 x459000_7, .int .i64 x459001_7, .int .i64 x459002_7, .int .i64 x459003_7] 63 (0, 0)) z13_6 k_ hk_), (IsS152.fresh z13_11 k_ hk_)⟩)) (below_size z13_7))
    have n3_ := Aside0.mk (hb)
    have n4_ := Aside0.mk (hi)
    clear BK447; clear BK458; clear HB; clear HI451; have BK447 := n0_; have BK458 := n1_; have HO490 := n2_; have HB := n3_; have HI451 := n4_; clear n0_ n1_ n2_ n3_ n4_; (try clear hb); (try clear hb2); (try clear hk); (try clear hi); (try clear ho0)
    refine hK.out _ _ ⟨(blk_cell BK458.out 0).trans rfl, (blk_cell BK458.out 1).trans rfl, (blk_cell BK458.out 2).trans rfl, (blk_cell BK458.out 3).trans rfl⟩ (fun hHeld => ?_)
    clear hK K
    refine norm_ (a' := ?_) ?_ ?_
    rotate_left
    ·show Act.put _ (some 40) _ = _
     simp only [Act.put, List.setIfInBounds_toArray, List.set_cons_zero, List.set_cons_succ, i64_w, i32_w]
     rfl
    refine one_ (i := 3) (N := some 42) #[true, true, true, true, true, false, false, false] rfl rfl (one_of HT_.out (by kernel_rfl)) (by decide) (fun K hK => ?_)
    refine goes_ Try.func95 (by kernel_rfl) rfl #[.pointer (some ⟨g451, 0, none⟩), .int .i64 2] (by rfl) rfl rfl z13_2 ?_
    with_reducible refine (spec_l01Once.calls g451 t448 t491 t492 2 t493 t494 t495 w _ ?side1 ?side2 A51.out).mono ?_
    (case side1 => exact z13_1)
    (case side2 => exact z13_3)
    rintro e w55 ⟨rfl, hi, hb, hk⟩
    refine ⟨_, rfl, ?_⟩
    have n0_ := Aside0.mk (KeepBut.blk hk (g' := gb447) (o := .cells #[.int .i64 0, .int .i64 0, .int .i64 0, .int .i64 0] 63 (0, 0)) z13_4 NB447_451.out (by simp))
    have n1_ := Aside0.mk (KeepBut.blk hk (g' := gb458) (o := .cells #[.int .i64 x459000_7, .int .i64 x459001_7, .int .i64 x459002_7, .int .i64 x459003_7] 63 (0, 0)) z13_6 NB458_451.out (by simp))
    have n2_ := Aside0.mk (Kd.N_mono (Kd.N_keep (Kd.N_mono (ok := fun k_ => (((w.heap.size ≤ k_)) ∧ (k_ ≠ gb447 ∧ (k_ ≠ gb458 ∧ k_ ≠ g451)))) (by (with_reducible repeat (first | apply Kd.N_alloc | apply Kd.N_drewN | apply Kd.N_drew)); exact HO490.out) (fun k_ hk_ => (⟨hk_, hk_.2.2.2⟩ : _ ∧ k_ ≠ g451))) hk (fun _ h => h.2)) (fun _ h => h.1))
    have n3_ := Aside0.mk (hb)
    have n4_ := Aside0.mk (hi)
    clear BK447; clear BK458; clear HO490; clear HB; clear HI451; have BK447 := n0_; have BK458 := n1_; have HO490 := n2_; have HB := n3_; have HI451 := n4_; clear n0_ n1_ n2_ n3_ n4_; (try clear hb); (try clear hb2); (try clear hk); (try clear hi)
    refine hK.out _ _ ⟨(blk_cell BK458.out 0).trans rfl, (blk_cell BK458.out 1).trans rfl, (blk_cell BK458.out 2).trans rfl, (blk_cell BK458.out 3).trans rfl⟩ (fun hHeld => ?_)
    clear hK K
    refine norm_ (a' := ?_) ?_ ?_
    rotate_left
    ·show Act.put _ (some 42) _ = _
     simp only [Act.put, List.setIfInBounds_toArray, List.set_cons_zero, List.set_cons_succ, i64_w, i32_w]
     rfl
    refine pure_ (i := 5) (N := some 2) (v := ?_) (a' := ?_) #[true, true, true, true, true, true, false, false] rfl rfl (any_of HT_.out (by kernel_rfl)) (fun _ _ _ h => h) (Or.inl ⟨by rfl, ?_⟩) ?_ ?_; rotate_left
    ·intro w'
     go_simp; with_reducible rfl
    rotate_left
    ·exact x13_put
    refine pure_ (i := 6) (N := some 3) (v := ?_) (a' := ?_) #[true, true, true, true, true, true, true, false] rfl rfl (any_of HT_.out (by kernel_rfl)) (fun _ _ _ h => h) (Or.inl ⟨by rfl, ?_⟩) ?_ ?_; rotate_left
    ·intro w'
     go_simp; with_reducible rfl
    rotate_left
    ·exact x13_put
    refine one_ (i := 7) (N := none) #[true, true, true, true, true, true, true, true] rfl rfl (one_of HT_.out (by kernel_rfl)) (by decide) (fun K hK => ?_)
    have hs56 : w55.cell? ⟨gb447, 0, none⟩ = some (.int .i64 0) := (blk_cell BK447.out 0).trans rfl
    have hfs56 := blk_frozen BK447.out 0
    have hns56_1 := NB458_447.out; have hms56_1 := NB447_458.out
    have hs57 : w55.cell? ⟨gb447, 1, none⟩ = some (.int .i64 0) := (blk_cell BK447.out 1).trans rfl
    have hfs57 := blk_frozen BK447.out 1
    have hns57_1 := NB458_447.out; have hms57_1 := NB447_458.out
    have hs58 : w55.cell? ⟨gb447, 2, none⟩ = some (.int .i64 0) := (blk_cell BK447.out 2).trans rfl
    have hfs58 := blk_frozen BK447.out 2
    have hns58_1 := NB458_447.out; have hms58_1 := NB447_458.out
    have hs59 : w55.cell? ⟨gb447, 3, none⟩ = some (.int .i64 0) := (blk_cell BK447.out 3).trans rfl
    have hfs59 := blk_frozen BK447.out 3
    have hns59_1 := NB458_447.out; have hms59_1 := NB447_458.out
    refine skip_ (w1 := ?_) (by rfl) rfl ?_ ?_
    rotate_left
    ·go_simp
     rfl
    refine hK.out _ _ ⟨((cell_far (p := ⟨gb447, _, none⟩) NB458_447.out _).trans (((cell_far (p := ⟨gb447, _, none⟩) NB458_447.out _).trans (((cell_far (p := ⟨gb447, _, none⟩) NB458_447.out _).trans (((cell_far (p := ⟨gb447, _, none⟩) NB458_447.out _).trans (hHeld.1)))))))), ((cell_far (p := ⟨gb447, _, none⟩) NB458_447.out _).trans (((cell_far (p := ⟨gb447, _, none⟩) NB458_447.out _).trans (((cell_far (p := ⟨gb447, _, none⟩) NB458_447.out _).trans (((cell_far (p := ⟨gb447, _, none⟩) NB458_447.out _).trans (hHeld.2.1)))))))), ((cell_far (p := ⟨gb447, _, none⟩) NB458_447.out _).trans (((cell_far (p := ⟨gb447, _, none⟩) NB458_447.out _).trans (((cell_far (p := ⟨gb447, _, none⟩) NB458_447.out _).trans (((cell_far (p := ⟨gb447, _, none⟩) NB458_447.out _).trans (hHeld.2.2.1)))))))), ((cell_far (p := ⟨gb447, _, none⟩) NB458_447.out _).trans (((cell_far (p := ⟨gb447, _, none⟩) NB458_447.out _).trans (((cell_far (p := ⟨gb447, _, none⟩) NB458_447.out _).trans (((cell_far (p := ⟨gb447, _, none⟩) NB458_447.out _).trans (hHeld.2.2.2))))))))⟩ (fun hHeld => ?_)
    clear hK K
    refine done_ (done_of HT_.out (by kernel_rfl)) ?_
    try go_wp2
    refine bodyPost_ret (results_list (rs := [.tmp 2, .tmp 3, .cell 4 63]) rfl (by simp) (.tmp (.tmp (.cell gb447 63 #[.int .i64 x459000_7, .int .i64 x459001_7, .int .i64 x459002_7, .int .i64 x459003_7] (0, 0) _ rfl z13_10 Try.underlying63 rfl (by kernel_rfl) .nil)))) rfl ?_
    exact ⟨_, z13_9, (by (with_reducible repeat (first | apply Kd.N_alloc | apply Kd.N_drewN | apply Kd.N_drew)); exact Kd.N_mono (Kd.N_far (p := ⟨gb447, 3, none⟩) (Kd.N_far (p := ⟨gb447, 2, none⟩) (Kd.N_far (p := ⟨gb447, 1, none⟩) (Kd.N_far (p := ⟨gb447, 0, none⟩) (Kd.N_mono HO490.out (fun k_ hk => (⟨hk, hk.2.1⟩ : _ ∧ k_ ≠ gb447))) (fun _ hk => hk.2) (.int .i64 x459000_7)) (fun _ hk => hk.2) (.int .i64 x459001_7)) (fun _ hk => hk.2) (.int .i64 x459002_7)) (fun _ hk => hk.2) (.int .i64 x459003_7)) (fun _ hk => hk.1.1)), z13_7⟩

/-! ### impl_isSquare: function 139 -/
def impl_isSquare.f (a0 : Int) (a1 : Int) : Option (Bool) := (impl_inRange.f a0 (-2000) 2000).bind fun t496 => (if t496 = true then ((impl_inRange.f a1 (-2000) 2000).bind fun t497 => (some t497)) else (some false))
set_option maxHeartbeats 8000000 in
set_option maxRecDepth 100000 in
theorem impl_isSquare.calls (a0 : Int) (a1 : Int) (r : Bool) (w : World) (h : impl_isSquare.f a0 a1 = some r) :
  Calls Try.prog 139 #[.int .i64 a0, .int .i64 a1] w fun e w' => e = .returned (.bool r) ∧ Drawn0 w w' := by
 have H : ((impl_inRange.f a0 (-2000) 2000).bind fun t496 => (if t496 = true then ((impl_inRange.f a1 (-2000) 2000).bind fun t497 => (some t497)) else (some false))) = some r := h
 clear h
 replace H := Option.bind_eq_some_iff.mp H
 obtain ⟨t496, A30, H⟩ := H
 try dsimp only at H
 have A3 := Aside0.mk A30
 clear A30
 by_cases c4 : t496 = true
 ·subst c4
  have H1 : ((impl_inRange.f a1 (-2000) 2000).bind fun t497 => (some t497)) = some r := by rw [if_pos rfl] at H; exact H
  clear H; have H := H1; clear H1
  replace H := Option.bind_eq_some_iff.mp H
  obtain ⟨t497, A50, H⟩ := H
  try dsimp only at H
  have A5 := Aside0.mk A50
  clear A50
  obtain rfl := Option.some.inj H
  simp only [Option.some.injEq, Prod.mk.injEq] at H
  obtain ⟨rfl⟩ := H
  go_enter Try.func139, Try.ntmps139
  go_wp2_with (first | ((with_reducible refine gate_callee (f := 72) rfl ?_); refine goesL_ (some 6) rfl rfl Try.func72 (by kernel_rfl) rfl #[.int .i64 a0, .int .i64 (-2000), .int .i64 2000] rfl z13_2 ?_; (with_reducible refine (impl_inRange.calls a0 (-2000) 2000 true _ A3.out).mono ?_); rintro e w' ⟨rfl, ⟨nd, rfl⟩⟩; refine ⟨_, rfl, ?_⟩) | (go_at_call 72; (with_reducible refine (impl_inRange.calls a1 (-2000) 2000 t497 _ A5.out).mono ?_); rintro e w' ⟨rfl, ⟨nd, rfl⟩⟩))
  go_ret
  exact ⟨(by first | rfl | (simp; done) | (simp [*]; done)), (by repeat (first | exact Drawn0.refl _ | apply Drawn0.step))⟩
 ·replace c4 := Bool.eq_false_iff.mpr c4
  subst c4
  have H1 : (some false) = some r := by rw [if_neg (show ¬ (false = true) by decide)] at H; exact H
  clear H; have H := H1; clear H1
  obtain rfl := Option.some.inj H
  simp only [Option.some.injEq, Prod.mk.injEq] at H
  obtain ⟨rfl⟩ := H
  go_enter Try.func139, Try.ntmps139
  go_wp2_with (first | ((with_reducible refine gate_callee (f := 72) rfl ?_); refine goesL_ (some 6) rfl rfl Try.func72 (by kernel_rfl) rfl #[.int .i64 a0, .int .i64 (-2000), .int .i64 2000] rfl z13_2 ?_; (with_reducible refine (impl_inRange.calls a0 (-2000) 2000 false _ A3.out).mono ?_); rintro e w' ⟨rfl, ⟨nd, rfl⟩⟩; refine ⟨_, rfl, ?_⟩))
  go_ret
  exact ⟨(by first | rfl | (simp; done) | (simp [*]; done)), (by repeat (first | exact Drawn0.refl _ | apply Drawn0.step))⟩

/-! ### impl_pointsOf: function 140 -/
def impl_pointsOf.f (a0 : Int) (a1 : Int) : Option (Int × Int × Int × Int × Int × Int × Int × Int) := some (wrap64 ((wrap64 (256 * a0)) + 64), wrap64 ((wrap64 (256 * a1)) + 64), wrap64 ((wrap64 ((wrap64 (256 * a0)) + 64)) + 128), wrap64 ((wrap64 (256 * a1)) + 64), wrap64 ((wrap64 (256 * a0)) + 64), wrap64 ((wrap64 ((wrap64 (256 * a1)) + 64)) + 128), wrap64 ((wrap64 ((wrap64 (256 * a0)) + 64)) + 128), wrap64 ((wrap64 ((wrap64 (256 * a1)) + 64)) + 128))
set_option maxHeartbeats 8000000 in
set_option maxRecDepth 100000 in
theorem impl_pointsOf.calls (a0 : Int) (a1 : Int) (r1 : Int) (r2 : Int) (r3 : Int) (r4 : Int) (r5 : Int) (r6 : Int) (r7 : Int) (r8 : Int) (w : World) (h : impl_pointsOf.f a0 a1 = some (r1, r2, r3, r4, r5, r6, r7, r8)) :
  Calls Try.prog 140 #[.int .i64 a0, .int .i64 a1] w fun e w' => e = .returned (.agg #[.int .i64 r1, .int .i64 r2, .int .i64 r3, .int .i64 r4, .int .i64 r5, .int .i64 r6, .int .i64 r7, .int .i64 r8]) ∧ Below w.heap.size w w' := by
 have hu158 := Try.underlying158
 have hu52 := Try.underlying52
 have HB := Aside0.mk (Below.refl w.heap.size w)
 have H : (some (wrap64 ((wrap64 (256 * a0)) + 64), wrap64 ((wrap64 (256 * a1)) + 64), wrap64 ((wrap64 ((wrap64 (256 * a0)) + 64)) + 128), wrap64 ((wrap64 (256 * a1)) + 64), wrap64 ((wrap64 (256 * a0)) + 64), wrap64 ((wrap64 ((wrap64 (256 * a1)) + 64)) + 128), wrap64 ((wrap64 ((wrap64 (256 * a0)) + 64)) + 128), wrap64 ((wrap64 ((wrap64 (256 * a1)) + 64)) + 128))) = some (r1, r2, r3, r4, r5, r6, r7, r8) := h
 clear h
 simp only [Option.some.injEq, Prod.mk.injEq] at H
 obtain ⟨rfl, rfl, rfl, rfl, rfl, rfl, rfl, rfl⟩ := H
 go_enter Try.func140, Try.ntmps140
 go_wp2_with (first | ((with_reducible refine gate_dst (N := 4) rfl ?_); refine boxz (cs := #[.int .i64 0, .int .i64 0, .int .i64 0, .int .i64 0, .int .i64 0, .int .i64 0, .int .i64 0, .int .i64 0]) (t := 158) rfl ?_; intro gb498 hg w3 hbox hb; have n0_ := Aside0.mk (below_step z13_5 hb); have n1_ := Aside0.mk (hbox); have n2_ := Aside0.mk (ge_go (a := w.heap.size) hg (below_size z13_5)); have n3_ := Aside0.mk (ge_go (a := w.heap.size) hg (below_size z13_5)); clear HB; have HB := n0_; have BK498 := n1_; have GW498 := n2_; have GE498 := n3_; clear n0_ n1_ n2_ n3_; clear hb hbox hg; obtain ⟨_, _, _, _, _, _, _, _, _, _, _, _, _, _, _, _⟩ := be_8 BK498.out))
 refine bodyPost_ret (results_cell_row rfl _ _ gb498 158 #[.int .i64 (wrap64 ((wrap64 (256 * a0)) + 64)), .int .i64 (wrap64 ((wrap64 (256 * a1)) + 64)), .int .i64 (wrap64 ((wrap64 ((wrap64 (256 * a0)) + 64)) + 128)), .int .i64 (wrap64 ((wrap64 (256 * a1)) + 64)), .int .i64 (wrap64 ((wrap64 (256 * a0)) + 64)), .int .i64 (wrap64 ((wrap64 ((wrap64 (256 * a1)) + 64)) + 128)), .int .i64 (wrap64 ((wrap64 ((wrap64 (256 * a0)) + 64)) + 128)), .int .i64 (wrap64 ((wrap64 ((wrap64 (256 * a1)) + 64)) + 128))] (0, 0) _ rfl (by apply blk_fin; (focus ((with_reducible repeat (first | apply blk_putQ | refine blk_drewN ?_ _ | refine blk_drew ?_ | refine blk_alloc ?_ _)); exact BK498.out)); first | (simp only [List.setIfInBounds_toArray, List.set_cons_zero, List.set_cons_succ]; done) | rfl) Try.underlying158 rfl (by kernel_rfl)) rfl ?_
 exact ⟨z13_9, (by repeat (first | (with_reducible first | exact HB.out | apply below_alloc | apply pw_below_drewN | apply below_drew1 | refine below_set ?_ GE498.out) | exact HB.out))⟩

/-! ### impl_isNear: function 153 -/
def impl_isNear.f (a0_0 : Int) (a0_1 : Int) : Option (Bool) := (impl_inRange.f a0_0 (-33554432) 33554432).bind fun t500 => (if t500 = true then ((impl_inRange.f a0_1 (-33554432) 33554432).bind fun t501 => (some t501)) else (some false))
set_option maxHeartbeats 8000000 in
set_option maxRecDepth 100000 in
theorem impl_isNear.calls (a0_0 : Int) (a0_1 : Int) (r : Bool) (w : World) (h : impl_isNear.f a0_0 a0_1 = some r) :
  Calls Try.prog 153 #[.agg #[.int .i64 a0_0, .int .i64 a0_1]] w fun e w' => e = .returned (.bool r) ∧ Below w.heap.size w w' := by
 have hu52 := Try.underlying52
 have HB := Aside0.mk (Below.refl w.heap.size w)
 have H : ((impl_inRange.f a0_0 (-33554432) 33554432).bind fun t500 => (if t500 = true then ((impl_inRange.f a0_1 (-33554432) 33554432).bind fun t501 => (some t501)) else (some false))) = some r := h
 clear h
 replace H := Option.bind_eq_some_iff.mp H
 obtain ⟨t500, A20, H⟩ := H
 try dsimp only at H
 have A2 := Aside0.mk A20
 clear A20
 by_cases c3 : t500 = true
 ·subst c3
  have H1 : ((impl_inRange.f a0_1 (-33554432) 33554432).bind fun t501 => (some t501)) = some r := by rw [if_pos rfl] at H; exact H
  clear H; have H := H1; clear H1
  replace H := Option.bind_eq_some_iff.mp H
  obtain ⟨t501, A40, H⟩ := H
  try dsimp only at H
  have A4 := Aside0.mk A40
  clear A40
  obtain rfl := Option.some.inj H
  simp only [Option.some.injEq, Prod.mk.injEq] at H
  obtain ⟨rfl⟩ := H
  go_enter Try.func153, Try.ntmps153
  go_wp2_with (first | ((with_reducible refine gate_dst (N := 1) rfl ?_); refine boxz (cs := #[.int .i64 a0_0, .int .i64 a0_1]) (t := 52) rfl ?_; intro gb499 hg w5 hbox hb; have n0_ := Aside0.mk (below_step z13_5 hb); have n1_ := Aside0.mk (hbox); have n2_ := Aside0.mk (ge_go (a := w.heap.size) hg (below_size z13_5)); have n3_ := Aside0.mk (ge_go (a := w.heap.size) hg (below_size z13_5)); clear HB; have HB := n0_; have BK499 := n1_; have GW499 := n2_; have GE499 := n3_; clear n0_ n1_ n2_ n3_; clear hb hbox hg; obtain ⟨_, _, _, _⟩ := be_2 BK499.out) | ((with_reducible refine gate_callee (f := 72) rfl ?_); refine goesL_ (some 5) rfl rfl Try.func72 (by kernel_rfl) rfl #[.int .i64 a0_0, .int .i64 (-33554432), .int .i64 33554432] rfl z13_2 ?_; (with_reducible refine (impl_inRange.calls a0_0 (-33554432) 33554432 true _ A2.out).mono ?_); rintro e w' ⟨rfl, ⟨nd, rfl⟩⟩; refine ⟨_, rfl, ?_⟩) | (go_at_call 72; (with_reducible refine (impl_inRange.calls a0_1 (-33554432) 33554432 t501 _ A4.out).mono ?_); rintro e w' ⟨rfl, ⟨nd, rfl⟩⟩))
  go_ret
  exact ⟨z13_9, z13_14⟩
 ·replace c3 := Bool.eq_false_iff.mpr c3
  subst c3
  have H1 : (some false) = some r := by rw [if_neg (show ¬ (false = true) by decide)] at H; exact H
  clear H; have H := H1; clear H1
  obtain rfl := Option.some.inj H
  simp only [Option.some.injEq, Prod.mk.injEq] at H
  obtain ⟨rfl⟩ := H
  go_enter Try.func153, Try.ntmps153
  go_wp2_with (first | ((with_reducible refine gate_dst (N := 1) rfl ?_); refine boxz (cs := #[.int .i64 a0_0, .int .i64 a0_1]) (t := 52) rfl ?_; intro gb499 hg w7 hbox hb; have n0_ := Aside0.mk (below_step z13_5 hb); have n1_ := Aside0.mk (hbox); have n2_ := Aside0.mk (ge_go (a := w.heap.size) hg (below_size z13_5)); have n3_ := Aside0.mk (ge_go (a := w.heap.size) hg (below_size z13_5)); clear HB; have HB := n0_; have BK499 := n1_; have GW499 := n2_; have GE499 := n3_; clear n0_ n1_ n2_ n3_; clear hb hbox hg; obtain ⟨_, _, _, _⟩ := be_2 BK499.out) | ((with_reducible refine gate_callee (f := 72) rfl ?_); refine goesL_ (some 5) rfl rfl Try.func72 (by kernel_rfl) rfl #[.int .i64 a0_0, .int .i64 (-33554432), .int .i64 33554432] rfl z13_2 ?_; (with_reducible refine (impl_inRange.calls a0_0 (-33554432) 33554432 false _ A2.out).mono ?_); rintro e w' ⟨rfl, ⟨nd, rfl⟩⟩; refine ⟨_, rfl, ?_⟩))
  go_ret
  exact ⟨z13_9, z13_14⟩

end Go.Proofs.Ytghbenapnhcllaa.MFnMaskOf
