/- Functions of the program as Lean functions, and the proof that a call comes to just these: machine text of this session's own program (myprint.py). -/
import Derived.Test.YtghbenapnhcllaaMFnMeetsx0
import Derived.Test.YtghbenapnhcllaaMFnMeetsx15
import Derived.Test.YtghbenapnhcllaaMFnMeetsx16
import Derived.Test.YtghbenapnhcllaaMFnMeetsx17
namespace Go.Proofs.Ytghbenapnhcllaa.MFnMeets
open Go.RowKit Go.Proofs.YtghbenapnhcllaaW.PrintWords Go.Proofs.YtghbenapnhcllaaW.PrintLast Go.Proofs.YtghbenapnhcllaaW.PrintMore
attribute [local go_sem] max2_int min2_int max_two min_two max_three min_three max_four min_four   -- for this text's walks alone
set_option linter.unusedVariables false
set_option linter.unusedSimpArgs false

theorem x18_put {P : Prop} (h : P := by simp only [Act.put, List.setIfInBounds_toArray, List.set_cons_zero, List.set_cons_succ, i64_w, i32_w]; rfl) : P := h
theorem z18_1 {P : Prop} (h : P := by repeat (first | (with_reducible first | exact HB.out | apply below_alloc | apply pw_below_drewN | apply below_drew1 | refine below_set ?_ GE470.out | refine below_set ?_ GE471.out | refine below_set ?_ GE472.out | refine below_set ?_ GE479.out) | exact HB.out)) : P := h
theorem z18_2 {P : Prop} (h : P := by repeat (first | (with_reducible first | exact HB.out | apply below_alloc | apply pw_below_drewN | apply below_drew1 | refine below_set ?_ GE470.out | refine below_set ?_ GE471.out | refine below_set ?_ GE472.out) | exact HB.out)) : P := h
theorem z18_3 {P : Prop} (h : P := by (try simp only [List.map_toArray, List.map_cons, List.map_nil]); first | done | rfl | (simp only [List.length_drop, List.length_take]; rfl)) : P := h
theorem z18_4 {P : Prop} (h : P := by repeat (first | (with_reducible first | exact HB.out | apply below_alloc | apply pw_below_drewN | apply below_drew1 | refine below_set ?_ GE470.out | refine below_set ?_ GE471.out) | exact HB.out)) : P := h
theorem z18_5 {P : Prop} (h : P := by repeat (first | exact (Kd.C_below HR0_4.out HB.out) | (with_reducible refine Kd.C_alloc ?_ _) | (with_reducible refine Kd.C_drewN ?_ _) | (with_reducible refine Kd.C_drew ?_))) : P := h
theorem z18_6 {P : Prop} (h : P := by repeat (first | (with_reducible first | exact HB.out | apply below_alloc | apply pw_below_drewN | apply below_drew1 | refine below_set ?_ GE470.out) | exact HB.out)) : P := h
theorem z18_7 {P : Prop} (h : P := by repeat (first | (with_reducible first | exact HB.out | apply below_alloc | apply pw_below_drewN | apply below_drew1) | exact HB.out)) : P := h
theorem z18_8 {P : Prop} (h : P := by apply blk_fin; (focus ((with_reducible repeat (first | apply blk_putQ | refine blk_drewN ?_ _ | refine blk_drew ?_ | refine blk_alloc ?_ _)); exact BK472.out)); first | (simp only [List.setIfInBounds_toArray, List.set_cons_zero, List.set_cons_succ]; done) | rfl) : P := h
theorem z18_9 {P : Prop} (h : P := by repeat (first | exact (Kd.C_below HR1_4.out HB.out) | (with_reducible refine Kd.C_alloc ?_ _) | (with_reducible refine Kd.C_drewN ?_ _) | (with_reducible refine Kd.C_drew ?_))) : P := h
theorem z18_10 {P : Prop} (h : P := by first | exact Kd.R_nil _ _ _ _ _ | exact Kd.N_nil _ _ _ _ _ | exact Kd.V_nil _ _ _ _ _ | exact Kd.Q_nil _ _ _ _ _ | exact Kd.S_nil _ _ _ _ _) : P := h
/-! ### spec_MeetMask: function 29 -/
mutual
def spec_MeetMask.j0 : Nat → Bool → Int → Int → Int → Int → List Int → Int → Int → Int → Int → List Int → Option (Int × Int × Int × Int × List Int)
 | 0, _, _, _, _, _, _, _, _, _, _, _ => none
 | k + 1, x15, x471000, x471001, x471002, x471003, x471004, x472000, x472001, x472002, x472003, x472004 => if x15 = true then (some (0, 0, 0, 0, ([] : List Int))) else ((spec_MeetBox.f x471000 x471001 x471002 x471003 x472000 x472001 x472002 x472003).bind fun bt475 => (spec_MeetMask.l0 k bt475.2.1 x471000 x471001 x471002 x471003 x471004 x472000 x472001 x472002 x472003 x472004 bt475.1 bt475.2.1 bt475.2.2.1 bt475.2.2.2 ([] : List Int)))
def spec_MeetMask.l0 : Nat → Int → Int → Int → Int → Int → List Int → Int → Int → Int → Int → List Int → Int → Int → Int → Int → List Int → Option (Int × Int × Int × Int × List Int)
 | 0, _, _, _, _, _, _, _, _, _, _, _, _, _, _, _, _ => none
 | k + 1, x6, x471000, x471001, x471002, x471003, x471004, x472000, x472001, x472002, x472003, x472004, x480000, x480001, x480002, x480003, x480004 => if x6 < x480003 then (spec_MeetMask.l1 k x6 x480000 x471000 x471001 x471002 x471003 x471004 x472000 x472001 x472002 x472003 x472004 x480000 x480001 x480002 x480003 x480004) else (some (x480000, x480001, x480002, x480003, x480004))
def spec_MeetMask.l1 : Nat → Int → Int → Int → Int → Int → Int → List Int → Int → Int → Int → Int → List Int → Int → Int → Int → Int → List Int → Option (Int × Int × Int × Int × List Int)
 | 0, _, _, _, _, _, _, _, _, _, _, _, _, _, _, _, _, _ => none
 | k + 1, x6, x7, x471000, x471001, x471002, x471003, x471004, x472000, x472001, x472002, x472003, x472004, x480000, x480001, x480002, x480003, x480004 => if x7 < x480002 then ((spec_l11Bits.f x471000 x471001 x471002 x471003 x471004 x7 x6).bind fun t480 => ((spec_l11Bits.f x472000 x472001 x472002 x472003 x472004 x7 x6).bind fun t481 => ((spec_l11Both.f k t480 t481).bind fun t482 => (if x480004.length < 17592186044416 then (spec_MeetMask.l1 k x6 (wrap64 (x7 + 1)) x471000 x471001 x471002 x471003 x471004 x472000 x472001 x472002 x472003 x472004 x480000 x480001 x480002 x480003 (x480004 ++ [t482])) else (none))))) else (spec_MeetMask.l0 k (wrap64 (x6 + 1)) x471000 x471001 x471002 x471003 x471004 x472000 x472001 x472002 x472003 x472004 x480000 x480001 x480002 x480003 x480004)
end
def spec_MeetMask.f (k : Nat) (a0_0 : Int) (a0_1 : Int) (a0_2 : Int) (a0_3 : Int) (l0_4 : List Int) (a1_0 : Int) (a1_1 : Int) (a1_2 : Int) (a1_3 : Int) (l1_4 : List Int) : Option (Int × Int × Int × Int × List Int) := (spec_MaskOk.f k a0_0 a0_1 a0_2 a0_3 l0_4).bind fun t473 => (if t473 = true then ((spec_MaskOk.f k a1_0 a1_1 a1_2 a1_3 l1_4).bind fun t474 => (spec_MeetMask.j0 k (!t474) a0_0 a0_1 a0_2 a0_3 l0_4 a1_0 a1_1 a1_2 a1_3 l1_4)) else (spec_MeetMask.j0 k true a0_0 a0_1 a0_2 a0_3 l0_4 a1_0 a1_1 a1_2 a1_3 l1_4))
theorem spec_MeetMask.mono_l : ∀ k, (∀ y0 y1 y2 y3 y4 y5 y6 y7 y8 y9 y10, LeO (spec_MeetMask.j0 k y0 y1 y2 y3 y4 y5 y6 y7 y8 y9 y10) (spec_MeetMask.j0 (k + 1) y0 y1 y2 y3 y4 y5 y6 y7 y8 y9 y10)) ∧ (∀ y0 y1 y2 y3 y4 y5 y6 y7 y8 y9 y10 y11 y12 y13 y14 y15, LeO (spec_MeetMask.l0 k y0 y1 y2 y3 y4 y5 y6 y7 y8 y9 y10 y11 y12 y13 y14 y15) (spec_MeetMask.l0 (k + 1) y0 y1 y2 y3 y4 y5 y6 y7 y8 y9 y10 y11 y12 y13 y14 y15)) ∧ (∀ y0 y1 y2 y3 y4 y5 y6 y7 y8 y9 y10 y11 y12 y13 y14 y15 y16, LeO (spec_MeetMask.l1 k y0 y1 y2 y3 y4 y5 y6 y7 y8 y9 y10 y11 y12 y13 y14 y15 y16) (spec_MeetMask.l1 (k + 1) y0 y1 y2 y3 y4 y5 y6 y7 y8 y9 y10 y11 y12 y13 y14 y15 y16))
 | 0 => ⟨fun _ _ _ _ _ _ _ _ _ _ _ r h => by simp [spec_MeetMask.j0] at h, fun _ _ _ _ _ _ _ _ _ _ _ _ _ _ _ _ r h => by simp [spec_MeetMask.l0] at h, fun _ _ _ _ _ _ _ _ _ _ _ _ _ _ _ _ _ r h => by simp [spec_MeetMask.l1] at h⟩
 | k + 1 => by
  obtain ⟨ih0, ih1, ih2⟩ := spec_MeetMask.mono_l k
  refine ⟨?_, ?_, ?_⟩
  ·intro y0 y1 y2 y3 y4 y5 y6 y7 y8 y9 y10
   unfold spec_MeetMask.j0
   repeat' first
   | (with_reducible exact ih0 _ _ _ _ _ _ _ _ _ _ _)
   | (with_reducible exact ih1 _ _ _ _ _ _ _ _ _ _ _ _ _ _ _ _)
   | (with_reducible exact ih2 _ _ _ _ _ _ _ _ _ _ _ _ _ _ _ _ _)
   | (with_reducible exact spec_MaskOk.mono _ _ _ _ _ _)
   | (with_reducible exact spec_l11Both.mono _ _ _)
   | (with_reducible exact LeO.refl _)
   | (with_reducible exact LeO.none _)
   | (with_reducible refine LeO.ite ?_ ?_)
   | (with_reducible refine LeO.bind ?_ (fun _ => ?_))
  ·intro y0 y1 y2 y3 y4 y5 y6 y7 y8 y9 y10 y11 y12 y13 y14 y15
   unfold spec_MeetMask.l0
   repeat' first
   | (with_reducible exact ih0 _ _ _ _ _ _ _ _ _ _ _)
   | (with_reducible exact ih1 _ _ _ _ _ _ _ _ _ _ _ _ _ _ _ _)
   | (with_reducible exact ih2 _ _ _ _ _ _ _ _ _ _ _ _ _ _ _ _ _)
   | (with_reducible exact spec_MaskOk.mono _ _ _ _ _ _)
   | (with_reducible exact spec_l11Both.mono _ _ _)
   | (with_reducible exact LeO.refl _)
   | (with_reducible exact LeO.none _)
   | (with_reducible refine LeO.ite ?_ ?_)
   | (with_reducible refine LeO.bind ?_ (fun _ => ?_))
  ·intro y0 y1 y2 y3 y4 y5 y6 y7 y8 y9 y10 y11 y12 y13 y14 y15 y16
   unfold spec_MeetMask.l1
   repeat' first
   | (with_reducible exact ih0 _ _ _ _ _ _ _ _ _ _ _)
   | (with_reducible exact ih1 _ _ _ _ _ _ _ _ _ _ _ _ _ _ _ _)
   | (with_reducible exact ih2 _ _ _ _ _ _ _ _ _ _ _ _ _ _ _ _ _)
   | (with_reducible exact spec_MaskOk.mono _ _ _ _ _ _)
   | (with_reducible exact spec_l11Both.mono _ _ _)
   | (with_reducible exact LeO.refl _)
   | (with_reducible exact LeO.none _)
   | (with_reducible refine LeO.ite ?_ ?_)
   | (with_reducible refine LeO.bind ?_ (fun _ => ?_))
theorem spec_MeetMask.mono : ∀ a0 a1 a2 a3 a4 a5 a6 a7 a8 a9 k, LeO (spec_MeetMask.f k a0 a1 a2 a3 a4 a5 a6 a7 a8 a9) (spec_MeetMask.f (k + 1) a0 a1 a2 a3 a4 a5 a6 a7 a8 a9) := by
 intro a0 a1 a2 a3 a4 a5 a6 a7 a8 a9 k
 obtain ⟨ih0, ih1, ih2⟩ := spec_MeetMask.mono_l k
 unfold spec_MeetMask.f
 repeat' first
   | (with_reducible exact ih0 _ _ _ _ _ _ _ _ _ _ _)
   | (with_reducible exact ih1 _ _ _ _ _ _ _ _ _ _ _ _ _ _ _ _)
   | (with_reducible exact ih2 _ _ _ _ _ _ _ _ _ _ _ _ _ _ _ _ _)
   | (with_reducible exact spec_MaskOk.mono _ _ _ _ _ _)
   | (with_reducible exact spec_l11Both.mono _ _ _)
   | (with_reducible exact LeO.refl _)
   | (with_reducible exact LeO.none _)
   | (with_reducible refine LeO.ite ?_ ?_)
   | (with_reducible refine LeO.bind ?_ (fun _ => ?_))
def spec_MeetMask.T10 : Bool × List (List Nat × List Nat) := (true, [([], []), ([0], [0]), ([], []), ([], []), ([], []), ([2, 3, 4], [2, 3, 4]), ([], []), ([], []), ([], []), ([6, 7, 8, 5], [6, 7, 8]), ([5, 9, 9], [5, 9]), ([10], [10]), ([1, 11, 10], [1, 11]), ([0, 1, 2, 3, 4, 5, 6, 7, 8, 9, 10, 11, 12], []), ([13, 12, 12, 0, 1, 2, 3, 4, 5, 6, 7, 8, 9, 10, 11, 12], [12, 13])])
def spec_MeetMask.B10 : List Nat := [0, 1, 0, 0, 0, 28, 0, 0, 0, 508, 1020, 2044, 4095, 8191, 16383]
theorem spec_MeetMask.tab10 : rtab .any (opsOf Try.f29 10) = spec_MeetMask.T10 := by kernel_rfl
theorem spec_MeetMask.bits10 : waitsOk spec_MeetMask.T10.2 spec_MeetMask.B10 = true := by kernel_rfl
set_option maxHeartbeats 8000000 in
set_option maxRecDepth 100000 in
theorem spec_MeetMask.calls (k : Nat) (a0_0 : Int) (a0_1 : Int) (a0_2 : Int) (a0_3 : Int) (A0_4 : Option Addr) (c0_4 : Nat) (l0_4 : List Int) (a1_0 : Int) (a1_1 : Int) (a1_2 : Int) (a1_3 : Int) (A1_4 : Option Addr) (c1_4 : Nat) (l1_4 : List Int) (r1 : Int) (r2 : Int) (r3 : Int) (r4 : Int) (r5 : List Int) (w : World) (hr0_4 : Kd.C (Kd.int .i64) w A0_4 l0_4.length l0_4) (hc0_4 : l0_4.length ≤ c0_4) (hr1_4 : Kd.C (Kd.int .i64) w A1_4 l1_4.length l1_4) (hc1_4 : l1_4.length ≤ c1_4) (h : spec_MeetMask.f k a0_0 a0_1 a0_2 a0_3 l0_4 a1_0 a1_1 a1_2 a1_3 l1_4 = some (r1, r2, r3, r4, r5)) :
  Calls Try.prog 29 #[.agg #[.int .i64 a0_0, .int .i64 a0_1, .int .i64 a0_2, .int .i64 a0_3, .slice A0_4 l0_4.length c0_4], .agg #[.int .i64 a1_0, .int .i64 a1_1, .int .i64 a1_2, .int .i64 a1_3, .slice A1_4 l1_4.length c1_4]] w fun e w' => ∃ v4_ : Value, e = .returned (.agg #[.int .i64 r1, .int .i64 r2, .int .i64 r3, .int .i64 r4, v4_]) ∧ Kd.R (Kd.int .i64) 3 w' w.heap.size (fun _ => True) v4_ r5 ∧ Below w.heap.size w w' := by
 have hu65 := Try.underlying65
 have hu63 := Try.underlying63
 have HR0_4 := mk0 hr0_4
 have HC0_4 := mk0 hc0_4
 clear hr0_4 hc0_4
 have HR1_4 := mk0 hr1_4
 have HC1_4 := mk0 hc1_4
 clear hr1_4 hc1_4
 have HB := mk0 (Below.refl w.heap.size w)
 have H : ((spec_MaskOk.f k a0_0 a0_1 a0_2 a0_3 l0_4).bind fun t473 => (if t473 = true then ((spec_MaskOk.f k a1_0 a1_1 a1_2 a1_3 l1_4).bind fun t474 => (spec_MeetMask.j0 k (!t474) a0_0 a0_1 a0_2 a0_3 l0_4 a1_0 a1_1 a1_2 a1_3 l1_4)) else (spec_MeetMask.j0 k true a0_0 a0_1 a0_2 a0_3 l0_4 a1_0 a1_1 a1_2 a1_3 l1_4))) = some (r1, r2, r3, r4, r5) := h
 clear h
 have HC3 := mk0 H
 clear H
 go_enter Try.func29, Try.ntmps29
 go_upto_region 1 with (first | ((with_reducible refine gate_dst (N := 2) rfl ?_); refine boxz (cs := #[.int .i64 a0_0, .int .i64 a0_1, .int .i64 a0_2, .int .i64 a0_3, .slice A0_4 l0_4.length c0_4]) (t := 65) rfl ?_; intro gb470 hg w4 hbox hb; have n0_ := mk0 (below_step z18_7 hb); have n1_ := mk0 (hbox); have GW470 := mk0 (ge_go (a := w.heap.size) hg (below_size z18_7)); have GE470 := GW470; clear HB; have HB := n0_; have BK470 := n1_; clear n0_ n1_ ; clear hb hbox hg) | ((with_reducible refine gate_dst (N := 3) rfl ?_); refine boxz (cs := #[.int .i64 a1_0, .int .i64 a1_1, .int .i64 a1_2, .int .i64 a1_3, .slice A1_4 l1_4.length c1_4]) (t := 65) rfl ?_; intro gb471 hg w5 hbox hb; have n0_ := mk0 (blk_belowB BK470 (pkb BK470) hb); have n1_ := mk0 (below_step z18_6 hb); have n2_ := mk0 (hbox); have GW471 := mk0 (ge_go (a := w.heap.size) hg (below_size z18_6)); have GE471 := GW471; have NB470_471 := mk0 (nb_lt hg (blk_ltB BK470 (pkb BK470))); have NB471_470 := mk0 (nb_gt hg (blk_ltB BK470 (pkb BK470))); clear BK470 HB; have BK470 := n0_; have HB := n1_; have BK471 := n2_; clear n0_ n1_ n2_ ; clear hb hbox hg) | ((with_reducible refine gate_dst (N := 4) rfl ?_); refine boxz (cs := #[.int .i64 0, .int .i64 0, .int .i64 0, .int .i64 0, .slice none 0 0]) (t := 65) rfl ?_; intro gb472 hg w6 hbox hb; have n0_ := mk0 (blk_belowB BK470 (pkb BK470) hb); have n1_ := mk0 (blk_belowB BK471 (pkb BK471) hb); have n2_ := mk0 (below_step z18_4 hb); have n3_ := mk0 (hbox); have GW472 := mk0 (ge_go (a := w.heap.size) hg (below_size z18_4)); have GE472 := GW472; have NB470_472 := mk0 (nb_lt hg (blk_ltB BK470 (pkb BK470))); have NB472_470 := mk0 (nb_gt hg (blk_ltB BK470 (pkb BK470))); have NB471_472 := mk0 (nb_lt hg (blk_ltB BK471 (pkb BK471))); have NB472_471 := mk0 (nb_gt hg (blk_ltB BK471 (pkb BK471))); clear BK470 BK471 HB; have BK470 := n0_; have BK471 := n1_; have HB := n2_; have BK472 := n3_; clear n0_ n1_ n2_ n3_ ; clear hb hbox hg))
 (try simp only [Act.put, List.setIfInBounds_toArray, List.set_cons_zero, List.set_cons_succ])
 go_cut [15] (fun v15 wc => ∃ (kq : Nat) (x15_2 : Bool), v15 = .bool x15_2 ∧ Aside0 (spec_MeetMask.j0 kq x15_2 a0_0 a0_1 a0_2 a0_3 l0_4 a1_0 a1_1 a1_2 a1_3 l1_4 = some (r1, r2, r3, r4, r5)) ∧ Aside0 (kq ≤ k) ∧ Aside0 (wc.heap[gb470]? = some (.cells #[.int .i64 a0_0, .int .i64 a0_1, .int .i64 a0_2, .int .i64 a0_3, (.slice A0_4 l0_4.length c0_4)] 65 (0, 0))) ∧ Aside0 (wc.heap[gb471]? = some (.cells #[.int .i64 a1_0, .int .i64 a1_1, .int .i64 a1_2, .int .i64 a1_3, (.slice A1_4 l1_4.length c1_4)] 65 (0, 0))) ∧ Aside0 (wc.heap[gb472]? = some (.cells #[.int .i64 0, .int .i64 0, .int .i64 0, .int .i64 0, (.slice none 0 0)] 65 (0, 0))) ∧ Aside0 (Below w.heap.size w wc))
 case first =>
  have H := HC3.out; clear HC3
  replace H := Option.bind_eq_some_iff.mp H
  obtain ⟨t473, A70, H⟩ := H
  try dsimp only at H
  have A7 := mk0 A70
  clear A70
  by_cases c8 : t473 = true
  rotate_left
  ·replace c8 := Bool.eq_false_iff.mpr c8
   subst c8
   rw [if_neg (show ¬ (false = true) by decide)] at H
   have H' := mk0 H
   clear H; have hnb17 := NB470_471.out; have hnc17 := NB471_470.out; have hnb18 := NB470_472.out; have hnc18 := NB472_470.out
   obtain ⟨_, _, _, _, _, _, _, _, _, _⟩ := be_5 BK470.out
   go_wp2_with (first | ((with_reducible refine gate_callee (f := 90) rfl ?_); refine goesL_ (some 9) rfl rfl Try.func90 (by kernel_rfl) rfl #[.agg #[.int .i64 a0_0, .int .i64 a0_1, .int .i64 a0_2, .int .i64 a0_3, .slice A0_4 l0_4.length c0_4]] rfl z18_3 ?_; (with_reducible refine (spec_MaskOk.calls k a0_0 a0_1 a0_2 a0_3 _ _ l0_4 false _ ?side1 ?side2 A7.out).mono ?_); (case side1 => exact z18_5); (case side2 => exact HC0_4.out); rintro e w20 ⟨rfl, hb⟩; refine ⟨_, rfl, ?_⟩; have n0_ := mk0 (blk_belowB BK470 (pkb BK470) hb); have n1_ := mk0 (blk_belowB BK471 (pkb BK471) hb); have n2_ := mk0 (blk_belowB BK472 (pkb BK472) hb); have n3_ := mk0 (below_step z18_2 hb); clear BK470 BK471 BK472 HB; have BK470 := n0_; have BK471 := n1_; have BK472 := n2_; have HB := n3_; clear n0_ n1_ n2_ n3_; (try clear hb)))
   go_meet
   case rel => exact ⟨_, (true), rs0, H', ⟨(by first | omega | exact Nat.le_refl _)⟩, ⟨pkb BK470⟩, ⟨pkb BK471⟩, ⟨pkb BK472⟩, ⟨z18_2⟩⟩
  subst c8
  rw [if_pos rfl] at H
  replace H := Option.bind_eq_some_iff.mp H
  obtain ⟨t474, A90, H⟩ := H
  try dsimp only at H
  have A9 := mk0 A90
  clear A90
  have H' := mk0 H
  clear H; have hnb10 := NB470_471.out; have hnc10 := NB471_470.out; have hnb11 := NB470_472.out; have hnc11 := NB472_470.out
  obtain ⟨_, _, _, _, _, _, _, _, _, _⟩ := be_5 BK470.out
  go_wp2_with (first | ((with_reducible refine gate_callee (f := 90) rfl ?_); refine goesL_ (some 9) rfl rfl Try.func90 (by kernel_rfl) rfl #[.agg #[.int .i64 a0_0, .int .i64 a0_1, .int .i64 a0_2, .int .i64 a0_3, .slice A0_4 l0_4.length c0_4]] rfl z18_3 ?_; (with_reducible refine (spec_MaskOk.calls k a0_0 a0_1 a0_2 a0_3 _ _ l0_4 true _ ?side1 ?side2 A7.out).mono ?_); (case side1 => exact z18_5); (case side2 => exact HC0_4.out); rintro e w13 ⟨rfl, hb⟩; refine ⟨_, rfl, ?_⟩; have n0_ := mk0 (blk_belowB BK470 (pkb BK470) hb); have n1_ := mk0 (blk_belowB BK471 (pkb BK471) hb); have n2_ := mk0 (blk_belowB BK472 (pkb BK472) hb); have n3_ := mk0 (below_step z18_2 hb); clear BK470 BK471 BK472 HB; have BK470 := n0_; have BK471 := n1_; have BK472 := n2_; have HB := n3_; clear n0_ n1_ n2_ n3_; (try clear hb); have hnb14 := NB471_472.out; have hnc14 := NB472_471.out; obtain ⟨_, _, _, _, _, _, _, _, _, _⟩ := be_5 BK471.out) | (go_at_call 90; (with_reducible refine (spec_MaskOk.calls k a1_0 a1_1 a1_2 a1_3 _ _ l1_4 t474 _ ?side1 ?side2 A9.out).mono ?_); (case side1 => exact z18_9); (case side2 => exact HC1_4.out); rintro e w16 ⟨rfl, hb⟩; have n0_ := mk0 (blk_belowB BK470 (pkb BK470) hb); have n1_ := mk0 (blk_belowB BK471 (pkb BK471) hb); have n2_ := mk0 (blk_belowB BK472 (pkb BK472) hb); have n3_ := mk0 (below_step z18_2 hb); clear BK470 BK471 BK472 HB; have BK470 := n0_; have BK471 := n1_; have BK472 := n2_; have HB := n3_; clear n0_ n1_ n2_ n3_; (try clear hb)))
  go_meet
  case rel => exact ⟨_, (!t474), rs0, H', ⟨(by first | omega | exact Nat.le_refl _)⟩, ⟨pkb BK470⟩, ⟨pkb BK471⟩, ⟨pkb BK472⟩, ⟨z18_2⟩⟩
 case rest =>
  clear HC3; try clear c1
  try clear c2
  try clear p2
  try clear c8
  try clear c9
  try clear c10
  try clear c11
  try clear c14
  try clear c17
  try clear c18
  obtain ⟨kq, x15_2, rfl, HA, HJ2, BK470, BK471, BK472, HB⟩ := hcut
  cases kq with
  | zero => exact absurd HA.out (by simp [spec_MeetMask.j0])
  | succ kj2 =>
   have H := HA.out; clear HA
   simp only [spec_MeetMask.j0] at H
   by_cases c21 : x15_2 = true
   ·subst c21
    rw [if_pos rfl] at H
    simp only [Option.some.injEq, Prod.mk.injEq] at H
    obtain ⟨rfl, rfl, rfl, rfl, rfl⟩ := H
    have hnb22 := NB472_470.out; have hnc22 := NB470_472.out; have hnb23 := NB472_471.out; have hnc23 := NB471_472.out
    obtain ⟨_, _, _, _, _, _, _, _, _, _⟩ := be_5 BK472.out
    go_wp2
    refine bodyPost_ret (results_cell_row rfl _ _ gb472 65 #[.int .i64 0, .int .i64 0, .int .i64 0, .int .i64 0, .slice none 0 0] (0, 0) _ rfl z18_8 Try.underlying65 rfl (by kernel_rfl)) rfl ?_
    exact ⟨_, (by first | rfl | (simp [errW_none, errW_some] <;> rfl) | (simp [*, errW_none, errW_some] <;> rfl)), z18_10, z18_2⟩
   replace c21 := Bool.eq_false_iff.mpr c21
   subst c21
   rw [if_neg (show ¬ (false = true) by decide)] at H
   replace H := Option.bind_eq_some_iff.mp H
   obtain ⟨⟨t475, t476, t477, t478⟩, A250, H⟩ := H
   try dsimp only at H
   have A25 := mk0 A250
   clear A250
   have H' := mk0 H
   clear H; have hnb26 := NB470_471.out; have hnc26 := NB471_470.out; have hnb27 := NB470_472.out; have hnc27 := NB472_470.out
   obtain ⟨_, _, _, _, _, _, _, _, _, _⟩ := be_5 BK470.out
   have hnb29 := NB471_472.out; have hnc29 := NB472_471.out
   obtain ⟨_, _, _, _, _, _, _, _, _, _⟩ := be_5 BK471.out
   go_wp2_with (first | ((with_reducible refine gate_callee (f := 91) rfl ?_); refine goesL_ (some 21) rfl rfl Try.func91 (by kernel_rfl) rfl #[.agg #[.int .i64 a0_0, .int .i64 a0_1, .int .i64 a0_2, .int .i64 a0_3], .agg #[.int .i64 a1_0, .int .i64 a1_1, .int .i64 a1_2, .int .i64 a1_3]] rfl z18_3 ?_; (with_reducible refine (spec_MeetBox.calls a0_0 a0_1 a0_2 a0_3 a1_0 a1_1 a1_2 a1_3 t475 t476 t477 t478 _ A25.out).mono ?_); rintro e w31 ⟨rfl, hb⟩; refine ⟨_, rfl, ?_⟩; have n0_ := mk0 (blk_belowB BK470 (pkb BK470) hb); have n1_ := mk0 (blk_belowB BK471 (pkb BK471) hb); have n2_ := mk0 (blk_belowB BK472 (pkb BK472) hb); have n3_ := mk0 (below_step z18_2 hb); clear BK470 BK471 BK472 HB; have BK470 := n0_; have BK471 := n1_; have BK472 := n2_; have HB := n3_; clear n0_ n1_ n2_ n3_; (try clear hb)) | ((with_reducible refine gate_dst (N := 5) rfl ?_); refine boxz (cs := #[.int .i64 0, .int .i64 0, .int .i64 0, .int .i64 0, .slice none 0 0]) (t := 65) rfl ?_; intro gb479 hg w32 hbox hb; have n0_ := mk0 (blk_belowB BK470 (pkb BK470) hb); have n1_ := mk0 (blk_belowB BK471 (pkb BK471) hb); have n2_ := mk0 (blk_belowB BK472 (pkb BK472) hb); have n3_ := mk0 (below_step z18_2 hb); have n4_ := mk0 (hbox); have GW479 := mk0 (ge_go (a := w.heap.size) hg (below_size z18_2)); have GE479 := GW479; have NB470_479 := mk0 (nb_lt hg (blk_ltB BK470 (pkb BK470))); have NB479_470 := mk0 (nb_gt hg (blk_ltB BK470 (pkb BK470))); have NB471_479 := mk0 (nb_lt hg (blk_ltB BK471 (pkb BK471))); have NB479_471 := mk0 (nb_gt hg (blk_ltB BK471 (pkb BK471))); have NB472_479 := mk0 (nb_lt hg (blk_ltB BK472 (pkb BK472))); have NB479_472 := mk0 (nb_gt hg (blk_ltB BK472 (pkb BK472))); clear BK470 BK471 BK472 HB; have BK470 := n0_; have BK471 := n1_; have BK472 := n2_; have HB := n3_; have BK479 := n4_; clear n0_ n1_ n2_ n3_ n4_ ; clear hb hbox hg; have hnb33 := NB479_470.out; have hnc33 := NB470_479.out; have hnb34 := NB479_471.out; have hnc34 := NB471_479.out; have hnb35 := NB479_472.out; have hnc35 := NB472_479.out; obtain ⟨_, _, _, _, _, _, _, _, _, _⟩ := be_5 BK479.out))
   go_loopg [6] kj2 (fun kq v6 w' => ∃ (x6_2 : Int) (x480004_2 : List Int) (u480004 : Value), v6 = .int .i64 x6_2 ∧ Aside0 (spec_MeetMask.l0 kq x6_2 a0_0 a0_1 a0_2 a0_3 l0_4 a1_0 a1_1 a1_2 a1_3 l1_4 t475 t476 t477 t478 x480004_2 = some (r1, r2, r3, r4, r5)) ∧ Aside0 (kq ≤ kj2) ∧ Aside0 (Kd.R (Kd.int .i64) 3 w' w.heap.size (fun _ => True) u480004 x480004_2) ∧ Aside0 (w'.heap[gb470]? = some (.cells #[.int .i64 a0_0, .int .i64 a0_1, .int .i64 a0_2, .int .i64 a0_3, (.slice A0_4 l0_4.length c0_4)] 65 (0, 0))) ∧ Aside0 (w'.heap[gb471]? = some (.cells #[.int .i64 a1_0, .int .i64 a1_1, .int .i64 a1_2, .int .i64 a1_3, (.slice A1_4 l1_4.length c1_4)] 65 (0, 0))) ∧ Aside0 (w'.heap[gb472]? = some (.cells #[.int .i64 0, .int .i64 0, .int .i64 0, .int .i64 0, (.slice none 0 0)] 65 (0, 0))) ∧ Aside0 (w'.heap[gb479]? = some (.cells #[.int .i64 t475, .int .i64 t476, .int .i64 t477, .int .i64 t478, u480004] 65 (0, 0))) ∧ Aside0 (Below w.heap.size w w'))
   case atStart => exact ⟨(t476), (([] : List Int)), (.slice none 0 0), rs0, H', ⟨Nat.le_refl _⟩, ⟨z18_10⟩, ⟨(by (with_reducible repeat (first | refine blk_drewN ?_ _ | refine blk_drew ?_ | refine blk_alloc ?_ _)); refine blk_far ?_ NB470_479.out _; (with_reducible repeat (first | refine blk_drewN ?_ _ | refine blk_drew ?_ | refine blk_alloc ?_ _)); refine blk_far ?_ NB470_479.out _; (with_reducible repeat (first | refine blk_drewN ?_ _ | refine blk_drew ?_ | refine blk_alloc ?_ _)); refine blk_far ?_ NB470_479.out _; (with_reducible repeat (first | refine blk_drewN ?_ _ | refine blk_drew ?_ | refine blk_alloc ?_ _)); refine blk_far ?_ NB470_479.out _; (with_reducible repeat (first | refine blk_drewN ?_ _ | refine blk_drew ?_ | refine blk_alloc ?_ _)); refine blk_far ?_ NB470_479.out _; (with_reducible repeat (first | refine blk_drewN ?_ _ | refine blk_drew ?_ | refine blk_alloc ?_ _)); exact BK470.out)⟩, ⟨(by (with_reducible repeat (first | refine blk_drewN ?_ _ | refine blk_drew ?_ | refine blk_alloc ?_ _)); refine blk_far ?_ NB471_479.out _; (with_reducible repeat (first | refine blk_drewN ?_ _ | refine blk_drew ?_ | refine blk_alloc ?_ _)); refine blk_far ?_ NB471_479.out _; (with_reducible repeat (first | refine blk_drewN ?_ _ | refine blk_drew ?_ | refine blk_alloc ?_ _)); refine blk_far ?_ NB471_479.out _; (with_reducible repeat (first | refine blk_drewN ?_ _ | refine blk_drew ?_ | refine blk_alloc ?_ _)); refine blk_far ?_ NB471_479.out _; (with_reducible repeat (first | refine blk_drewN ?_ _ | refine blk_drew ?_ | refine blk_alloc ?_ _)); refine blk_far ?_ NB471_479.out _; (with_reducible repeat (first | refine blk_drewN ?_ _ | refine blk_drew ?_ | refine blk_alloc ?_ _)); exact BK471.out)⟩, ⟨(by (with_reducible repeat (first | refine blk_drewN ?_ _ | refine blk_drew ?_ | refine blk_alloc ?_ _)); refine blk_far ?_ NB472_479.out _; (with_reducible repeat (first | refine blk_drewN ?_ _ | refine blk_drew ?_ | refine blk_alloc ?_ _)); refine blk_far ?_ NB472_479.out _; (with_reducible repeat (first | refine blk_drewN ?_ _ | refine blk_drew ?_ | refine blk_alloc ?_ _)); refine blk_far ?_ NB472_479.out _; (with_reducible repeat (first | refine blk_drewN ?_ _ | refine blk_drew ?_ | refine blk_alloc ?_ _)); refine blk_far ?_ NB472_479.out _; (with_reducible repeat (first | refine blk_drewN ?_ _ | refine blk_drew ?_ | refine blk_alloc ?_ _)); refine blk_far ?_ NB472_479.out _; (with_reducible repeat (first | refine blk_drewN ?_ _ | refine blk_drew ?_ | refine blk_alloc ?_ _)); exact BK472.out)⟩, ⟨(by (with_reducible repeat (first | refine blk_drewN ?_ _ | refine blk_drew ?_ | refine blk_alloc ?_ _)); refine blk_put (cs := #[.int .i64 t475, .int .i64 t476, .int .i64 t477, .int .i64 t478, .slice none 0 0]) ?_ 4 _ rfl; (with_reducible repeat (first | refine blk_drewN ?_ _ | refine blk_drew ?_ | refine blk_alloc ?_ _)); refine blk_put (cs := #[.int .i64 t475, .int .i64 t476, .int .i64 t477, .int .i64 0, .slice none 0 0]) ?_ 3 _ rfl; (with_reducible repeat (first | refine blk_drewN ?_ _ | refine blk_drew ?_ | refine blk_alloc ?_ _)); refine blk_put (cs := #[.int .i64 t475, .int .i64 t476, .int .i64 0, .int .i64 0, .slice none 0 0]) ?_ 2 _ rfl; (with_reducible repeat (first | refine blk_drewN ?_ _ | refine blk_drew ?_ | refine blk_alloc ?_ _)); refine blk_put (cs := #[.int .i64 t475, .int .i64 0, .int .i64 0, .int .i64 0, .slice none 0 0]) ?_ 1 _ rfl; (with_reducible repeat (first | refine blk_drewN ?_ _ | refine blk_drew ?_ | refine blk_alloc ?_ _)); refine blk_put (cs := #[.int .i64 0, .int .i64 0, .int .i64 0, .int .i64 0, .slice none 0 0]) ?_ 0 _ rfl; (with_reducible repeat (first | refine blk_drewN ?_ _ | refine blk_drew ?_ | refine blk_alloc ?_ _)); exact BK479.out)⟩, ⟨z18_1⟩⟩
   case round =>
    clear H'
    try clear c1
    try clear c2
    try clear p2
    try clear c3
    try clear c8
    try clear c9
    try clear c10
    try clear c11
    try clear c14
    try clear c17
    try clear c18
    try clear c21
    try clear c22
    try clear c23
    try clear c26
    try clear c27
    try clear c29
    try clear c33
    try clear c34
    try clear c35
    try clear p2
    obtain ⟨x6_2, x480004_2, u480004, rfl, HA, HK2, HO_480004, BK470, BK471, BK472, BK479, HB⟩ := hrel
    cases gk with
    | zero => exact absurd HA.out (by simp [spec_MeetMask.l0])
    | succ k2 =>
     have H := HA.out; clear HA
     simp only [spec_MeetMask.l0] at H
     by_cases c37 : x6_2 < t478
     rotate_left
     ·rw [if_neg c37] at H
      have c37b0 := decide_eq_false c37
      clear c37
      simp only [Option.some.injEq, Prod.mk.injEq] at H
      obtain ⟨rfl, rfl, rfl, rfl, rfl⟩ := H
      have hnb61 := NB479_470.out; have hnc61 := NB470_479.out; have hnb62 := NB479_471.out; have hnc62 := NB471_479.out; have hnb63 := NB479_472.out; have hnc63 := NB472_479.out
      obtain ⟨_, _, _, _, _, _, _, _, _, _⟩ := be_5 BK479.out
      have hnb65 := NB472_470.out; have hnc65 := NB470_472.out; have hnb66 := NB472_471.out; have hnc66 := NB471_472.out
      obtain ⟨_, _, _, _, _, _, _, _, _, _⟩ := be_5 BK472.out
      obtain ⟨Ao68, co68, eo68⟩ := Kd.R_slice HO_480004.out
      subst eo68
      go_wp2
      refine bodyPost_ret (results_cell_row rfl _ _ gb472 65 #[.int .i64 t475, .int .i64 t476, .int .i64 t477, .int .i64 t478, .slice Ao68 x480004_2.length co68] (0, 0) _ rfl z18_8 Try.underlying65 rfl (by kernel_rfl)) rfl ?_
      exact ⟨_, (by first | rfl | (simp [errW_none, errW_some] <;> rfl) | (simp [*, errW_none, errW_some] <;> rfl)), (by (with_reducible repeat (first | apply Kd.R_alloc | apply Kd.R_drewN | apply Kd.R_drew)); exact Kd.R_mono (Kd.R_far (p := ⟨gb472, 4, none⟩) (Kd.R_far (p := ⟨gb472, 3, none⟩) (Kd.R_far (p := ⟨gb472, 2, none⟩) (Kd.R_far (p := ⟨gb472, 1, none⟩) (Kd.R_far (p := ⟨gb472, 0, none⟩) (Kd.R_types HO_480004.out BK472.out (by decide)) (fun _ hk => hk.2) (.int .i64 t475)) (fun _ hk => hk.2) (.int .i64 t476)) (fun _ hk => hk.2) (.int .i64 t477)) (fun _ hk => hk.2) (.int .i64 t478)) (fun _ hk => hk.2) (.slice Ao68 x480004_2.length co68)) (fun _ hk => trivial)), z18_1⟩
     rw [if_pos c37] at H
     have c37b0 := decide_eq_true c37
     clear c37
     have H' := mk0 H
     clear H; have hnb38 := NB479_470.out; have hnc38 := NB470_479.out; have hnb39 := NB479_471.out; have hnc39 := NB471_479.out; have hnb40 := NB479_472.out; have hnc40 := NB472_479.out
     obtain ⟨_, _, _, _, _, _, _, _, _, _⟩ := be_5 BK479.out
     go_wp2
     go_loopg [7] k2 (fun kq v7 w' => ∃ (x7_3 : Int) (x480004_3 : List Int) (u480004 : Value), v7 = .int .i64 x7_3 ∧ Aside0 (spec_MeetMask.l1 kq x6_2 x7_3 a0_0 a0_1 a0_2 a0_3 l0_4 a1_0 a1_1 a1_2 a1_3 l1_4 t475 t476 t477 t478 x480004_3 = some (r1, r2, r3, r4, r5)) ∧ Aside0 (kq ≤ k2) ∧ Aside0 (Kd.R (Kd.int .i64) 3 w' w.heap.size (fun _ => True) u480004 x480004_3) ∧ Aside0 (w'.heap[gb470]? = some (.cells #[.int .i64 a0_0, .int .i64 a0_1, .int .i64 a0_2, .int .i64 a0_3, (.slice A0_4 l0_4.length c0_4)] 65 (0, 0))) ∧ Aside0 (w'.heap[gb471]? = some (.cells #[.int .i64 a1_0, .int .i64 a1_1, .int .i64 a1_2, .int .i64 a1_3, (.slice A1_4 l1_4.length c1_4)] 65 (0, 0))) ∧ Aside0 (w'.heap[gb472]? = some (.cells #[.int .i64 0, .int .i64 0, .int .i64 0, .int .i64 0, (.slice none 0 0)] 65 (0, 0))) ∧ Aside0 (w'.heap[gb479]? = some (.cells #[.int .i64 t475, .int .i64 t476, .int .i64 t477, .int .i64 t478, u480004] 65 (0, 0))) ∧ Aside0 (Below w.heap.size w w'))
     case atStart => exact ⟨(t475), (x480004_2), (u480004), rs0, H', ⟨Nat.le_refl _⟩, ⟨pkR HO_480004⟩, ⟨pkb BK470⟩, ⟨pkb BK471⟩, ⟨pkb BK472⟩, ⟨pkb BK479⟩, ⟨z18_1⟩⟩
     case round =>
      clear H'
      try clear c1
      try clear c2
      try clear p2
      try clear c3
      try clear c4
      try clear c8
      try clear c9
      try clear c10
      try clear c11
      try clear c14
      try clear c17
      try clear c18
      try clear c21
      try clear c22
      try clear c23
      try clear c26
      try clear c27
      try clear c29
      try clear c33
      try clear c34
      try clear c35
      try clear c37
      try clear c37b0
      try clear c38
      try clear c39
      try clear c40
      try clear p2
      obtain ⟨x7_3, x480004_3, u480004, rfl, HA, HK3, HO_480004, BK470, BK471, BK472, BK479, HB⟩ := hrel
      cases gk with
      | zero => exact absurd HA.out (by simp [spec_MeetMask.l1])
      | succ k3 =>
       have H := HA.out; clear HA
       simp only [spec_MeetMask.l1] at H
       by_cases c42 : x7_3 < t477
       rotate_left
       ·rw [if_neg c42] at H
        have c42b0 := decide_eq_false c42
        clear c42
        have H' := mk0 H
        clear H; have hnb57 := NB479_470.out; have hnc57 := NB470_479.out; have hnb58 := NB479_471.out; have hnc58 := NB471_479.out; have hnb59 := NB479_472.out; have hnc59 := NB472_479.out
        obtain ⟨_, _, _, _, _, _, _, _, _, _⟩ := be_5 BK479.out
        go_wp2
        go_roundg k3
        case measure => have := HJ2.out; have := HK2.out; have := HK3.out; omega
        case rel => exact ⟨(wrap64 (x6_2 + 1)), (x480004_3), (u480004), rs0, H', ⟨(by have := HJ2.out; have := HK2.out; have := HK3.out; omega)⟩, ⟨pkR HO_480004⟩, ⟨pkb BK470⟩, ⟨pkb BK471⟩, ⟨pkb BK472⟩, ⟨pkb BK479⟩, ⟨z18_1⟩⟩
       rw [if_pos c42] at H
       have c42b0 := decide_eq_true c42
       clear c42
       replace H := Option.bind_eq_some_iff.mp H
       obtain ⟨t480, A430, H⟩ := H
       try dsimp only at H
       have A43 := mk0 A430
       clear A430
       replace H := Option.bind_eq_some_iff.mp H
       obtain ⟨t481, A440, H⟩ := H
       try dsimp only at H
       have A44 := mk0 A440
       clear A440
       replace H := Option.bind_eq_some_iff.mp H
       obtain ⟨t482, A450, H⟩ := H
       try dsimp only at H
       have A45 := mk0 A450
       clear A450
       by_cases c46 : x480004_3.length < 17592186044416
       rotate_left
       ·rw [if_neg c46] at H
        exact absurd H (by simp)
       rw [if_pos c46] at H
       have LMc46 := mk0 c46
       clear c46
       obtain ⟨y483, hy_⟩ : ∃ y_ : List Int, y_ = (x480004_3 ++ [t482]) := ⟨_, rfl⟩
       replace H : (spec_MeetMask.l1 k3 x6_2 (wrap64 (x7_3 + 1)) a0_0 a0_1 a0_2 a0_3 l0_4 a1_0 a1_1 a1_2 a1_3 l1_4 t475 t476 t477 t478 y483) = some (r1, r2, r3, r4, r5) := (by first | (rw [hy_]; with_reducible exact H) | (have H2_ := (Option.bind_some _ _).symm.trans H; rw [hy_]; with_reducible exact H2_) | (have H2_ := (Option.bind_some _ _).symm.trans H; with_reducible exact H2_) | with_reducible exact H | (rw [hy_]; exact H) | exact H)
       have Ny483 := mk0 hy_
       clear hy_
       have H' := mk0 H
       clear H; have hnb47 := NB479_470.out; have hnc47 := NB470_479.out; have hnb48 := NB479_471.out; have hnc48 := NB471_479.out; have hnb49 := NB479_472.out; have hnc49 := NB472_479.out
       obtain ⟨_, _, _, _, _, _, _, _, _, _⟩ := be_5 BK479.out
       try go_wp2
       have n0_ := mk0 (Kd.R_drew HO_480004.out)
       have n1_ := mk0 (blk_drew BK470.out)
       have n2_ := mk0 (blk_drew BK471.out)
       have n3_ := mk0 (blk_drew BK472.out)
       have n4_ := mk0 (blk_drew BK479.out)
       have n5_ := mk0 (below_drew1 HB.out)
       clear HO_480004 BK470 BK471 BK472 BK479 HB; have HO_480004 := n0_; have BK470 := n1_; have BK471 := n2_; have BK472 := n3_; have BK479 := n4_; have HB := n5_; clear n0_ n1_ n2_ n3_ n4_ n5_
       refine start_ (n := 15) (S := fun w' => w'.cell? ⟨gb479, 0, none⟩ = some (.int .i64 t475) ∧ w'.cell? ⟨gb479, 1, none⟩ = some (.int .i64 t476) ∧ w'.cell? ⟨gb479, 2, none⟩ = some (.int .i64 t477) ∧ w'.cell? ⟨gb479, 3, none⟩ = some (.int .i64 t478) ∧ w'.cell? ⟨gb479, 4, none⟩ = some (u480004) ∧ w'.cell? ⟨gb470, 0, none⟩ = some (.int .i64 a0_0) ∧ w'.cell? ⟨gb470, 1, none⟩ = some (.int .i64 a0_1) ∧ w'.cell? ⟨gb470, 2, none⟩ = some (.int .i64 a0_2) ∧ w'.cell? ⟨gb470, 3, none⟩ = some (.int .i64 a0_3) ∧ w'.cell? ⟨gb470, 4, none⟩ = some (.slice A0_4 l0_4.length c0_4) ∧ w'.cell? ⟨gb471, 0, none⟩ = some (.int .i64 a1_0) ∧ w'.cell? ⟨gb471, 1, none⟩ = some (.int .i64 a1_1) ∧ w'.cell? ⟨gb471, 2, none⟩ = some (.int .i64 a1_2) ∧ w'.cell? ⟨gb471, 3, none⟩ = some (.int .i64 a1_3) ∧ w'.cell? ⟨gb471, 4, none⟩ = some (.slice A1_4 l1_4.length c1_4)) (ds := [14]) #[false, false, false, false, false, false, false, false, false, false, false, false, false, false, false] (by kernel_rfl) rfl rfl ⟨(blk_cell BK479.out 0).trans rfl, (blk_cell BK479.out 1).trans rfl, (blk_cell BK479.out 2).trans rfl, (blk_cell BK479.out 3).trans rfl, (blk_cell BK479.out 4).trans rfl, (blk_cell BK470.out 0).trans rfl, (blk_cell BK470.out 1).trans rfl, (blk_cell BK470.out 2).trans rfl, (blk_cell BK470.out 3).trans rfl, (blk_cell BK470.out 4).trans rfl, (blk_cell BK471.out 0).trans rfl, (blk_cell BK471.out 1).trans rfl, (blk_cell BK471.out 2).trans rfl, (blk_cell BK471.out 3).trans rfl, (blk_cell BK471.out 4).trans rfl⟩ (fun hHeld => ?_); refine with_tabW spec_MeetMask.tab10 spec_MeetMask.bits10 (fun HT_ HW_ => ?_)
       generalize wr.drew = w51 at HO_480004 BK470 BK471 BK472 BK479 HB hHeld ⊢
       refine pzv (i := 0) (N := 43) (v := ?_) (a' := ?_) (bA 15 1) HT_ ?_ ?_ ?_
       rotate_left
       ·intro w'
        go_simp; with_reducible rfl
       rotate_left
       ·exact x18_put
       refine pzv (i := 3) (N := 46) (v := ?_) (a' := ?_) (bA 15 9) HT_ ?_ ?_ ?_
       rotate_left
       ·intro w'
        go_simp; with_reducible rfl
       rotate_left
       ·exact x18_put
       refine pzv (i := 4) (N := 47) (v := ?_) (a' := ?_) (bA 15 25) HT_ ?_ ?_ ?_
       rotate_left
       ·intro w'
        go_simp; with_reducible rfl
       rotate_left
       ·exact x18_put
       refine pzv (i := 7) (N := 50) (v := ?_) (a' := ?_) (bA 15 153) HT_ ?_ ?_ ?_
       rotate_left
       ·intro w'
        go_simp; with_reducible rfl
       rotate_left
       ·exact x18_put
       refine pzv (i := 8) (N := 51) (v := ?_) (a' := ?_) (bA 15 409) HT_ ?_ ?_ ?_
       rotate_left
       ·intro w'
        go_simp; with_reducible rfl
       rotate_left
       ·exact x18_put
       refine take_ (i := 1) (N := some 44) (v := ?_) (a' := ?_) (bA 15 411) rfl rfl (take_ofW HT_.out HW_.out (by kernel_rfl)) (fun _ _ _ h => h) (Or.inl ⟨by rfl, ?_⟩) hHeld ?_ ?_
       rotate_left
       ·rintro w' ⟨s0, s1, s2, s3, s4, s5, s6, s7, s8, s9, s10, s11, s12, s13, s14⟩
        go_simp; with_reducible rfl
       rotate_left
       ·exact x18_put
       refine take_ (i := 2) (N := some 45) (v := ?_) (a' := ?_) (bA 15 415) rfl rfl (take_ofW HT_.out HW_.out (by kernel_rfl)) (fun _ _ _ h => h) (Or.inl ⟨by rfl, ?_⟩) hHeld ?_ ?_
       rotate_left
       ·rintro w' ⟨s0, s1, s2, s3, s4, s5, s6, s7, s8, s9, s10, s11, s12, s13, s14⟩
        go_simp; with_reducible rfl
       rotate_left
       ·exact x18_put
       refine take_ (i := 6) (N := some 49) (v := ?_) (a' := ?_) (bA 15 479) rfl rfl (take_ofW HT_.out HW_.out (by kernel_rfl)) (fun _ _ _ h => h) (Or.inl ⟨by rfl, ?_⟩) hHeld ?_ ?_
       rotate_left
       ·rintro w' ⟨s0, s1, s2, s3, s4, s5, s6, s7, s8, s9, s10, s11, s12, s13, s14⟩
        go_simp; with_reducible rfl
       rotate_left
       ·exact x18_put
       refine one_ (i := 5) (N := some 48) (bA 15 511) rfl rfl (one_of HT_.out (by kernel_rfl)) (by decide) (fun K hK => ?_)
       refine goes_ Try.func93 (by kernel_rfl) rfl #[.agg #[.int .i64 a0_0, .int .i64 a0_1, .int .i64 a0_2, .int .i64 a0_3, .slice A0_4 l0_4.length c0_4], .int .i64 x7_3, .int .i64 x6_2] (by rfl) rfl rfl z18_3 ?_
       with_reducible refine (spec_l11Bits.calls a0_0 a0_1 a0_2 a0_3 _ _ l0_4 x7_3 x6_2 t480 _ ?side1 ?side2 A43.out).mono ?_
       (case side1 => exact z18_5)
       (case side2 => exact HC0_4.out)
       rintro e w52 ⟨rfl, hb⟩
       refine ⟨_, rfl, ?_⟩
       have n0_ := mk0 (Kd.R_below (pkR HO_480004) hb)
       have n1_ := mk0 (blk_belowB BK470 (pkb BK470) hb)
       have n2_ := mk0 (blk_belowB BK471 (pkb BK471) hb)
       have n3_ := mk0 (blk_belowB BK472 (pkb BK472) hb)
       have n4_ := mk0 (blk_belowB BK479 (pkb BK479) hb)
       have n5_ := mk0 (below_step z18_1 hb)
       clear HO_480004 BK470 BK471 BK472 BK479 HB; have HO_480004 := n0_; have BK470 := n1_; have BK471 := n2_; have BK472 := n3_; have BK479 := n4_; have HB := n5_; clear n0_ n1_ n2_ n3_ n4_ n5_; (try clear hb); (try clear hb2); (try clear hk); (try clear hi)
       refine hK.out _ _ ⟨(blk_cell BK479.out 0).trans rfl, (blk_cell BK479.out 1).trans rfl, (blk_cell BK479.out 2).trans rfl, (blk_cell BK479.out 3).trans rfl, (blk_cell BK479.out 4).trans rfl, (blk_cell BK470.out 0).trans rfl, (blk_cell BK470.out 1).trans rfl, (blk_cell BK470.out 2).trans rfl, (blk_cell BK470.out 3).trans rfl, (blk_cell BK470.out 4).trans rfl, (blk_cell BK471.out 0).trans rfl, (blk_cell BK471.out 1).trans rfl, (blk_cell BK471.out 2).trans rfl, (blk_cell BK471.out 3).trans rfl, (blk_cell BK471.out 4).trans rfl⟩ (fun hHeld => ?_)
       clear hK K
       refine norm_ (a' := ?_) ?_ ?_
       rotate_left
       ·show Act.put _ (some 48) _ = _
        simp only [Act.put, List.setIfInBounds_toArray, List.set_cons_zero, List.set_cons_succ, i64_w, i32_w]
        rfl
       refine one_ (i := 9) (N := some 52) (bA 15 1023) rfl rfl (one_of HT_.out (by kernel_rfl)) (by decide) (fun K hK => ?_)
       refine goes_ Try.func93 (by kernel_rfl) rfl #[.agg #[.int .i64 a1_0, .int .i64 a1_1, .int .i64 a1_2, .int .i64 a1_3, .slice A1_4 l1_4.length c1_4], .int .i64 x7_3, .int .i64 x6_2] (by rfl) rfl rfl z18_3 ?_
       with_reducible refine (spec_l11Bits.calls a1_0 a1_1 a1_2 a1_3 _ _ l1_4 x7_3 x6_2 t481 _ ?side1 ?side2 A44.out).mono ?_
       (case side1 => exact z18_9)
       (case side2 => exact HC1_4.out)
       rintro e w53 ⟨rfl, hb⟩
       refine ⟨_, rfl, ?_⟩
       have n0_ := mk0 (Kd.R_below (pkR HO_480004) hb)
       have n1_ := mk0 (blk_belowB BK470 (pkb BK470) hb)
       have n2_ := mk0 (blk_belowB BK471 (pkb BK471) hb)
       have n3_ := mk0 (blk_belowB BK472 (pkb BK472) hb)
       have n4_ := mk0 (blk_belowB BK479 (pkb BK479) hb)
       have n5_ := mk0 (below_step z18_1 hb)
       clear HO_480004 BK470 BK471 BK472 BK479 HB; have HO_480004 := n0_; have BK470 := n1_; have BK471 := n2_; have BK472 := n3_; have BK479 := n4_; have HB := n5_; clear n0_ n1_ n2_ n3_ n4_ n5_; (try clear hb); (try clear hb2); (try clear hk); (try clear hi)
       refine hK.out _ _ ⟨(blk_cell BK479.out 0).trans rfl, (blk_cell BK479.out 1).trans rfl, (blk_cell BK479.out 2).trans rfl, (blk_cell BK479.out 3).trans rfl, (blk_cell BK479.out 4).trans rfl, (blk_cell BK470.out 0).trans rfl, (blk_cell BK470.out 1).trans rfl, (blk_cell BK470.out 2).trans rfl, (blk_cell BK470.out 3).trans rfl, (blk_cell BK470.out 4).trans rfl, (blk_cell BK471.out 0).trans rfl, (blk_cell BK471.out 1).trans rfl, (blk_cell BK471.out 2).trans rfl, (blk_cell BK471.out 3).trans rfl, (blk_cell BK471.out 4).trans rfl⟩ (fun hHeld => ?_)
       clear hK K
       refine norm_ (a' := ?_) ?_ ?_
       rotate_left
       ·show Act.put _ (some 52) _ = _
        simp only [Act.put, List.setIfInBounds_toArray, List.set_cons_zero, List.set_cons_succ, i64_w, i32_w]
        rfl
       refine one_ (i := 10) (N := some 53) (bA 15 2047) rfl rfl (one_of HT_.out (by kernel_rfl)) (by decide) (fun K hK => ?_)
       refine goes_ Try.func92 (by kernel_rfl) rfl #[.int .i64 t480, .int .i64 t481] (by rfl) rfl rfl z18_3 ?_
       with_reducible refine (spec_l11Both.calls k3 t480 t481 t482 _ A45.out).mono ?_
       rintro e w' ⟨rfl, ⟨nd, rfl⟩⟩
       refine ⟨_, rfl, ?_⟩
       refine hK.out _ _ ⟨(blk_cell BK479.out 0).trans rfl, (blk_cell BK479.out 1).trans rfl, (blk_cell BK479.out 2).trans rfl, (blk_cell BK479.out 3).trans rfl, (blk_cell BK479.out 4).trans rfl, (blk_cell BK470.out 0).trans rfl, (blk_cell BK470.out 1).trans rfl, (blk_cell BK470.out 2).trans rfl, (blk_cell BK470.out 3).trans rfl, (blk_cell BK470.out 4).trans rfl, (blk_cell BK471.out 0).trans rfl, (blk_cell BK471.out 1).trans rfl, (blk_cell BK471.out 2).trans rfl, (blk_cell BK471.out 3).trans rfl, (blk_cell BK471.out 4).trans rfl⟩ (fun hHeld => ?_)
       clear hK K
       refine norm_ (a' := ?_) ?_ ?_
       rotate_left
       ·show Act.put _ (some 53) _ = _
        simp only [Act.put, List.setIfInBounds_toArray, List.set_cons_zero, List.set_cons_succ, i64_w, i32_w]
        rfl
       refine one_ (i := 11) (N := some 54) (bA 15 4095) rfl rfl (one_of HT_.out (by kernel_rfl)) (by decide) (fun K hK => ?_)
       refine value_ (w1 := ?_) (v := ?_) (by rfl) rfl ?_ ?_
       rotate_left 2
       ·go_simp
        constructor
        ·rfl
        rfl
       refine hK.out _ _ ⟨(blk_cell (blk_alloc BK479.out _) 0).trans rfl, (blk_cell (blk_alloc BK479.out _) 1).trans rfl, (blk_cell (blk_alloc BK479.out _) 2).trans rfl, (blk_cell (blk_alloc BK479.out _) 3).trans rfl, (blk_cell (blk_alloc BK479.out _) 4).trans rfl, (blk_cell (blk_alloc BK470.out _) 0).trans rfl, (blk_cell (blk_alloc BK470.out _) 1).trans rfl, (blk_cell (blk_alloc BK470.out _) 2).trans rfl, (blk_cell (blk_alloc BK470.out _) 3).trans rfl, (blk_cell (blk_alloc BK470.out _) 4).trans rfl, (blk_cell (blk_alloc BK471.out _) 0).trans rfl, (blk_cell (blk_alloc BK471.out _) 1).trans rfl, (blk_cell (blk_alloc BK471.out _) 2).trans rfl, (blk_cell (blk_alloc BK471.out _) 3).trans rfl, (blk_cell (blk_alloc BK471.out _) 4).trans rfl⟩ (fun hHeld => ?_)
       clear hK K
       refine norm_ (a' := ?_) ?_ ?_
       rotate_left
       ·show Act.put _ (some 54) _ = _
        simp only [Act.put, List.setIfInBounds_toArray, List.set_cons_zero, List.set_cons_succ, i64_w, i32_w]
        rfl
       refine one_ (i := 12) (N := some 55) (bA 15 8191) rfl rfl (one_of HT_.out (by kernel_rfl)) (by decide) (fun K hK => ?_)
       refine Kd.R_append_step (Kd.int .i64) (w0 := w) w.heap.size (by rfl) (.tmp 44) (.tmp 54) 22 3 (.int .i64 0) 8 rfl Try.underlying22 info3 rfl (by decide) (by omega) u480004 x480004_3 t482 [.int .i64 t482] (fun _ => True) (fun _ => False) rfl rfl ?aP (fun _ hk => hk.elim) ?aF ?aO ?aB ?aS ?aL ?_
       (case aP => exact rfl)
       (case aB => exact z18_1)
       (case aF => exact (fun _ _ => trivial))
       (case aO => exact (pkR HO_480004))
       (case aS => exact (below_size z18_1))
       (case aL => have := LMc46.out; omega)
       intro v484 w54 ho hb hg hat
       rw [← Ny483.out] at ho
       have n0_ := mk0 (blk_grown (g := gb470) (o := .cells #[.int .i64 a0_0, .int .i64 a0_1, .int .i64 a0_2, .int .i64 a0_3, .slice A0_4 l0_4.length c0_4] 65 (0, 0)) (pkb BK470) hg (Kd.R_ne HO_480004.out BK470.out (by decide)))
       have n1_ := mk0 (blk_grown (g := gb471) (o := .cells #[.int .i64 a1_0, .int .i64 a1_1, .int .i64 a1_2, .int .i64 a1_3, .slice A1_4 l1_4.length c1_4] 65 (0, 0)) (pkb BK471) hg (Kd.R_ne HO_480004.out BK471.out (by decide)))
       have n2_ := mk0 (blk_grown (g := gb472) (o := .cells #[.int .i64 0, .int .i64 0, .int .i64 0, .int .i64 0, .slice none 0 0] 65 (0, 0)) (pkb BK472) hg (Kd.R_ne HO_480004.out BK472.out (by decide)))
       have n3_ := mk0 (blk_grown (g := gb479) (o := .cells #[.int .i64 t475, .int .i64 t476, .int .i64 t477, .int .i64 t478, u480004] 65 (0, 0)) (pkb BK479) hg (Kd.R_ne HO_480004.out BK479.out (by decide)))
       have n4_ := mk0 (hb)
       have n5_ := mk0 (ho)
       clear BK470 BK471 BK472 BK479 HB HO_480004; have BK470 := n0_; have BK471 := n1_; have BK472 := n2_; have BK479 := n3_; have HB := n4_; have HO485 := n5_; clear n0_ n1_ n2_ n3_ n4_ n5_ ho hb hg hat
       obtain ⟨Ao55, co55, eo55⟩ := Kd.R_slice HO485.out
       (first | subst eo55 | (injection eo55 with f1_ f2_ f3_; have f4_ := f1_.symm; have f5_ := f3_.symm; clear f1_ f2_ f3_; subst f4_; subst f5_))
       refine hK.out _ _ ⟨(blk_cell BK479.out 0).trans rfl, (blk_cell BK479.out 1).trans rfl, (blk_cell BK479.out 2).trans rfl, (blk_cell BK479.out 3).trans rfl, (blk_cell BK479.out 4).trans rfl, (blk_cell BK470.out 0).trans rfl, (blk_cell BK470.out 1).trans rfl, (blk_cell BK470.out 2).trans rfl, (blk_cell BK470.out 3).trans rfl, (blk_cell BK470.out 4).trans rfl, (blk_cell BK471.out 0).trans rfl, (blk_cell BK471.out 1).trans rfl, (blk_cell BK471.out 2).trans rfl, (blk_cell BK471.out 3).trans rfl, (blk_cell BK471.out 4).trans rfl⟩ (fun hHeld => ?_)
       clear hK K
       refine norm_ (a' := ?_) ?_ ?_
       rotate_left
       ·show Act.put _ (some 55) _ = _
        simp only [Act.put, List.setIfInBounds_toArray, List.set_cons_zero, List.set_cons_succ, i64_w, i32_w]
        rfl
       refine pzv (i := 13) (N := 56) (v := ?_) (a' := ?_) (bA 15 16383) HT_ ?_ ?_ ?_
       rotate_left
       ·intro w'
        go_simp; with_reducible rfl
       rotate_left
       ·exact x18_put
       refine last_ (i := 14) (N := none) (bA 15 32767) rfl rfl (one_of HT_.out (by kernel_rfl)) (by decide) (fun K hK => ?_)
       have hs56 : w54.cell? ⟨gb479, 4, none⟩ = some (u480004) := (blk_cell BK479.out 4).trans rfl
       have hfs56 := blk_frozen BK479.out 4
       have hns56_0 := NB470_479.out; have hns56_1 := NB471_479.out; have hns56_2 := NB472_479.out; have hms56_0 := NB479_470.out; have hms56_1 := NB479_471.out; have hms56_2 := NB479_472.out
       refine skip_ (w1 := ?_) (by rfl) rfl ?_ ?_
       rotate_left
       ·go_simp
        rfl
       refine hK.out _ _ ?_
       clear hK K
       refine done_ (done_of HT_.out (by kernel_rfl)) ?_
       try go_wp2
       go_roundg k3
       case measure => have := HJ2.out; have := HK2.out; have := HK3.out; omega
       case rel => exact ⟨(wrap64 (x7_3 + 1)), (y483), (.slice Ao55 y483.length co55), rs0, H', ⟨(by have := HJ2.out; have := HK2.out; have := HK3.out; omega)⟩, ⟨(by (with_reducible repeat (first | apply Kd.R_alloc | apply Kd.R_drewN | apply Kd.R_drew)); exact Kd.R_mono (Kd.R_far (p := ⟨gb479, 4, none⟩) (Kd.R_types HO485.out BK479.out (by decide)) (fun _ hk => hk.2) (.slice Ao55 y483.length co55)) (fun _ hk => trivial))⟩, ⟨(by (with_reducible repeat (first | refine blk_drewN ?_ _ | refine blk_drew ?_ | refine blk_alloc ?_ _)); refine blk_far ?_ NB470_479.out _; (with_reducible repeat (first | refine blk_drewN ?_ _ | refine blk_drew ?_ | refine blk_alloc ?_ _)); exact BK470.out)⟩, ⟨(by (with_reducible repeat (first | refine blk_drewN ?_ _ | refine blk_drew ?_ | refine blk_alloc ?_ _)); refine blk_far ?_ NB471_479.out _; (with_reducible repeat (first | refine blk_drewN ?_ _ | refine blk_drew ?_ | refine blk_alloc ?_ _)); exact BK471.out)⟩, ⟨(by (with_reducible repeat (first | refine blk_drewN ?_ _ | refine blk_drew ?_ | refine blk_alloc ?_ _)); refine blk_far ?_ NB472_479.out _; (with_reducible repeat (first | refine blk_drewN ?_ _ | refine blk_drew ?_ | refine blk_alloc ?_ _)); exact BK472.out)⟩, ⟨(by (with_reducible repeat (first | refine blk_drewN ?_ _ | refine blk_drew ?_ | refine blk_alloc ?_ _)); refine blk_put (cs := #[.int .i64 t475, .int .i64 t476, .int .i64 t477, .int .i64 t478, u480004]) ?_ 4 _ rfl; (with_reducible repeat (first | refine blk_drewN ?_ _ | refine blk_drew ?_ | refine blk_alloc ?_ _)); exact BK479.out)⟩, ⟨z18_1⟩⟩

end Go.Proofs.Ytghbenapnhcllaa.MFnMeets
