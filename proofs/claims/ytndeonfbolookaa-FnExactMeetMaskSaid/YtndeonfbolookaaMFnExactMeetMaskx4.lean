/- Functions of the program as Lean functions, and the proof that a call comes to just these: machine text of this session's own program (myprint.py). -/
import Derived.Test.YtndeonfbolookaaMFnExactMeetMaskx0
import Derived.Test.YtndeonfbolookaaMFnExactMeetMaskx2
import Derived.Test.YtndeonfbolookaaMFnExactMeetMaskx3
namespace Go.Proofs.Ytndeonfbolookaa.MFnExactMeetMask
open Go.RowKit Go.Proofs.YtndeonfbolookaaW.PrintWords Go.Proofs.YtndeonfbolookaaW.PrintLast Go.Proofs.YtndeonfbolookaaW.PrintMore
attribute [local go_sem] max2_int min2_int max_two min_two max_three min_three max_four min_four   -- for this text's walks alone
set_option linter.unusedVariables false
set_option linter.unusedSimpArgs false

def y4_0 : Array Bool := #[false, false, false, false, false, false, false, false, false, false, false, false, false, false, false, false, false, false, false, false, false, false, false]
def y4_1 : Array Bool := #[true, false, false, false, false, false, false, false, false, false, false, false, false, false, false, false, false, false, false, false, false, false, false]
def y4_2 : Array Bool := #[true, false, true, false, false, false, false, false, false, false, false, false, false, false, false, false, false, false, false, false, false, false, false]
def y4_3 : Array Bool := #[true, false, true, false, false, true, false, false, false, false, false, false, false, false, false, false, false, false, false, false, false, false, false]
def y4_4 : Array Bool := #[true, false, true, false, false, true, false, true, false, false, false, false, false, false, false, false, false, false, false, false, false, false, false]
def y4_5 : Array Bool := #[true, false, true, false, false, true, false, true, false, false, true, false, false, false, false, false, false, false, false, false, false, false, false]
def y4_6 : Array Bool := #[true, false, true, false, false, true, false, true, false, false, true, false, true, false, false, false, false, false, false, false, false, false, false]
def y4_7 : Array Bool := #[true, false, true, false, false, true, false, true, false, false, true, false, true, false, false, true, false, false, false, false, false, false, false]
def y4_8 : Array Bool := #[true, false, true, false, false, true, false, true, false, false, true, false, true, false, false, true, false, true, false, false, false, false, false]
def y4_9 : Array Bool := #[true, true, true, false, false, true, false, true, false, false, true, false, true, false, false, true, false, true, false, false, false, false, false]
def y4_10 : Array Bool := #[true, true, true, true, false, true, false, true, false, false, true, false, true, false, false, true, false, true, false, false, false, false, false]
def y4_11 : Array Bool := #[true, true, true, true, false, true, true, true, false, false, true, false, true, false, false, true, false, true, false, false, false, false, false]
def y4_12 : Array Bool := #[true, true, true, true, false, true, true, true, true, false, true, false, true, false, false, true, false, true, false, false, false, false, false]
def y4_13 : Array Bool := #[true, true, true, true, false, true, true, true, true, false, true, true, true, false, false, true, false, true, false, false, false, false, false]
def y4_14 : Array Bool := #[true, true, true, true, false, true, true, true, true, false, true, true, true, true, false, true, false, true, false, false, false, false, false]
def y4_15 : Array Bool := #[true, true, true, true, false, true, true, true, true, false, true, true, true, true, false, true, true, true, false, false, false, false, false]
def y4_16 : Array Bool := #[true, true, true, true, false, true, true, true, true, false, true, true, true, true, false, true, true, true, true, false, false, false, false]
def y4_17 : Array Bool := #[true, true, true, true, false, true, true, true, true, false, true, true, true, true, false, true, true, true, true, false, false, true, false]
def y4_18 : Array Bool := #[true, true, true, true, true, true, true, true, true, false, true, true, true, true, false, true, true, true, true, false, false, false, false]
def y4_19 : Array Bool := #[true, true, true, true, true, true, true, true, true, false, true, true, true, true, false, true, true, true, true, false, false, true, false]
def y4_20 : Array Bool := #[true, true, true, true, true, true, true, true, true, true, true, true, true, true, false, true, true, true, true, false, false, false, false]
def y4_21 : Array Bool := #[true, true, true, true, true, true, true, true, true, true, true, true, true, true, false, true, true, true, true, false, false, true, false]
def y4_22 : Array Bool := #[true, true, true, true, true, true, true, true, true, true, true, true, true, true, true, true, true, true, true, false, false, false, false]
def y4_23 : Array Bool := #[true, true, true, true, true, true, true, true, true, true, true, true, true, true, true, true, true, true, true, false, false, true, false]
def y4_24 : Array Bool := #[true, true, true, true, true, true, true, true, true, true, true, true, true, true, true, true, true, true, true, true, false, false, false]
def y4_25 : Array Bool := #[true, true, true, true, true, true, true, true, true, true, true, true, true, true, true, true, true, true, true, true, false, true, false]
def y4_26 : Array Bool := #[true, true, true, true, true, true, true, true, true, true, true, true, true, true, true, true, true, true, true, true, true, false, false]
def y4_27 : Array Bool := #[true, true, true, true, true, true, true, true, true, true, true, true, true, true, true, true, true, true, true, true, true, true, false]
def y4_28 : Array Bool := #[true, true, true, true, true, true, true, true, true, true, true, true, true, true, true, true, true, true, true, true, true, true, true]
theorem x4_put {P : Prop} (h : P := by simp only [Act.put, List.setIfInBounds_toArray, List.set_cons_zero, List.set_cons_succ, i64_w, i32_w]; rfl) : P := h
theorem z4_30 {P : Prop} (h : P := by repeat (first | (with_reducible first | exact HB.out | apply below_alloc | apply pw_below_drewN | apply below_drew1 | refine below_set ?_ GE146.out | refine below_set ?_ GE147.out | refine below_set ?_ GE148.out) | exact HB.out)) : P := h
theorem z4_31 {P : Prop} (h : P := by (with_reducible repeat (first | refine blk_drewN ?_ _ | refine blk_drew ?_ | refine blk_alloc ?_ _)); exact BK146.out) : P := h
theorem z4_32 {P : Prop} (h : P := by (with_reducible repeat (first | refine blk_drewN ?_ _ | refine blk_drew ?_ | refine blk_alloc ?_ _)); exact BK147.out) : P := h
theorem z4_33 {P : Prop} (h : P := by (with_reducible repeat (first | refine blk_drewN ?_ _ | refine blk_drew ?_ | refine blk_alloc ?_ _)); exact BK148.out) : P := h
theorem z4_34 {P : Prop} (h : P := by repeat (first | (with_reducible first | exact HB.out | apply below_alloc | apply pw_below_drewN | apply below_drew1 | refine below_set ?_ GE146.out | refine below_set ?_ GE147.out | refine below_set ?_ GE148.out | refine below_set ?_ GE153.out) | exact HB.out)) : P := h
theorem z4_35 {P : Prop} (h : P := by first | (simp only [putAll, Act.put, List.setIfInBounds_toArray, List.set_cons_zero, List.set_cons_succ]; done) | (simp only [putAll, Act.put, List.setIfInBounds_toArray, List.set_cons_zero, List.set_cons_succ]; rfl)) : P := h
theorem z4_36 {P : Prop} (h : P := by (try simp only [List.map_toArray, List.map_cons, List.map_nil]); first | done | rfl | (simp only [List.length_drop, List.length_take]; rfl)) : P := h
theorem z4_37 {P : Prop} (h : P := by (with_reducible repeat (first | refine blk_drewN ?_ _ | refine blk_drew ?_ | refine blk_alloc ?_ _)); exact BK153.out) : P := h
theorem z4_38 {P : Prop} (h : P := by repeat (first | (with_reducible first | exact HB.out | apply below_alloc | apply pw_below_drewN | apply below_drew1 | refine below_set ?_ GE146.out | refine below_set ?_ GE147.out) | exact HB.out)) : P := h
theorem z4_39 {P : Prop} (h : P := by repeat (first | (with_reducible first | exact HB.out | apply below_alloc | apply pw_below_drewN | apply below_drew1 | refine below_set ?_ GE146.out) | exact HB.out)) : P := h
theorem z4_40 {P : Prop} (h : P := by repeat (first | (with_reducible first | exact HB.out | apply below_alloc | apply pw_below_drewN | apply below_drew1) | exact HB.out)) : P := h
theorem z4_41 {P : Prop} (h : P := by (with_reducible repeat (first | refine blk_drewN ?_ _ | refine blk_drew ?_ | refine blk_alloc ?_ _)); refine blk_far ?_ NB146_153.out _; (with_reducible repeat (first | refine blk_drewN ?_ _ | refine blk_drew ?_ | refine blk_alloc ?_ _)); refine blk_far ?_ NB146_153.out _; (with_reducible repeat (first | refine blk_drewN ?_ _ | refine blk_drew ?_ | refine blk_alloc ?_ _)); refine blk_far ?_ NB146_153.out _; (with_reducible repeat (first | refine blk_drewN ?_ _ | refine blk_drew ?_ | refine blk_alloc ?_ _)); refine blk_far ?_ NB146_153.out _; (with_reducible repeat (first | refine blk_drewN ?_ _ | refine blk_drew ?_ | refine blk_alloc ?_ _)); exact BK146.out) : P := h
theorem z4_42 {P : Prop} (h : P := by (with_reducible repeat (first | refine blk_drewN ?_ _ | refine blk_drew ?_ | refine blk_alloc ?_ _)); refine blk_far ?_ NB147_153.out _; (with_reducible repeat (first | refine blk_drewN ?_ _ | refine blk_drew ?_ | refine blk_alloc ?_ _)); refine blk_far ?_ NB147_153.out _; (with_reducible repeat (first | refine blk_drewN ?_ _ | refine blk_drew ?_ | refine blk_alloc ?_ _)); refine blk_far ?_ NB147_153.out _; (with_reducible repeat (first | refine blk_drewN ?_ _ | refine blk_drew ?_ | refine blk_alloc ?_ _)); refine blk_far ?_ NB147_153.out _; (with_reducible repeat (first | refine blk_drewN ?_ _ | refine blk_drew ?_ | refine blk_alloc ?_ _)); exact BK147.out) : P := h
theorem z4_43 {P : Prop} (h : P := by (with_reducible repeat (first | refine blk_drewN ?_ _ | refine blk_drew ?_ | refine blk_alloc ?_ _)); refine blk_far ?_ NB148_153.out _; (with_reducible repeat (first | refine blk_drewN ?_ _ | refine blk_drew ?_ | refine blk_alloc ?_ _)); refine blk_far ?_ NB148_153.out _; (with_reducible repeat (first | refine blk_drewN ?_ _ | refine blk_drew ?_ | refine blk_alloc ?_ _)); refine blk_far ?_ NB148_153.out _; (with_reducible repeat (first | refine blk_drewN ?_ _ | refine blk_drew ?_ | refine blk_alloc ?_ _)); refine blk_far ?_ NB148_153.out _; (with_reducible repeat (first | refine blk_drewN ?_ _ | refine blk_drew ?_ | refine blk_alloc ?_ _)); exact BK148.out) : P := h
theorem z4_44 {P : Prop} (h : P := by apply blk_fin; (focus ((with_reducible repeat (first | apply blk_putQ | refine blk_drewN ?_ _ | refine blk_drew ?_ | refine blk_alloc ?_ _)); exact BK153.out)); first | (simp only [List.setIfInBounds_toArray, List.set_cons_zero, List.set_cons_succ]; done) | rfl) : P := h
theorem z4_45 {P : Prop} (h : P := by apply blk_fin; (focus ((with_reducible repeat (first | apply blk_putQ | refine blk_drewN ?_ _ | refine blk_drew ?_ | refine blk_alloc ?_ _)); exact BK148.out)); first | (simp only [List.setIfInBounds_toArray, List.set_cons_zero, List.set_cons_succ]; done) | rfl) : P := h
/-! ### spec_MeetBox: function 117 -/
def spec_MeetBox.f (a0_0 : Int) (a0_1 : Int) (a0_2 : Int) (a0_3 : Int) (a1_0 : Int) (a1_1 : Int) (a1_2 : Int) (a1_3 : Int) : Option (Int × Int × Int × Int) := (spec_l05Most.f a0_0 a1_0).bind fun t149 => ((spec_l05Most.f a0_1 a1_1).bind fun t150 => ((spec_l05Least.f a0_2 a1_2).bind fun t151 => ((spec_l05Least.f a0_3 a1_3).bind fun t152 => ((spec_Empty.f t149 t150 t151 t152).bind fun t154 => (if t154 = true then (some (0, 0, 0, 0)) else (some (t149, t150, t151, t152)))))))
def spec_MeetBox.T1 : Bool × List (List Nat × List Nat) := (true, [([], []), ([0], [0]), ([], []), ([2], [2]), ([1, 3], [1, 3]), ([], []), ([5], [5]), ([], []), ([7], [7]), ([6, 8, 4], [6, 8]), ([], []), ([10], [10]), ([], []), ([12], [12]), ([11, 13, 9], [11, 13]), ([], []), ([15], [15]), ([], []), ([17], [17]), ([16, 18, 14], [16, 18]), ([4, 9, 14, 19], [4, 9, 14, 19]), ([], []), ([21, 20, 19, 0, 1, 2, 3, 4, 5, 6, 7, 8, 9, 10, 11, 12, 13, 14, 15, 16, 17, 18, 19, 20, 21], [20, 21])])
def spec_MeetBox.B1 : List Nat := [0, 1, 0, 4, 15, 0, 32, 0, 128, 511, 0, 1024, 0, 4096, 16383, 0, 32768, 0, 131072, 524287, 1048575, 0, 4194303]
theorem spec_MeetBox.tab1 : rtab .any (opsOf Try.f117 1) = spec_MeetBox.T1 := by kernel_rfl
theorem spec_MeetBox.bits1 : waitsOk spec_MeetBox.T1.2 spec_MeetBox.B1 = true := by kernel_rfl
set_option maxHeartbeats 8000000 in
set_option maxRecDepth 100000 in
theorem spec_MeetBox.calls (a0_0 : Int) (a0_1 : Int) (a0_2 : Int) (a0_3 : Int) (a1_0 : Int) (a1_1 : Int) (a1_2 : Int) (a1_3 : Int) (r1 : Int) (r2 : Int) (r3 : Int) (r4 : Int) (w : World) (h : spec_MeetBox.f a0_0 a0_1 a0_2 a0_3 a1_0 a1_1 a1_2 a1_3 = some (r1, r2, r3, r4)) :
  Calls Try.prog 117 #[.agg #[.int .i64 a0_0, .int .i64 a0_1, .int .i64 a0_2, .int .i64 a0_3], .agg #[.int .i64 a1_0, .int .i64 a1_1, .int .i64 a1_2, .int .i64 a1_3]] w fun e w' => e = .returned (.agg #[.int .i64 r1, .int .i64 r2, .int .i64 r3, .int .i64 r4]) ∧ Below w.heap.size w w' := by
 have hu62 := Try.underlying62
 have HB := Aside0.mk (Below.refl w.heap.size w)
 have H : ((spec_l05Most.f a0_0 a1_0).bind fun t149 => ((spec_l05Most.f a0_1 a1_1).bind fun t150 => ((spec_l05Least.f a0_2 a1_2).bind fun t151 => ((spec_l05Least.f a0_3 a1_3).bind fun t152 => ((spec_Empty.f t149 t150 t151 t152).bind fun t154 => (if t154 = true then (some (0, 0, 0, 0)) else (some (t149, t150, t151, t152)))))))) = some (r1, r2, r3, r4) := h
 clear h
 replace H := Option.bind_eq_some_iff.mp H
 obtain ⟨t149, A30, H⟩ := H
 try dsimp only at H
 have A3 := Aside0.mk A30
 clear A30
 replace H := Option.bind_eq_some_iff.mp H
 obtain ⟨t150, A40, H⟩ := H
 try dsimp only at H
 have A4 := Aside0.mk A40
 clear A40
 replace H := Option.bind_eq_some_iff.mp H
 obtain ⟨t151, A50, H⟩ := H
 try dsimp only at H
 have A5 := Aside0.mk A50
 clear A50
 replace H := Option.bind_eq_some_iff.mp H
 obtain ⟨t152, A60, H⟩ := H
 try dsimp only at H
 have A6 := Aside0.mk A60
 clear A60
 replace H := Option.bind_eq_some_iff.mp H
 obtain ⟨t154, A70, H⟩ := H
 try dsimp only at H
 have A7 := Aside0.mk A70
 clear A70
 by_cases c8 : t154 = true
 ·subst c8
  have H1 : (some (0, 0, 0, 0)) = some (r1, r2, r3, r4) := by rw [if_pos rfl] at H; exact H
  clear H; have H := H1; clear H1
  simp only [Option.some.injEq, Prod.mk.injEq] at H
  obtain ⟨rfl, rfl, rfl, rfl⟩ := H
  go_enter Try.func117, Try.ntmps117
  try go_wp2_with (first | ((with_reducible refine gate_dst (N := 2) rfl ?_); refine boxz (cs := #[.int .i64 a0_0, .int .i64 a0_1, .int .i64 a0_2, .int .i64 a0_3]) (t := 62) rfl ?_; intro gb146 hg w9 hbox hb; have n0_ := Aside0.mk (below_step z4_40 hb); have n1_ := Aside0.mk (hbox); have n2_ := Aside0.mk ((by rw [hg]; exact (below_size z4_40) : w.heap.size ≤ gb146)); have n3_ := Aside0.mk ((by rw [hg]; exact (below_size z4_40) : w.heap.size ≤ gb146)); clear HB; have HB := n0_; have BK146 := n1_; have GW146 := n2_; have GE146 := n3_; clear n0_ n1_ n2_ n3_; clear hb hbox hg) | ((with_reducible refine gate_dst (N := 3) rfl ?_); refine boxz (cs := #[.int .i64 a1_0, .int .i64 a1_1, .int .i64 a1_2, .int .i64 a1_3]) (t := 62) rfl ?_; intro gb147 hg w10 hbox hb; have n0_ := Aside0.mk (blk_belowB BK146 z4_31 hb); have n1_ := Aside0.mk (below_step z4_39 hb); have n2_ := Aside0.mk (hbox); have n3_ := Aside0.mk ((by rw [hg]; exact (below_size z4_39) : w.heap.size ≤ gb147)); have n4_ := Aside0.mk ((by rw [hg]; exact (below_size z4_39) : w.heap.size ≤ gb147)); have n5_ := Aside0.mk ((by rw [hg]; exact Nat.ne_of_lt (blk_ltB BK146 z4_31) : gb146 ≠ gb147)); have n6_ := Aside0.mk ((by rw [hg]; exact Nat.ne_of_gt (blk_ltB BK146 z4_31) : gb147 ≠ gb146)); clear BK146; clear HB; have BK146 := n0_; have HB := n1_; have BK147 := n2_; have GW147 := n3_; have GE147 := n4_; have NB146_147 := n5_; have NB147_146 := n6_; clear n0_ n1_ n2_ n3_ n4_ n5_ n6_; clear hb hbox hg) | ((with_reducible refine gate_dst (N := 4) rfl ?_); refine boxz (cs := #[.int .i64 0, .int .i64 0, .int .i64 0, .int .i64 0]) (t := 62) rfl ?_; intro gb148 hg w11 hbox hb; have n0_ := Aside0.mk (blk_belowB BK146 z4_31 hb); have n1_ := Aside0.mk (blk_belowB BK147 z4_32 hb); have n2_ := Aside0.mk (below_step z4_38 hb); have n3_ := Aside0.mk (hbox); have n4_ := Aside0.mk ((by rw [hg]; exact (below_size z4_38) : w.heap.size ≤ gb148)); have n5_ := Aside0.mk ((by rw [hg]; exact (below_size z4_38) : w.heap.size ≤ gb148)); have n6_ := Aside0.mk ((by rw [hg]; exact Nat.ne_of_lt (blk_ltB BK146 z4_31) : gb146 ≠ gb148)); have n7_ := Aside0.mk ((by rw [hg]; exact Nat.ne_of_gt (blk_ltB BK146 z4_31) : gb148 ≠ gb146)); have n8_ := Aside0.mk ((by rw [hg]; exact Nat.ne_of_lt (blk_ltB BK147 z4_32) : gb147 ≠ gb148)); have n9_ := Aside0.mk ((by rw [hg]; exact Nat.ne_of_gt (blk_ltB BK147 z4_32) : gb148 ≠ gb147)); clear BK146; clear BK147; clear HB; have BK146 := n0_; have BK147 := n1_; have HB := n2_; have BK148 := n3_; have GW148 := n4_; have GE148 := n5_; have NB146_148 := n6_; have NB148_146 := n7_; have NB147_148 := n8_; have NB148_147 := n9_; clear n0_ n1_ n2_ n3_ n4_ n5_ n6_ n7_ n8_ n9_; clear hb hbox hg))
  have n0_ := Aside0.mk (blk_drew BK146.out)
  have n1_ := Aside0.mk (blk_drew BK147.out)
  have n2_ := Aside0.mk (blk_drew BK148.out)
  have n3_ := Aside0.mk (below_drew1 HB.out)
  clear BK146; clear BK147; clear BK148; clear HB; have BK146 := n0_; have BK147 := n1_; have BK148 := n2_; have HB := n3_; clear n0_ n1_ n2_ n3_
  refine start_ (n := 23) (S := fun w' => w'.cell? ⟨gb146, 0, none⟩ = some (.int .i64 a0_0) ∧ w'.cell? ⟨gb146, 1, none⟩ = some (.int .i64 a0_1) ∧ w'.cell? ⟨gb146, 2, none⟩ = some (.int .i64 a0_2) ∧ w'.cell? ⟨gb146, 3, none⟩ = some (.int .i64 a0_3) ∧ w'.cell? ⟨gb147, 0, none⟩ = some (.int .i64 a1_0) ∧ w'.cell? ⟨gb147, 1, none⟩ = some (.int .i64 a1_1) ∧ w'.cell? ⟨gb147, 2, none⟩ = some (.int .i64 a1_2) ∧ w'.cell? ⟨gb147, 3, none⟩ = some (.int .i64 a1_3)) (ds := []) y4_0 (by kernel_rfl) rfl rfl ⟨(blk_cell BK146.out 0).trans rfl, (blk_cell BK146.out 1).trans rfl, (blk_cell BK146.out 2).trans rfl, (blk_cell BK146.out 3).trans rfl, (blk_cell BK147.out 0).trans rfl, (blk_cell BK147.out 1).trans rfl, (blk_cell BK147.out 2).trans rfl, (blk_cell BK147.out 3).trans rfl⟩ (fun hHeld => ?_); refine with_tabW spec_MeetBox.tab1 spec_MeetBox.bits1 (fun HT_ HW_ => ?_)
  generalize w11.drew = w12 at BK146 BK147 BK148 HB hHeld ⊢
  refine pure_ (i := 0) (N := some 6) (v := ?_) (a' := ?_) y4_1 rfl rfl (any_of HT_.out (by kernel_rfl)) (fun _ _ _ h => h) (Or.inl ⟨by rfl, ?_⟩) ?_ ?_; rotate_left
  ·intro w'
   go_simp; with_reducible rfl
  rotate_left
  ·exact x4_put
  refine pure_ (i := 2) (N := some 8) (v := ?_) (a' := ?_) y4_2 rfl rfl (any_of HT_.out (by kernel_rfl)) (fun _ _ _ h => h) (Or.inl ⟨by rfl, ?_⟩) ?_ ?_; rotate_left
  ·intro w'
   go_simp; with_reducible rfl
  rotate_left
  ·exact x4_put
  refine pure_ (i := 5) (N := some 11) (v := ?_) (a' := ?_) y4_3 rfl rfl (any_of HT_.out (by kernel_rfl)) (fun _ _ _ h => h) (Or.inl ⟨by rfl, ?_⟩) ?_ ?_; rotate_left
  ·intro w'
   go_simp; with_reducible rfl
  rotate_left
  ·exact x4_put
  refine pure_ (i := 7) (N := some 13) (v := ?_) (a' := ?_) y4_4 rfl rfl (any_of HT_.out (by kernel_rfl)) (fun _ _ _ h => h) (Or.inl ⟨by rfl, ?_⟩) ?_ ?_; rotate_left
  ·intro w'
   go_simp; with_reducible rfl
  rotate_left
  ·exact x4_put
  refine pure_ (i := 10) (N := some 16) (v := ?_) (a' := ?_) y4_5 rfl rfl (any_of HT_.out (by kernel_rfl)) (fun _ _ _ h => h) (Or.inl ⟨by rfl, ?_⟩) ?_ ?_; rotate_left
  ·intro w'
   go_simp; with_reducible rfl
  rotate_left
  ·exact x4_put
  refine pure_ (i := 12) (N := some 18) (v := ?_) (a' := ?_) y4_6 rfl rfl (any_of HT_.out (by kernel_rfl)) (fun _ _ _ h => h) (Or.inl ⟨by rfl, ?_⟩) ?_ ?_; rotate_left
  ·intro w'
   go_simp; with_reducible rfl
  rotate_left
  ·exact x4_put
  refine pure_ (i := 15) (N := some 21) (v := ?_) (a' := ?_) y4_7 rfl rfl (any_of HT_.out (by kernel_rfl)) (fun _ _ _ h => h) (Or.inl ⟨by rfl, ?_⟩) ?_ ?_; rotate_left
  ·intro w'
   go_simp; with_reducible rfl
  rotate_left
  ·exact x4_put
  refine pure_ (i := 17) (N := some 23) (v := ?_) (a' := ?_) y4_8 rfl rfl (any_of HT_.out (by kernel_rfl)) (fun _ _ _ h => h) (Or.inl ⟨by rfl, ?_⟩) ?_ ?_; rotate_left
  ·intro w'
   go_simp; with_reducible rfl
  rotate_left
  ·exact x4_put
  refine take_ (i := 1) (N := some 7) (v := ?_) (a' := ?_) y4_9 rfl rfl (take_ofW HT_.out HW_.out (by kernel_rfl)) (fun _ _ _ h => h) (Or.inl ⟨by rfl, ?_⟩) hHeld ?_ ?_
  rotate_left
  ·rintro w' ⟨s0, s1, s2, s3, s4, s5, s6, s7⟩
   go_simp; with_reducible rfl
  rotate_left
  ·exact x4_put
  refine take_ (i := 3) (N := some 9) (v := ?_) (a' := ?_) y4_10 rfl rfl (take_ofW HT_.out HW_.out (by kernel_rfl)) (fun _ _ _ h => h) (Or.inl ⟨by rfl, ?_⟩) hHeld ?_ ?_
  rotate_left
  ·rintro w' ⟨s0, s1, s2, s3, s4, s5, s6, s7⟩
   go_simp; with_reducible rfl
  rotate_left
  ·exact x4_put
  refine take_ (i := 6) (N := some 12) (v := ?_) (a' := ?_) y4_11 rfl rfl (take_ofW HT_.out HW_.out (by kernel_rfl)) (fun _ _ _ h => h) (Or.inl ⟨by rfl, ?_⟩) hHeld ?_ ?_
  rotate_left
  ·rintro w' ⟨s0, s1, s2, s3, s4, s5, s6, s7⟩
   go_simp; with_reducible rfl
  rotate_left
  ·exact x4_put
  refine take_ (i := 8) (N := some 14) (v := ?_) (a' := ?_) y4_12 rfl rfl (take_ofW HT_.out HW_.out (by kernel_rfl)) (fun _ _ _ h => h) (Or.inl ⟨by rfl, ?_⟩) hHeld ?_ ?_
  rotate_left
  ·rintro w' ⟨s0, s1, s2, s3, s4, s5, s6, s7⟩
   go_simp; with_reducible rfl
  rotate_left
  ·exact x4_put
  refine take_ (i := 11) (N := some 17) (v := ?_) (a' := ?_) y4_13 rfl rfl (take_ofW HT_.out HW_.out (by kernel_rfl)) (fun _ _ _ h => h) (Or.inl ⟨by rfl, ?_⟩) hHeld ?_ ?_
  rotate_left
  ·rintro w' ⟨s0, s1, s2, s3, s4, s5, s6, s7⟩
   go_simp; with_reducible rfl
  rotate_left
  ·exact x4_put
  refine take_ (i := 13) (N := some 19) (v := ?_) (a' := ?_) y4_14 rfl rfl (take_ofW HT_.out HW_.out (by kernel_rfl)) (fun _ _ _ h => h) (Or.inl ⟨by rfl, ?_⟩) hHeld ?_ ?_
  rotate_left
  ·rintro w' ⟨s0, s1, s2, s3, s4, s5, s6, s7⟩
   go_simp; with_reducible rfl
  rotate_left
  ·exact x4_put
  refine take_ (i := 16) (N := some 22) (v := ?_) (a' := ?_) y4_15 rfl rfl (take_ofW HT_.out HW_.out (by kernel_rfl)) (fun _ _ _ h => h) (Or.inl ⟨by rfl, ?_⟩) hHeld ?_ ?_
  rotate_left
  ·rintro w' ⟨s0, s1, s2, s3, s4, s5, s6, s7⟩
   go_simp; with_reducible rfl
  rotate_left
  ·exact x4_put
  refine take_ (i := 18) (N := some 24) (v := ?_) (a' := ?_) y4_16 rfl rfl (take_ofW HT_.out HW_.out (by kernel_rfl)) (fun _ _ _ h => h) (Or.inl ⟨by rfl, ?_⟩) hHeld ?_ ?_
  rotate_left
  ·rintro w' ⟨s0, s1, s2, s3, s4, s5, s6, s7⟩
   go_simp; with_reducible rfl
  rotate_left
  ·exact x4_put
  refine join_ (σ := Nat) 1 y4_27 (fun s_ => [(10, .int .i64 t149), (15, .int .i64 t150), (20, .int .i64 t151), (25, .int .i64 t152), (5, .pointer (some ⟨s_, 0, none⟩)), (26, .agg #[.int .i64 t149, .int .i64 t150, .int .i64 t151, .int .i64 t152])]) (fun s_ w' => (w'.cell? ⟨gb146, 0, none⟩ = some (.int .i64 a0_0) ∧ w'.cell? ⟨gb146, 1, none⟩ = some (.int .i64 a0_1) ∧ w'.cell? ⟨gb146, 2, none⟩ = some (.int .i64 a0_2) ∧ w'.cell? ⟨gb146, 3, none⟩ = some (.int .i64 a0_3) ∧ w'.cell? ⟨gb147, 0, none⟩ = some (.int .i64 a1_0) ∧ w'.cell? ⟨gb147, 1, none⟩ = some (.int .i64 a1_1) ∧ w'.cell? ⟨gb147, 2, none⟩ = some (.int .i64 a1_2) ∧ w'.cell? ⟨gb147, 3, none⟩ = some (.int .i64 a1_3)) ∧ (w'.heap[gb146]? = some (.cells #[.int .i64 a0_0, .int .i64 a0_1, .int .i64 a0_2, .int .i64 a0_3] 62 (0, 0))) ∧ (w'.heap[gb147]? = some (.cells #[.int .i64 a1_0, .int .i64 a1_1, .int .i64 a1_2, .int .i64 a1_3] 62 (0, 0))) ∧ (w'.heap[gb148]? = some (.cells #[.int .i64 0, .int .i64 0, .int .i64 0, .int .i64 0] 62 (0, 0))) ∧ (w'.heap[s_]? = some (.cells #[.int .i64 0, .int .i64 0, .int .i64 0, .int .i64 0] 62 (0, 0))) ∧ (w.heap.size ≤ s_) ∧ (w.heap.size ≤ s_) ∧ (gb146 ≠ s_) ∧ (s_ ≠ gb146) ∧ (gb147 ≠ s_) ∧ (s_ ≠ gb147) ∧ (gb148 ≠ s_) ∧ (s_ ≠ gb148) ∧ (Below w.heap.size w w')) ?_ ?_
  rotate_left
  ·intro hJ4_9_14_19_21
   refine join_ (σ := Unit) 2 y4_26 (fun s_ => [(10, .int .i64 t149), (15, .int .i64 t150), (20, .int .i64 t151), (25, .int .i64 t152), (26, .agg #[.int .i64 t149, .int .i64 t150, .int .i64 t151, .int .i64 t152])]) (fun s_ w' => (w'.cell? ⟨gb146, 0, none⟩ = some (.int .i64 a0_0) ∧ w'.cell? ⟨gb146, 1, none⟩ = some (.int .i64 a0_1) ∧ w'.cell? ⟨gb146, 2, none⟩ = some (.int .i64 a0_2) ∧ w'.cell? ⟨gb146, 3, none⟩ = some (.int .i64 a0_3) ∧ w'.cell? ⟨gb147, 0, none⟩ = some (.int .i64 a1_0) ∧ w'.cell? ⟨gb147, 1, none⟩ = some (.int .i64 a1_1) ∧ w'.cell? ⟨gb147, 2, none⟩ = some (.int .i64 a1_2) ∧ w'.cell? ⟨gb147, 3, none⟩ = some (.int .i64 a1_3)) ∧ (w'.heap[gb146]? = some (.cells #[.int .i64 a0_0, .int .i64 a0_1, .int .i64 a0_2, .int .i64 a0_3] 62 (0, 0))) ∧ (w'.heap[gb147]? = some (.cells #[.int .i64 a1_0, .int .i64 a1_1, .int .i64 a1_2, .int .i64 a1_3] 62 (0, 0))) ∧ (w'.heap[gb148]? = some (.cells #[.int .i64 0, .int .i64 0, .int .i64 0, .int .i64 0] 62 (0, 0))) ∧ (Below w.heap.size w w')) ?_ ?_
   rotate_left
   ·intro hJ4_9_14_19
    refine join_ (σ := Nat) 3 y4_23 (fun s_ => [(10, .int .i64 t149), (15, .int .i64 t150), (20, .int .i64 t151), (5, .pointer (some ⟨s_, 0, none⟩))]) (fun s_ w' => (w'.cell? ⟨gb146, 0, none⟩ = some (.int .i64 a0_0) ∧ w'.cell? ⟨gb146, 1, none⟩ = some (.int .i64 a0_1) ∧ w'.cell? ⟨gb146, 2, none⟩ = some (.int .i64 a0_2) ∧ w'.cell? ⟨gb146, 3, none⟩ = some (.int .i64 a0_3) ∧ w'.cell? ⟨gb147, 0, none⟩ = some (.int .i64 a1_0) ∧ w'.cell? ⟨gb147, 1, none⟩ = some (.int .i64 a1_1) ∧ w'.cell? ⟨gb147, 2, none⟩ = some (.int .i64 a1_2) ∧ w'.cell? ⟨gb147, 3, none⟩ = some (.int .i64 a1_3)) ∧ (w'.heap[gb146]? = some (.cells #[.int .i64 a0_0, .int .i64 a0_1, .int .i64 a0_2, .int .i64 a0_3] 62 (0, 0))) ∧ (w'.heap[gb147]? = some (.cells #[.int .i64 a1_0, .int .i64 a1_1, .int .i64 a1_2, .int .i64 a1_3] 62 (0, 0))) ∧ (w'.heap[gb148]? = some (.cells #[.int .i64 0, .int .i64 0, .int .i64 0, .int .i64 0] 62 (0, 0))) ∧ (w'.heap[s_]? = some (.cells #[.int .i64 0, .int .i64 0, .int .i64 0, .int .i64 0] 62 (0, 0))) ∧ (w.heap.size ≤ s_) ∧ (w.heap.size ≤ s_) ∧ (gb146 ≠ s_) ∧ (s_ ≠ gb146) ∧ (gb147 ≠ s_) ∧ (s_ ≠ gb147) ∧ (gb148 ≠ s_) ∧ (s_ ≠ gb148) ∧ (Below w.heap.size w w')) ?_ ?_
    rotate_left
    ·intro hJ4_9_14_21
     refine join_ (σ := Unit) 4 y4_22 (fun s_ => [(10, .int .i64 t149), (15, .int .i64 t150), (20, .int .i64 t151)]) (fun s_ w' => (w'.cell? ⟨gb146, 0, none⟩ = some (.int .i64 a0_0) ∧ w'.cell? ⟨gb146, 1, none⟩ = some (.int .i64 a0_1) ∧ w'.cell? ⟨gb146, 2, none⟩ = some (.int .i64 a0_2) ∧ w'.cell? ⟨gb146, 3, none⟩ = some (.int .i64 a0_3) ∧ w'.cell? ⟨gb147, 0, none⟩ = some (.int .i64 a1_0) ∧ w'.cell? ⟨gb147, 1, none⟩ = some (.int .i64 a1_1) ∧ w'.cell? ⟨gb147, 2, none⟩ = some (.int .i64 a1_2) ∧ w'.cell? ⟨gb147, 3, none⟩ = some (.int .i64 a1_3)) ∧ (w'.heap[gb146]? = some (.cells #[.int .i64 a0_0, .int .i64 a0_1, .int .i64 a0_2, .int .i64 a0_3] 62 (0, 0))) ∧ (w'.heap[gb147]? = some (.cells #[.int .i64 a1_0, .int .i64 a1_1, .int .i64 a1_2, .int .i64 a1_3] 62 (0, 0))) ∧ (w'.heap[gb148]? = some (.cells #[.int .i64 0, .int .i64 0, .int .i64 0, .int .i64 0] 62 (0, 0))) ∧ (Below w.heap.size w w')) ?_ ?_
     rotate_left
     ·intro hJ4_9_14
      refine join_ (σ := Nat) 4 y4_21 (fun s_ => [(10, .int .i64 t149), (15, .int .i64 t150), (5, .pointer (some ⟨s_, 0, none⟩))]) (fun s_ w' => (w'.cell? ⟨gb146, 0, none⟩ = some (.int .i64 a0_0) ∧ w'.cell? ⟨gb146, 1, none⟩ = some (.int .i64 a0_1) ∧ w'.cell? ⟨gb146, 2, none⟩ = some (.int .i64 a0_2) ∧ w'.cell? ⟨gb146, 3, none⟩ = some (.int .i64 a0_3) ∧ w'.cell? ⟨gb147, 0, none⟩ = some (.int .i64 a1_0) ∧ w'.cell? ⟨gb147, 1, none⟩ = some (.int .i64 a1_1) ∧ w'.cell? ⟨gb147, 2, none⟩ = some (.int .i64 a1_2) ∧ w'.cell? ⟨gb147, 3, none⟩ = some (.int .i64 a1_3)) ∧ (w'.heap[gb146]? = some (.cells #[.int .i64 a0_0, .int .i64 a0_1, .int .i64 a0_2, .int .i64 a0_3] 62 (0, 0))) ∧ (w'.heap[gb147]? = some (.cells #[.int .i64 a1_0, .int .i64 a1_1, .int .i64 a1_2, .int .i64 a1_3] 62 (0, 0))) ∧ (w'.heap[gb148]? = some (.cells #[.int .i64 0, .int .i64 0, .int .i64 0, .int .i64 0] 62 (0, 0))) ∧ (w'.heap[s_]? = some (.cells #[.int .i64 0, .int .i64 0, .int .i64 0, .int .i64 0] 62 (0, 0))) ∧ (w.heap.size ≤ s_) ∧ (w.heap.size ≤ s_) ∧ (gb146 ≠ s_) ∧ (s_ ≠ gb146) ∧ (gb147 ≠ s_) ∧ (s_ ≠ gb147) ∧ (gb148 ≠ s_) ∧ (s_ ≠ gb148) ∧ (Below w.heap.size w w')) ?_ ?_
      rotate_left
      ·intro hJ4_9_21
       refine join_ (σ := Unit) 5 y4_20 (fun s_ => [(10, .int .i64 t149), (15, .int .i64 t150)]) (fun s_ w' => (w'.cell? ⟨gb146, 0, none⟩ = some (.int .i64 a0_0) ∧ w'.cell? ⟨gb146, 1, none⟩ = some (.int .i64 a0_1) ∧ w'.cell? ⟨gb146, 2, none⟩ = some (.int .i64 a0_2) ∧ w'.cell? ⟨gb146, 3, none⟩ = some (.int .i64 a0_3) ∧ w'.cell? ⟨gb147, 0, none⟩ = some (.int .i64 a1_0) ∧ w'.cell? ⟨gb147, 1, none⟩ = some (.int .i64 a1_1) ∧ w'.cell? ⟨gb147, 2, none⟩ = some (.int .i64 a1_2) ∧ w'.cell? ⟨gb147, 3, none⟩ = some (.int .i64 a1_3)) ∧ (w'.heap[gb146]? = some (.cells #[.int .i64 a0_0, .int .i64 a0_1, .int .i64 a0_2, .int .i64 a0_3] 62 (0, 0))) ∧ (w'.heap[gb147]? = some (.cells #[.int .i64 a1_0, .int .i64 a1_1, .int .i64 a1_2, .int .i64 a1_3] 62 (0, 0))) ∧ (w'.heap[gb148]? = some (.cells #[.int .i64 0, .int .i64 0, .int .i64 0, .int .i64 0] 62 (0, 0))) ∧ (Below w.heap.size w w')) ?_ ?_
       rotate_left
       ·intro hJ4_9
        refine join_ (σ := Nat) 5 y4_19 (fun s_ => [(10, .int .i64 t149), (5, .pointer (some ⟨s_, 0, none⟩))]) (fun s_ w' => (w'.cell? ⟨gb146, 0, none⟩ = some (.int .i64 a0_0) ∧ w'.cell? ⟨gb146, 1, none⟩ = some (.int .i64 a0_1) ∧ w'.cell? ⟨gb146, 2, none⟩ = some (.int .i64 a0_2) ∧ w'.cell? ⟨gb146, 3, none⟩ = some (.int .i64 a0_3) ∧ w'.cell? ⟨gb147, 0, none⟩ = some (.int .i64 a1_0) ∧ w'.cell? ⟨gb147, 1, none⟩ = some (.int .i64 a1_1) ∧ w'.cell? ⟨gb147, 2, none⟩ = some (.int .i64 a1_2) ∧ w'.cell? ⟨gb147, 3, none⟩ = some (.int .i64 a1_3)) ∧ (w'.heap[gb146]? = some (.cells #[.int .i64 a0_0, .int .i64 a0_1, .int .i64 a0_2, .int .i64 a0_3] 62 (0, 0))) ∧ (w'.heap[gb147]? = some (.cells #[.int .i64 a1_0, .int .i64 a1_1, .int .i64 a1_2, .int .i64 a1_3] 62 (0, 0))) ∧ (w'.heap[gb148]? = some (.cells #[.int .i64 0, .int .i64 0, .int .i64 0, .int .i64 0] 62 (0, 0))) ∧ (w'.heap[s_]? = some (.cells #[.int .i64 0, .int .i64 0, .int .i64 0, .int .i64 0] 62 (0, 0))) ∧ (w.heap.size ≤ s_) ∧ (w.heap.size ≤ s_) ∧ (gb146 ≠ s_) ∧ (s_ ≠ gb146) ∧ (gb147 ≠ s_) ∧ (s_ ≠ gb147) ∧ (gb148 ≠ s_) ∧ (s_ ≠ gb148) ∧ (Below w.heap.size w w')) ?_ ?_
        rotate_left
        ·intro hJ4_21
         refine join_ (σ := Unit) 6 y4_18 (fun s_ => [(10, .int .i64 t149)]) (fun s_ w' => (w'.cell? ⟨gb146, 0, none⟩ = some (.int .i64 a0_0) ∧ w'.cell? ⟨gb146, 1, none⟩ = some (.int .i64 a0_1) ∧ w'.cell? ⟨gb146, 2, none⟩ = some (.int .i64 a0_2) ∧ w'.cell? ⟨gb146, 3, none⟩ = some (.int .i64 a0_3) ∧ w'.cell? ⟨gb147, 0, none⟩ = some (.int .i64 a1_0) ∧ w'.cell? ⟨gb147, 1, none⟩ = some (.int .i64 a1_1) ∧ w'.cell? ⟨gb147, 2, none⟩ = some (.int .i64 a1_2) ∧ w'.cell? ⟨gb147, 3, none⟩ = some (.int .i64 a1_3)) ∧ (w'.heap[gb146]? = some (.cells #[.int .i64 a0_0, .int .i64 a0_1, .int .i64 a0_2, .int .i64 a0_3] 62 (0, 0))) ∧ (w'.heap[gb147]? = some (.cells #[.int .i64 a1_0, .int .i64 a1_1, .int .i64 a1_2, .int .i64 a1_3] 62 (0, 0))) ∧ (w'.heap[gb148]? = some (.cells #[.int .i64 0, .int .i64 0, .int .i64 0, .int .i64 0] 62 (0, 0))) ∧ (Below w.heap.size w w')) ?_ ?_
         rotate_left
         ·intro hJ4
          refine join_ (σ := Nat) 6 y4_17 (fun s_ => [(5, .pointer (some ⟨s_, 0, none⟩))]) (fun s_ w' => (w'.cell? ⟨gb146, 0, none⟩ = some (.int .i64 a0_0) ∧ w'.cell? ⟨gb146, 1, none⟩ = some (.int .i64 a0_1) ∧ w'.cell? ⟨gb146, 2, none⟩ = some (.int .i64 a0_2) ∧ w'.cell? ⟨gb146, 3, none⟩ = some (.int .i64 a0_3) ∧ w'.cell? ⟨gb147, 0, none⟩ = some (.int .i64 a1_0) ∧ w'.cell? ⟨gb147, 1, none⟩ = some (.int .i64 a1_1) ∧ w'.cell? ⟨gb147, 2, none⟩ = some (.int .i64 a1_2) ∧ w'.cell? ⟨gb147, 3, none⟩ = some (.int .i64 a1_3)) ∧ (w'.heap[gb146]? = some (.cells #[.int .i64 a0_0, .int .i64 a0_1, .int .i64 a0_2, .int .i64 a0_3] 62 (0, 0))) ∧ (w'.heap[gb147]? = some (.cells #[.int .i64 a1_0, .int .i64 a1_1, .int .i64 a1_2, .int .i64 a1_3] 62 (0, 0))) ∧ (w'.heap[gb148]? = some (.cells #[.int .i64 0, .int .i64 0, .int .i64 0, .int .i64 0] 62 (0, 0))) ∧ (w'.heap[s_]? = some (.cells #[.int .i64 0, .int .i64 0, .int .i64 0, .int .i64 0] 62 (0, 0))) ∧ (w.heap.size ≤ s_) ∧ (w.heap.size ≤ s_) ∧ (gb146 ≠ s_) ∧ (s_ ≠ gb146) ∧ (gb147 ≠ s_) ∧ (s_ ≠ gb147) ∧ (gb148 ≠ s_) ∧ (s_ ≠ gb148) ∧ (Below w.heap.size w w')) ?_ ?_
          rotate_left
          ·intro hJ21
           refine two_ (i := 4) (j := 21) (Ni := some 10) (Nj := some 5) y4_18 y4_17 rfl rfl rfl rfl (two_of HT_.out (by kernel_rfl)) (by decide) (by decide) (fun K hK => ?_) (fun K hK => ?_)
           ·skip
            refine goes_ Try.func144 (by kernel_rfl) rfl #[.int .i64 a0_0, .int .i64 a1_0] (by rfl) rfl rfl z4_36 ?_
            with_reducible refine (spec_l05Most.calls a0_0 a1_0 t149 _ A3.out).mono ?_
            rintro e w' ⟨rfl, ⟨nd, rfl⟩⟩
            refine ⟨_, rfl, ?_⟩
            refine hK.out _ _ ⟨(blk_cell BK146.out 0).trans rfl, (blk_cell BK146.out 1).trans rfl, (blk_cell BK146.out 2).trans rfl, (blk_cell BK146.out 3).trans rfl, (blk_cell BK147.out 0).trans rfl, (blk_cell BK147.out 1).trans rfl, (blk_cell BK147.out 2).trans rfl, (blk_cell BK147.out 3).trans rfl⟩ (fun hHeld => ?_)
            clear hK K
            refine norm_ (a' := ?_) ?_ ?_
            rotate_left
            ·show Act.put _ (some 10) _ = _
             simp only [Act.put, List.setIfInBounds_toArray, List.set_cons_zero, List.set_cons_succ, i64_w, i32_w]
             rfl
            exact norm_ z4_35 (hJ4 () _ ⟨hHeld, z4_31, z4_32, z4_33, z4_30⟩)
           ·skip
            refine box_step ?hg (N := 5) ?hd (cs := #[.int .i64 0, .int .i64 0, .int .i64 0, .int .i64 0]) (t := 62) ?hr ?_; (case hd => rfl); (case hg => rfl); (case hr => first | (go_simp; done) | (go_simp; rfl))
            intro gb153 hg w13 hbox hb
            have n0_ := Aside0.mk (blk_belowB BK146 z4_31 hb)
            have n1_ := Aside0.mk (blk_belowB BK147 z4_32 hb)
            have n2_ := Aside0.mk (blk_belowB BK148 z4_33 hb)
            have n3_ := Aside0.mk (below_step z4_30 hb)
            have n4_ := Aside0.mk (hbox)
            have n5_ := Aside0.mk ((by rw [hg]; exact (below_size z4_30) : w.heap.size ≤ gb153))
            have n6_ := Aside0.mk ((by rw [hg]; exact (below_size z4_30) : w.heap.size ≤ gb153))
            have n7_ := Aside0.mk ((by rw [hg]; exact Nat.ne_of_lt (blk_ltB BK146 z4_31) : gb146 ≠ gb153))
            have n8_ := Aside0.mk ((by rw [hg]; exact Nat.ne_of_gt (blk_ltB BK146 z4_31) : gb153 ≠ gb146))
            have n9_ := Aside0.mk ((by rw [hg]; exact Nat.ne_of_lt (blk_ltB BK147 z4_32) : gb147 ≠ gb153))
            have n10_ := Aside0.mk ((by rw [hg]; exact Nat.ne_of_gt (blk_ltB BK147 z4_32) : gb153 ≠ gb147))
            have n11_ := Aside0.mk ((by rw [hg]; exact Nat.ne_of_lt (blk_ltB BK148 z4_33) : gb148 ≠ gb153))
            have n12_ := Aside0.mk ((by rw [hg]; exact Nat.ne_of_gt (blk_ltB BK148 z4_33) : gb153 ≠ gb148))
            clear BK146; clear BK147; clear BK148; clear HB; have BK146 := n0_; have BK147 := n1_; have BK148 := n2_; have HB := n3_; have BK153 := n4_; have GW153 := n5_; have GE153 := n6_; have NB146_153 := n7_; have NB153_146 := n8_; have NB147_153 := n9_; have NB153_147 := n10_; have NB148_153 := n11_; have NB153_148 := n12_; clear n0_ n1_ n2_ n3_ n4_ n5_ n6_ n7_ n8_ n9_ n10_ n11_ n12_; clear hb hbox hg
            refine hK.out _ _ ⟨(blk_cell BK146.out 0).trans rfl, (blk_cell BK146.out 1).trans rfl, (blk_cell BK146.out 2).trans rfl, (blk_cell BK146.out 3).trans rfl, (blk_cell BK147.out 0).trans rfl, (blk_cell BK147.out 1).trans rfl, (blk_cell BK147.out 2).trans rfl, (blk_cell BK147.out 3).trans rfl⟩ (fun hHeld => ?_)
            clear hK K
            refine norm_ (a' := ?_) ?_ ?_
            rotate_left
            ·show Act.put _ (some 5) _ = _
             simp only [Act.put, List.setIfInBounds_toArray, List.set_cons_zero, List.set_cons_succ, i64_w, i32_w]
             rfl
            exact norm_ z4_35 (hJ21 (gb153) _ ⟨hHeld, z4_31, z4_32, z4_33, z4_37, GW153.out, GE153.out, NB146_153.out, NB153_146.out, NB147_153.out, NB153_147.out, NB148_153.out, NB153_148.out, z4_34⟩)
          ·skip
           rintro gb153 w14 ⟨hS_, h0_, h1_, h2_, h3_, h4_, h5_, h6_, h7_, h8_, h9_, h10_, h11_, h12_⟩
           have n0_ : Aside0 (w14.heap[gb146]? = some (.cells #[.int .i64 a0_0, .int .i64 a0_1, .int .i64 a0_2, .int .i64 a0_3] 62 (0, 0))) := ⟨h0_⟩
           have n1_ : Aside0 (w14.heap[gb147]? = some (.cells #[.int .i64 a1_0, .int .i64 a1_1, .int .i64 a1_2, .int .i64 a1_3] 62 (0, 0))) := ⟨h1_⟩
           have n2_ : Aside0 (w14.heap[gb148]? = some (.cells #[.int .i64 0, .int .i64 0, .int .i64 0, .int .i64 0] 62 (0, 0))) := ⟨h2_⟩
           have n3_ : Aside0 (w14.heap[gb153]? = some (.cells #[.int .i64 0, .int .i64 0, .int .i64 0, .int .i64 0] 62 (0, 0))) := ⟨h3_⟩
           have n4_ : Aside0 (w.heap.size ≤ gb153) := ⟨h4_⟩
           have n5_ : Aside0 (w.heap.size ≤ gb153) := ⟨h5_⟩
           have n6_ : Aside0 (gb146 ≠ gb153) := ⟨h6_⟩
           have n7_ : Aside0 (gb153 ≠ gb146) := ⟨h7_⟩
           have n8_ : Aside0 (gb147 ≠ gb153) := ⟨h8_⟩
           have n9_ : Aside0 (gb153 ≠ gb147) := ⟨h9_⟩
           have n10_ : Aside0 (gb148 ≠ gb153) := ⟨h10_⟩
           have n11_ : Aside0 (gb153 ≠ gb148) := ⟨h11_⟩
           have n12_ : Aside0 (Below w.heap.size w w14) := ⟨h12_⟩
           clear BK146; clear BK147; clear BK148; clear HB; clear h0_ h1_ h2_ h3_ h4_ h5_ h6_ h7_ h8_ h9_ h10_ h11_ h12_; have BK146 := n0_; have BK147 := n1_; have BK148 := n2_; have BK153 := n3_; have GW153 := n4_; have GE153 := n5_; have NB146_153 := n6_; have NB153_146 := n7_; have NB147_153 := n8_; have NB153_147 := n9_; have NB148_153 := n10_; have NB153_148 := n11_; have HB := n12_; clear n0_ n1_ n2_ n3_ n4_ n5_ n6_ n7_ n8_ n9_ n10_ n11_ n12_
           have hHeld : w14.cell? ⟨gb146, 0, none⟩ = some (.int .i64 a0_0) ∧ w14.cell? ⟨gb146, 1, none⟩ = some (.int .i64 a0_1) ∧ w14.cell? ⟨gb146, 2, none⟩ = some (.int .i64 a0_2) ∧ w14.cell? ⟨gb146, 3, none⟩ = some (.int .i64 a0_3) ∧ w14.cell? ⟨gb147, 0, none⟩ = some (.int .i64 a1_0) ∧ w14.cell? ⟨gb147, 1, none⟩ = some (.int .i64 a1_1) ∧ w14.cell? ⟨gb147, 2, none⟩ = some (.int .i64 a1_2) ∧ w14.cell? ⟨gb147, 3, none⟩ = some (.int .i64 a1_3) := hS_
           refine norm_ (a' := ?_) ?_ ?_
           rotate_left
           ·simp only [putAll, Act.put, List.setIfInBounds_toArray, List.set_cons_zero, List.set_cons_succ]
            rfl
           refine one_ (i := 4) (N := some 10) y4_19 rfl rfl (one_of HT_.out (by kernel_rfl)) (by decide) (fun K hK => ?_)
           refine goes_ Try.func144 (by kernel_rfl) rfl #[.int .i64 a0_0, .int .i64 a1_0] (by rfl) rfl rfl z4_36 ?_
           with_reducible refine (spec_l05Most.calls a0_0 a1_0 t149 _ A3.out).mono ?_
           rintro e w' ⟨rfl, ⟨nd, rfl⟩⟩
           refine ⟨_, rfl, ?_⟩
           refine hK.out _ _ ⟨(blk_cell BK146.out 0).trans rfl, (blk_cell BK146.out 1).trans rfl, (blk_cell BK146.out 2).trans rfl, (blk_cell BK146.out 3).trans rfl, (blk_cell BK147.out 0).trans rfl, (blk_cell BK147.out 1).trans rfl, (blk_cell BK147.out 2).trans rfl, (blk_cell BK147.out 3).trans rfl⟩ (fun hHeld => ?_)
           clear hK K
           refine norm_ (a' := ?_) ?_ ?_
           rotate_left
           ·show Act.put _ (some 10) _ = _
            simp only [Act.put, List.setIfInBounds_toArray, List.set_cons_zero, List.set_cons_succ, i64_w, i32_w]
            rfl
           exact norm_ z4_35 (hJ4_21 (gb153) _ ⟨hHeld, z4_31, z4_32, z4_33, z4_37, GW153.out, GE153.out, NB146_153.out, NB153_146.out, NB147_153.out, NB153_147.out, NB148_153.out, NB153_148.out, z4_34⟩)
         ·skip
          rintro _ w13 ⟨hS_, h0_, h1_, h2_, h3_⟩
          have n0_ : Aside0 (w13.heap[gb146]? = some (.cells #[.int .i64 a0_0, .int .i64 a0_1, .int .i64 a0_2, .int .i64 a0_3] 62 (0, 0))) := ⟨h0_⟩
          have n1_ : Aside0 (w13.heap[gb147]? = some (.cells #[.int .i64 a1_0, .int .i64 a1_1, .int .i64 a1_2, .int .i64 a1_3] 62 (0, 0))) := ⟨h1_⟩
          have n2_ : Aside0 (w13.heap[gb148]? = some (.cells #[.int .i64 0, .int .i64 0, .int .i64 0, .int .i64 0] 62 (0, 0))) := ⟨h2_⟩
          have n3_ : Aside0 (Below w.heap.size w w13) := ⟨h3_⟩
          clear BK146; clear BK147; clear BK148; clear HB; clear h0_ h1_ h2_ h3_; have BK146 := n0_; have BK147 := n1_; have BK148 := n2_; have HB := n3_; clear n0_ n1_ n2_ n3_
          have hHeld : w13.cell? ⟨gb146, 0, none⟩ = some (.int .i64 a0_0) ∧ w13.cell? ⟨gb146, 1, none⟩ = some (.int .i64 a0_1) ∧ w13.cell? ⟨gb146, 2, none⟩ = some (.int .i64 a0_2) ∧ w13.cell? ⟨gb146, 3, none⟩ = some (.int .i64 a0_3) ∧ w13.cell? ⟨gb147, 0, none⟩ = some (.int .i64 a1_0) ∧ w13.cell? ⟨gb147, 1, none⟩ = some (.int .i64 a1_1) ∧ w13.cell? ⟨gb147, 2, none⟩ = some (.int .i64 a1_2) ∧ w13.cell? ⟨gb147, 3, none⟩ = some (.int .i64 a1_3) := hS_
          refine norm_ (a' := ?_) ?_ ?_
          rotate_left
          ·simp only [putAll, Act.put, List.setIfInBounds_toArray, List.set_cons_zero, List.set_cons_succ]
           rfl
          refine two_ (i := 9) (j := 21) (Ni := some 15) (Nj := some 5) y4_20 y4_19 rfl rfl rfl rfl (two_of HT_.out (by kernel_rfl)) (by decide) (by decide) (fun K hK => ?_) (fun K hK => ?_)
          ·skip
           refine goes_ Try.func144 (by kernel_rfl) rfl #[.int .i64 a0_1, .int .i64 a1_1] (by rfl) rfl rfl z4_36 ?_
           with_reducible refine (spec_l05Most.calls a0_1 a1_1 t150 _ A4.out).mono ?_
           rintro e w' ⟨rfl, ⟨nd, rfl⟩⟩
           refine ⟨_, rfl, ?_⟩
           refine hK.out _ _ ⟨(blk_cell BK146.out 0).trans rfl, (blk_cell BK146.out 1).trans rfl, (blk_cell BK146.out 2).trans rfl, (blk_cell BK146.out 3).trans rfl, (blk_cell BK147.out 0).trans rfl, (blk_cell BK147.out 1).trans rfl, (blk_cell BK147.out 2).trans rfl, (blk_cell BK147.out 3).trans rfl⟩ (fun hHeld => ?_)
           clear hK K
           refine norm_ (a' := ?_) ?_ ?_
           rotate_left
           ·show Act.put _ (some 15) _ = _
            simp only [Act.put, List.setIfInBounds_toArray, List.set_cons_zero, List.set_cons_succ, i64_w, i32_w]
            rfl
           exact norm_ z4_35 (hJ4_9 () _ ⟨hHeld, z4_31, z4_32, z4_33, z4_30⟩)
          ·skip
           refine box_step ?hg (N := 5) ?hd (cs := #[.int .i64 0, .int .i64 0, .int .i64 0, .int .i64 0]) (t := 62) ?hr ?_; (case hd => rfl); (case hg => rfl); (case hr => first | (go_simp; done) | (go_simp; rfl))
           intro gb153 hg w14 hbox hb
           have n0_ := Aside0.mk (blk_belowB BK146 z4_31 hb)
           have n1_ := Aside0.mk (blk_belowB BK147 z4_32 hb)
           have n2_ := Aside0.mk (blk_belowB BK148 z4_33 hb)
           have n3_ := Aside0.mk (below_step z4_30 hb)
           have n4_ := Aside0.mk (hbox)
           have n5_ := Aside0.mk ((by rw [hg]; exact (below_size z4_30) : w.heap.size ≤ gb153))
           have n6_ := Aside0.mk ((by rw [hg]; exact (below_size z4_30) : w.heap.size ≤ gb153))
           have n7_ := Aside0.mk ((by rw [hg]; exact Nat.ne_of_lt (blk_ltB BK146 z4_31) : gb146 ≠ gb153))
           have n8_ := Aside0.mk ((by rw [hg]; exact Nat.ne_of_gt (blk_ltB BK146 z4_31) : gb153 ≠ gb146))
           have n9_ := Aside0.mk ((by rw [hg]; exact Nat.ne_of_lt (blk_ltB BK147 z4_32) : gb147 ≠ gb153))
           have n10_ := Aside0.mk ((by rw [hg]; exact Nat.ne_of_gt (blk_ltB BK147 z4_32) : gb153 ≠ gb147))
           have n11_ := Aside0.mk ((by rw [hg]; exact Nat.ne_of_lt (blk_ltB BK148 z4_33) : gb148 ≠ gb153))
           have n12_ := Aside0.mk ((by rw [hg]; exact Nat.ne_of_gt (blk_ltB BK148 z4_33) : gb153 ≠ gb148))
           clear BK146; clear BK147; clear BK148; clear HB; have BK146 := n0_; have BK147 := n1_; have BK148 := n2_; have HB := n3_; have BK153 := n4_; have GW153 := n5_; have GE153 := n6_; have NB146_153 := n7_; have NB153_146 := n8_; have NB147_153 := n9_; have NB153_147 := n10_; have NB148_153 := n11_; have NB153_148 := n12_; clear n0_ n1_ n2_ n3_ n4_ n5_ n6_ n7_ n8_ n9_ n10_ n11_ n12_; clear hb hbox hg
           refine hK.out _ _ ⟨(blk_cell BK146.out 0).trans rfl, (blk_cell BK146.out 1).trans rfl, (blk_cell BK146.out 2).trans rfl, (blk_cell BK146.out 3).trans rfl, (blk_cell BK147.out 0).trans rfl, (blk_cell BK147.out 1).trans rfl, (blk_cell BK147.out 2).trans rfl, (blk_cell BK147.out 3).trans rfl⟩ (fun hHeld => ?_)
           clear hK K
           refine norm_ (a' := ?_) ?_ ?_
           rotate_left
           ·show Act.put _ (some 5) _ = _
            simp only [Act.put, List.setIfInBounds_toArray, List.set_cons_zero, List.set_cons_succ, i64_w, i32_w]
            rfl
           exact norm_ z4_35 (hJ4_21 (gb153) _ ⟨hHeld, z4_31, z4_32, z4_33, z4_37, GW153.out, GE153.out, NB146_153.out, NB153_146.out, NB147_153.out, NB153_147.out, NB148_153.out, NB153_148.out, z4_34⟩)
        ·skip
         rintro gb153 w14 ⟨hS_, h0_, h1_, h2_, h3_, h4_, h5_, h6_, h7_, h8_, h9_, h10_, h11_, h12_⟩
         have n0_ : Aside0 (w14.heap[gb146]? = some (.cells #[.int .i64 a0_0, .int .i64 a0_1, .int .i64 a0_2, .int .i64 a0_3] 62 (0, 0))) := ⟨h0_⟩
         have n1_ : Aside0 (w14.heap[gb147]? = some (.cells #[.int .i64 a1_0, .int .i64 a1_1, .int .i64 a1_2, .int .i64 a1_3] 62 (0, 0))) := ⟨h1_⟩
         have n2_ : Aside0 (w14.heap[gb148]? = some (.cells #[.int .i64 0, .int .i64 0, .int .i64 0, .int .i64 0] 62 (0, 0))) := ⟨h2_⟩
         have n3_ : Aside0 (w14.heap[gb153]? = some (.cells #[.int .i64 0, .int .i64 0, .int .i64 0, .int .i64 0] 62 (0, 0))) := ⟨h3_⟩
         have n4_ : Aside0 (w.heap.size ≤ gb153) := ⟨h4_⟩
         have n5_ : Aside0 (w.heap.size ≤ gb153) := ⟨h5_⟩
         have n6_ : Aside0 (gb146 ≠ gb153) := ⟨h6_⟩
         have n7_ : Aside0 (gb153 ≠ gb146) := ⟨h7_⟩
         have n8_ : Aside0 (gb147 ≠ gb153) := ⟨h8_⟩
         have n9_ : Aside0 (gb153 ≠ gb147) := ⟨h9_⟩
         have n10_ : Aside0 (gb148 ≠ gb153) := ⟨h10_⟩
         have n11_ : Aside0 (gb153 ≠ gb148) := ⟨h11_⟩
         have n12_ : Aside0 (Below w.heap.size w w14) := ⟨h12_⟩
         clear BK146; clear BK147; clear BK148; clear HB; clear h0_ h1_ h2_ h3_ h4_ h5_ h6_ h7_ h8_ h9_ h10_ h11_ h12_; have BK146 := n0_; have BK147 := n1_; have BK148 := n2_; have BK153 := n3_; have GW153 := n4_; have GE153 := n5_; have NB146_153 := n6_; have NB153_146 := n7_; have NB147_153 := n8_; have NB153_147 := n9_; have NB148_153 := n10_; have NB153_148 := n11_; have HB := n12_; clear n0_ n1_ n2_ n3_ n4_ n5_ n6_ n7_ n8_ n9_ n10_ n11_ n12_
         have hHeld : w14.cell? ⟨gb146, 0, none⟩ = some (.int .i64 a0_0) ∧ w14.cell? ⟨gb146, 1, none⟩ = some (.int .i64 a0_1) ∧ w14.cell? ⟨gb146, 2, none⟩ = some (.int .i64 a0_2) ∧ w14.cell? ⟨gb146, 3, none⟩ = some (.int .i64 a0_3) ∧ w14.cell? ⟨gb147, 0, none⟩ = some (.int .i64 a1_0) ∧ w14.cell? ⟨gb147, 1, none⟩ = some (.int .i64 a1_1) ∧ w14.cell? ⟨gb147, 2, none⟩ = some (.int .i64 a1_2) ∧ w14.cell? ⟨gb147, 3, none⟩ = some (.int .i64 a1_3) := hS_
         refine norm_ (a' := ?_) ?_ ?_
         rotate_left
         ·simp only [putAll, Act.put, List.setIfInBounds_toArray, List.set_cons_zero, List.set_cons_succ]
          rfl
         refine one_ (i := 9) (N := some 15) y4_21 rfl rfl (one_of HT_.out (by kernel_rfl)) (by decide) (fun K hK => ?_)
         refine goes_ Try.func144 (by kernel_rfl) rfl #[.int .i64 a0_1, .int .i64 a1_1] (by rfl) rfl rfl z4_36 ?_
         with_reducible refine (spec_l05Most.calls a0_1 a1_1 t150 _ A4.out).mono ?_
         rintro e w' ⟨rfl, ⟨nd, rfl⟩⟩
         refine ⟨_, rfl, ?_⟩
         refine hK.out _ _ ⟨(blk_cell BK146.out 0).trans rfl, (blk_cell BK146.out 1).trans rfl, (blk_cell BK146.out 2).trans rfl, (blk_cell BK146.out 3).trans rfl, (blk_cell BK147.out 0).trans rfl, (blk_cell BK147.out 1).trans rfl, (blk_cell BK147.out 2).trans rfl, (blk_cell BK147.out 3).trans rfl⟩ (fun hHeld => ?_)
         clear hK K
         refine norm_ (a' := ?_) ?_ ?_
         rotate_left
         ·show Act.put _ (some 15) _ = _
          simp only [Act.put, List.setIfInBounds_toArray, List.set_cons_zero, List.set_cons_succ, i64_w, i32_w]
          rfl
         exact norm_ z4_35 (hJ4_9_21 (gb153) _ ⟨hHeld, z4_31, z4_32, z4_33, z4_37, GW153.out, GE153.out, NB146_153.out, NB153_146.out, NB147_153.out, NB153_147.out, NB148_153.out, NB153_148.out, z4_34⟩)
       ·skip
        rintro _ w13 ⟨hS_, h0_, h1_, h2_, h3_⟩
        have n0_ : Aside0 (w13.heap[gb146]? = some (.cells #[.int .i64 a0_0, .int .i64 a0_1, .int .i64 a0_2, .int .i64 a0_3] 62 (0, 0))) := ⟨h0_⟩
        have n1_ : Aside0 (w13.heap[gb147]? = some (.cells #[.int .i64 a1_0, .int .i64 a1_1, .int .i64 a1_2, .int .i64 a1_3] 62 (0, 0))) := ⟨h1_⟩
        have n2_ : Aside0 (w13.heap[gb148]? = some (.cells #[.int .i64 0, .int .i64 0, .int .i64 0, .int .i64 0] 62 (0, 0))) := ⟨h2_⟩
        have n3_ : Aside0 (Below w.heap.size w w13) := ⟨h3_⟩
        clear BK146; clear BK147; clear BK148; clear HB; clear h0_ h1_ h2_ h3_; have BK146 := n0_; have BK147 := n1_; have BK148 := n2_; have HB := n3_; clear n0_ n1_ n2_ n3_
        have hHeld : w13.cell? ⟨gb146, 0, none⟩ = some (.int .i64 a0_0) ∧ w13.cell? ⟨gb146, 1, none⟩ = some (.int .i64 a0_1) ∧ w13.cell? ⟨gb146, 2, none⟩ = some (.int .i64 a0_2) ∧ w13.cell? ⟨gb146, 3, none⟩ = some (.int .i64 a0_3) ∧ w13.cell? ⟨gb147, 0, none⟩ = some (.int .i64 a1_0) ∧ w13.cell? ⟨gb147, 1, none⟩ = some (.int .i64 a1_1) ∧ w13.cell? ⟨gb147, 2, none⟩ = some (.int .i64 a1_2) ∧ w13.cell? ⟨gb147, 3, none⟩ = some (.int .i64 a1_3) := hS_
        refine norm_ (a' := ?_) ?_ ?_
        rotate_left
        ·simp only [putAll, Act.put, List.setIfInBounds_toArray, List.set_cons_zero, List.set_cons_succ]
         rfl
        refine two_ (i := 14) (j := 21) (Ni := some 20) (Nj := some 5) y4_22 y4_21 rfl rfl rfl rfl (two_of HT_.out (by kernel_rfl)) (by decide) (by decide) (fun K hK => ?_) (fun K hK => ?_)
        ·skip
         refine goes_ Try.func145 (by kernel_rfl) rfl #[.int .i64 a0_2, .int .i64 a1_2] (by rfl) rfl rfl z4_36 ?_
         with_reducible refine (spec_l05Least.calls a0_2 a1_2 t151 _ A5.out).mono ?_
         rintro e w' ⟨rfl, ⟨nd, rfl⟩⟩
         refine ⟨_, rfl, ?_⟩
         refine hK.out _ _ ⟨(blk_cell BK146.out 0).trans rfl, (blk_cell BK146.out 1).trans rfl, (blk_cell BK146.out 2).trans rfl, (blk_cell BK146.out 3).trans rfl, (blk_cell BK147.out 0).trans rfl, (blk_cell BK147.out 1).trans rfl, (blk_cell BK147.out 2).trans rfl, (blk_cell BK147.out 3).trans rfl⟩ (fun hHeld => ?_)
         clear hK K
         refine norm_ (a' := ?_) ?_ ?_
         rotate_left
         ·show Act.put _ (some 20) _ = _
          simp only [Act.put, List.setIfInBounds_toArray, List.set_cons_zero, List.set_cons_succ, i64_w, i32_w]
          rfl
         exact norm_ z4_35 (hJ4_9_14 () _ ⟨hHeld, z4_31, z4_32, z4_33, z4_30⟩)
        ·skip
         refine box_step ?hg (N := 5) ?hd (cs := #[.int .i64 0, .int .i64 0, .int .i64 0, .int .i64 0]) (t := 62) ?hr ?_; (case hd => rfl); (case hg => rfl); (case hr => first | (go_simp; done) | (go_simp; rfl))
         intro gb153 hg w14 hbox hb
         have n0_ := Aside0.mk (blk_belowB BK146 z4_31 hb)
         have n1_ := Aside0.mk (blk_belowB BK147 z4_32 hb)
         have n2_ := Aside0.mk (blk_belowB BK148 z4_33 hb)
         have n3_ := Aside0.mk (below_step z4_30 hb)
         have n4_ := Aside0.mk (hbox)
         have n5_ := Aside0.mk ((by rw [hg]; exact (below_size z4_30) : w.heap.size ≤ gb153))
         have n6_ := Aside0.mk ((by rw [hg]; exact (below_size z4_30) : w.heap.size ≤ gb153))
         have n7_ := Aside0.mk ((by rw [hg]; exact Nat.ne_of_lt (blk_ltB BK146 z4_31) : gb146 ≠ gb153))
         have n8_ := Aside0.mk ((by rw [hg]; exact Nat.ne_of_gt (blk_ltB BK146 z4_31) : gb153 ≠ gb146))
         have n9_ := Aside0.mk ((by rw [hg]; exact Nat.ne_of_lt (blk_ltB BK147 z4_32) : gb147 ≠ gb153))
         have n10_ := Aside0.mk ((by rw [hg]; exact Nat.ne_of_gt (blk_ltB BK147 z4_32) : gb153 ≠ gb147))
         have n11_ := Aside0.mk ((by rw [hg]; exact Nat.ne_of_lt (blk_ltB BK148 z4_33) : gb148 ≠ gb153))
         have n12_ := Aside0.mk ((by rw [hg]; exact Nat.ne_of_gt (blk_ltB BK148 z4_33) : gb153 ≠ gb148))
         clear BK146; clear BK147; clear BK148; clear HB; have BK146 := n0_; have BK147 := n1_; have BK148 := n2_; have HB := n3_; have BK153 := n4_; have GW153 := n5_; have GE153 := n6_; have NB146_153 := n7_; have NB153_146 := n8_; have NB147_153 := n9_; have NB153_147 := n10_; have NB148_153 := n11_; have NB153_148 := n12_; clear n0_ n1_ n2_ n3_ n4_ n5_ n6_ n7_ n8_ n9_ n10_ n11_ n12_; clear hb hbox hg
         refine hK.out _ _ ⟨(blk_cell BK146.out 0).trans rfl, (blk_cell BK146.out 1).trans rfl, (blk_cell BK146.out 2).trans rfl, (blk_cell BK146.out 3).trans rfl, (blk_cell BK147.out 0).trans rfl, (blk_cell BK147.out 1).trans rfl, (blk_cell BK147.out 2).trans rfl, (blk_cell BK147.out 3).trans rfl⟩ (fun hHeld => ?_)
         clear hK K
         refine norm_ (a' := ?_) ?_ ?_
         rotate_left
         ·show Act.put _ (some 5) _ = _
          simp only [Act.put, List.setIfInBounds_toArray, List.set_cons_zero, List.set_cons_succ, i64_w, i32_w]
          rfl
         exact norm_ z4_35 (hJ4_9_21 (gb153) _ ⟨hHeld, z4_31, z4_32, z4_33, z4_37, GW153.out, GE153.out, NB146_153.out, NB153_146.out, NB147_153.out, NB153_147.out, NB148_153.out, NB153_148.out, z4_34⟩)
      ·skip
       rintro gb153 w14 ⟨hS_, h0_, h1_, h2_, h3_, h4_, h5_, h6_, h7_, h8_, h9_, h10_, h11_, h12_⟩
       have n0_ : Aside0 (w14.heap[gb146]? = some (.cells #[.int .i64 a0_0, .int .i64 a0_1, .int .i64 a0_2, .int .i64 a0_3] 62 (0, 0))) := ⟨h0_⟩
       have n1_ : Aside0 (w14.heap[gb147]? = some (.cells #[.int .i64 a1_0, .int .i64 a1_1, .int .i64 a1_2, .int .i64 a1_3] 62 (0, 0))) := ⟨h1_⟩
       have n2_ : Aside0 (w14.heap[gb148]? = some (.cells #[.int .i64 0, .int .i64 0, .int .i64 0, .int .i64 0] 62 (0, 0))) := ⟨h2_⟩
       have n3_ : Aside0 (w14.heap[gb153]? = some (.cells #[.int .i64 0, .int .i64 0, .int .i64 0, .int .i64 0] 62 (0, 0))) := ⟨h3_⟩
       have n4_ : Aside0 (w.heap.size ≤ gb153) := ⟨h4_⟩
       have n5_ : Aside0 (w.heap.size ≤ gb153) := ⟨h5_⟩
       have n6_ : Aside0 (gb146 ≠ gb153) := ⟨h6_⟩
       have n7_ : Aside0 (gb153 ≠ gb146) := ⟨h7_⟩
       have n8_ : Aside0 (gb147 ≠ gb153) := ⟨h8_⟩
       have n9_ : Aside0 (gb153 ≠ gb147) := ⟨h9_⟩
       have n10_ : Aside0 (gb148 ≠ gb153) := ⟨h10_⟩
       have n11_ : Aside0 (gb153 ≠ gb148) := ⟨h11_⟩
       have n12_ : Aside0 (Below w.heap.size w w14) := ⟨h12_⟩
       clear BK146; clear BK147; clear BK148; clear HB; clear h0_ h1_ h2_ h3_ h4_ h5_ h6_ h7_ h8_ h9_ h10_ h11_ h12_; have BK146 := n0_; have BK147 := n1_; have BK148 := n2_; have BK153 := n3_; have GW153 := n4_; have GE153 := n5_; have NB146_153 := n6_; have NB153_146 := n7_; have NB147_153 := n8_; have NB153_147 := n9_; have NB148_153 := n10_; have NB153_148 := n11_; have HB := n12_; clear n0_ n1_ n2_ n3_ n4_ n5_ n6_ n7_ n8_ n9_ n10_ n11_ n12_
       have hHeld : w14.cell? ⟨gb146, 0, none⟩ = some (.int .i64 a0_0) ∧ w14.cell? ⟨gb146, 1, none⟩ = some (.int .i64 a0_1) ∧ w14.cell? ⟨gb146, 2, none⟩ = some (.int .i64 a0_2) ∧ w14.cell? ⟨gb146, 3, none⟩ = some (.int .i64 a0_3) ∧ w14.cell? ⟨gb147, 0, none⟩ = some (.int .i64 a1_0) ∧ w14.cell? ⟨gb147, 1, none⟩ = some (.int .i64 a1_1) ∧ w14.cell? ⟨gb147, 2, none⟩ = some (.int .i64 a1_2) ∧ w14.cell? ⟨gb147, 3, none⟩ = some (.int .i64 a1_3) := hS_
       refine norm_ (a' := ?_) ?_ ?_
       rotate_left
       ·simp only [putAll, Act.put, List.setIfInBounds_toArray, List.set_cons_zero, List.set_cons_succ]
        rfl
       refine one_ (i := 14) (N := some 20) y4_23 rfl rfl (one_of HT_.out (by kernel_rfl)) (by decide) (fun K hK => ?_)
       refine goes_ Try.func145 (by kernel_rfl) rfl #[.int .i64 a0_2, .int .i64 a1_2] (by rfl) rfl rfl z4_36 ?_
       with_reducible refine (spec_l05Least.calls a0_2 a1_2 t151 _ A5.out).mono ?_
       rintro e w' ⟨rfl, ⟨nd, rfl⟩⟩
       refine ⟨_, rfl, ?_⟩
       refine hK.out _ _ ⟨(blk_cell BK146.out 0).trans rfl, (blk_cell BK146.out 1).trans rfl, (blk_cell BK146.out 2).trans rfl, (blk_cell BK146.out 3).trans rfl, (blk_cell BK147.out 0).trans rfl, (blk_cell BK147.out 1).trans rfl, (blk_cell BK147.out 2).trans rfl, (blk_cell BK147.out 3).trans rfl⟩ (fun hHeld => ?_)
       clear hK K
       refine norm_ (a' := ?_) ?_ ?_
       rotate_left
       ·show Act.put _ (some 20) _ = _
        simp only [Act.put, List.setIfInBounds_toArray, List.set_cons_zero, List.set_cons_succ, i64_w, i32_w]
        rfl
       exact norm_ z4_35 (hJ4_9_14_21 (gb153) _ ⟨hHeld, z4_31, z4_32, z4_33, z4_37, GW153.out, GE153.out, NB146_153.out, NB153_146.out, NB147_153.out, NB153_147.out, NB148_153.out, NB153_148.out, z4_34⟩)
     ·skip
      rintro _ w13 ⟨hS_, h0_, h1_, h2_, h3_⟩
      have n0_ : Aside0 (w13.heap[gb146]? = some (.cells #[.int .i64 a0_0, .int .i64 a0_1, .int .i64 a0_2, .int .i64 a0_3] 62 (0, 0))) := ⟨h0_⟩
      have n1_ : Aside0 (w13.heap[gb147]? = some (.cells #[.int .i64 a1_0, .int .i64 a1_1, .int .i64 a1_2, .int .i64 a1_3] 62 (0, 0))) := ⟨h1_⟩
      have n2_ : Aside0 (w13.heap[gb148]? = some (.cells #[.int .i64 0, .int .i64 0, .int .i64 0, .int .i64 0] 62 (0, 0))) := ⟨h2_⟩
      have n3_ : Aside0 (Below w.heap.size w w13) := ⟨h3_⟩
      clear BK146; clear BK147; clear BK148; clear HB; clear h0_ h1_ h2_ h3_; have BK146 := n0_; have BK147 := n1_; have BK148 := n2_; have HB := n3_; clear n0_ n1_ n2_ n3_
      have hHeld : w13.cell? ⟨gb146, 0, none⟩ = some (.int .i64 a0_0) ∧ w13.cell? ⟨gb146, 1, none⟩ = some (.int .i64 a0_1) ∧ w13.cell? ⟨gb146, 2, none⟩ = some (.int .i64 a0_2) ∧ w13.cell? ⟨gb146, 3, none⟩ = some (.int .i64 a0_3) ∧ w13.cell? ⟨gb147, 0, none⟩ = some (.int .i64 a1_0) ∧ w13.cell? ⟨gb147, 1, none⟩ = some (.int .i64 a1_1) ∧ w13.cell? ⟨gb147, 2, none⟩ = some (.int .i64 a1_2) ∧ w13.cell? ⟨gb147, 3, none⟩ = some (.int .i64 a1_3) := hS_
      refine norm_ (a' := ?_) ?_ ?_
      rotate_left
      ·simp only [putAll, Act.put, List.setIfInBounds_toArray, List.set_cons_zero, List.set_cons_succ]
       rfl
      refine two_ (i := 19) (j := 21) (Ni := some 25) (Nj := some 5) y4_24 y4_23 rfl rfl rfl rfl (two_of HT_.out (by kernel_rfl)) (by decide) (by decide) (fun K hK => ?_) (fun K hK => ?_)
      ·skip
       refine goes_ Try.func145 (by kernel_rfl) rfl #[.int .i64 a0_3, .int .i64 a1_3] (by rfl) rfl rfl z4_36 ?_
       with_reducible refine (spec_l05Least.calls a0_3 a1_3 t152 _ A6.out).mono ?_
       rintro e w' ⟨rfl, ⟨nd, rfl⟩⟩
       refine ⟨_, rfl, ?_⟩
       refine hK.out _ _ ⟨(blk_cell BK146.out 0).trans rfl, (blk_cell BK146.out 1).trans rfl, (blk_cell BK146.out 2).trans rfl, (blk_cell BK146.out 3).trans rfl, (blk_cell BK147.out 0).trans rfl, (blk_cell BK147.out 1).trans rfl, (blk_cell BK147.out 2).trans rfl, (blk_cell BK147.out 3).trans rfl⟩ (fun hHeld => ?_)
       clear hK K
       refine norm_ (a' := ?_) ?_ ?_
       rotate_left
       ·show Act.put _ (some 25) _ = _
        simp only [Act.put, List.setIfInBounds_toArray, List.set_cons_zero, List.set_cons_succ, i64_w, i32_w]
        rfl
       refine pure_ (i := 20) (N := some 26) (v := ?_) (a' := ?_) y4_26 rfl rfl (any_of HT_.out (by kernel_rfl)) (fun _ _ _ h => h) (Or.inl ⟨by rfl, ?_⟩) ?_ ?_; rotate_left
       ·intro w'
        go_simp; with_reducible rfl
       rotate_left
       ·exact x4_put
       exact norm_ z4_35 (hJ4_9_14_19 () _ ⟨hHeld, z4_31, z4_32, z4_33, z4_30⟩)
      ·skip
       refine box_step ?hg (N := 5) ?hd (cs := #[.int .i64 0, .int .i64 0, .int .i64 0, .int .i64 0]) (t := 62) ?hr ?_; (case hd => rfl); (case hg => rfl); (case hr => first | (go_simp; done) | (go_simp; rfl))
       intro gb153 hg w14 hbox hb
       have n0_ := Aside0.mk (blk_belowB BK146 z4_31 hb)
       have n1_ := Aside0.mk (blk_belowB BK147 z4_32 hb)
       have n2_ := Aside0.mk (blk_belowB BK148 z4_33 hb)
       have n3_ := Aside0.mk (below_step z4_30 hb)
       have n4_ := Aside0.mk (hbox)
       have n5_ := Aside0.mk ((by rw [hg]; exact (below_size z4_30) : w.heap.size ≤ gb153))
       have n6_ := Aside0.mk ((by rw [hg]; exact (below_size z4_30) : w.heap.size ≤ gb153))
       have n7_ := Aside0.mk ((by rw [hg]; exact Nat.ne_of_lt (blk_ltB BK146 z4_31) : gb146 ≠ gb153))
       have n8_ := Aside0.mk ((by rw [hg]; exact Nat.ne_of_gt (blk_ltB BK146 z4_31) : gb153 ≠ gb146))
       have n9_ := Aside0.mk ((by rw [hg]; exact Nat.ne_of_lt (blk_ltB BK147 z4_32) : gb147 ≠ gb153))
       have n10_ := Aside0.mk ((by rw [hg]; exact Nat.ne_of_gt (blk_ltB BK147 z4_32) : gb153 ≠ gb147))
       have n11_ := Aside0.mk ((by rw [hg]; exact Nat.ne_of_lt (blk_ltB BK148 z4_33) : gb148 ≠ gb153))
       have n12_ := Aside0.mk ((by rw [hg]; exact Nat.ne_of_gt (blk_ltB BK148 z4_33) : gb153 ≠ gb148))
       clear BK146; clear BK147; clear BK148; clear HB; have BK146 := n0_; have BK147 := n1_; have BK148 := n2_; have HB := n3_; have BK153 := n4_; have GW153 := n5_; have GE153 := n6_; have NB146_153 := n7_; have NB153_146 := n8_; have NB147_153 := n9_; have NB153_147 := n10_; have NB148_153 := n11_; have NB153_148 := n12_; clear n0_ n1_ n2_ n3_ n4_ n5_ n6_ n7_ n8_ n9_ n10_ n11_ n12_; clear hb hbox hg
       refine hK.out _ _ ⟨(blk_cell BK146.out 0).trans rfl, (blk_cell BK146.out 1).trans rfl, (blk_cell BK146.out 2).trans rfl, (blk_cell BK146.out 3).trans rfl, (blk_cell BK147.out 0).trans rfl, (blk_cell BK147.out 1).trans rfl, (blk_cell BK147.out 2).trans rfl, (blk_cell BK147.out 3).trans rfl⟩ (fun hHeld => ?_)
       clear hK K
       refine norm_ (a' := ?_) ?_ ?_
       rotate_left
       ·show Act.put _ (some 5) _ = _
        simp only [Act.put, List.setIfInBounds_toArray, List.set_cons_zero, List.set_cons_succ, i64_w, i32_w]
        rfl
       exact norm_ z4_35 (hJ4_9_14_21 (gb153) _ ⟨hHeld, z4_31, z4_32, z4_33, z4_37, GW153.out, GE153.out, NB146_153.out, NB153_146.out, NB147_153.out, NB153_147.out, NB148_153.out, NB153_148.out, z4_34⟩)
    ·skip
     rintro gb153 w14 ⟨hS_, h0_, h1_, h2_, h3_, h4_, h5_, h6_, h7_, h8_, h9_, h10_, h11_, h12_⟩
     have n0_ : Aside0 (w14.heap[gb146]? = some (.cells #[.int .i64 a0_0, .int .i64 a0_1, .int .i64 a0_2, .int .i64 a0_3] 62 (0, 0))) := ⟨h0_⟩
     have n1_ : Aside0 (w14.heap[gb147]? = some (.cells #[.int .i64 a1_0, .int .i64 a1_1, .int .i64 a1_2, .int .i64 a1_3] 62 (0, 0))) := ⟨h1_⟩
     have n2_ : Aside0 (w14.heap[gb148]? = some (.cells #[.int .i64 0, .int .i64 0, .int .i64 0, .int .i64 0] 62 (0, 0))) := ⟨h2_⟩
     have n3_ : Aside0 (w14.heap[gb153]? = some (.cells #[.int .i64 0, .int .i64 0, .int .i64 0, .int .i64 0] 62 (0, 0))) := ⟨h3_⟩
     have n4_ : Aside0 (w.heap.size ≤ gb153) := ⟨h4_⟩
     have n5_ : Aside0 (w.heap.size ≤ gb153) := ⟨h5_⟩
     have n6_ : Aside0 (gb146 ≠ gb153) := ⟨h6_⟩
     have n7_ : Aside0 (gb153 ≠ gb146) := ⟨h7_⟩
     have n8_ : Aside0 (gb147 ≠ gb153) := ⟨h8_⟩
     have n9_ : Aside0 (gb153 ≠ gb147) := ⟨h9_⟩
     have n10_ : Aside0 (gb148 ≠ gb153) := ⟨h10_⟩
     have n11_ : Aside0 (gb153 ≠ gb148) := ⟨h11_⟩
     have n12_ : Aside0 (Below w.heap.size w w14) := ⟨h12_⟩
     clear BK146; clear BK147; clear BK148; clear HB; clear h0_ h1_ h2_ h3_ h4_ h5_ h6_ h7_ h8_ h9_ h10_ h11_ h12_; have BK146 := n0_; have BK147 := n1_; have BK148 := n2_; have BK153 := n3_; have GW153 := n4_; have GE153 := n5_; have NB146_153 := n6_; have NB153_146 := n7_; have NB147_153 := n8_; have NB153_147 := n9_; have NB148_153 := n10_; have NB153_148 := n11_; have HB := n12_; clear n0_ n1_ n2_ n3_ n4_ n5_ n6_ n7_ n8_ n9_ n10_ n11_ n12_
     have hHeld : w14.cell? ⟨gb146, 0, none⟩ = some (.int .i64 a0_0) ∧ w14.cell? ⟨gb146, 1, none⟩ = some (.int .i64 a0_1) ∧ w14.cell? ⟨gb146, 2, none⟩ = some (.int .i64 a0_2) ∧ w14.cell? ⟨gb146, 3, none⟩ = some (.int .i64 a0_3) ∧ w14.cell? ⟨gb147, 0, none⟩ = some (.int .i64 a1_0) ∧ w14.cell? ⟨gb147, 1, none⟩ = some (.int .i64 a1_1) ∧ w14.cell? ⟨gb147, 2, none⟩ = some (.int .i64 a1_2) ∧ w14.cell? ⟨gb147, 3, none⟩ = some (.int .i64 a1_3) := hS_
     refine norm_ (a' := ?_) ?_ ?_
     rotate_left
     ·simp only [putAll, Act.put, List.setIfInBounds_toArray, List.set_cons_zero, List.set_cons_succ]
      rfl
     refine one_ (i := 19) (N := some 25) y4_25 rfl rfl (one_of HT_.out (by kernel_rfl)) (by decide) (fun K hK => ?_)
     refine goes_ Try.func145 (by kernel_rfl) rfl #[.int .i64 a0_3, .int .i64 a1_3] (by rfl) rfl rfl z4_36 ?_
     with_reducible refine (spec_l05Least.calls a0_3 a1_3 t152 _ A6.out).mono ?_
     rintro e w' ⟨rfl, ⟨nd, rfl⟩⟩
     refine ⟨_, rfl, ?_⟩
     refine hK.out _ _ ⟨(blk_cell BK146.out 0).trans rfl, (blk_cell BK146.out 1).trans rfl, (blk_cell BK146.out 2).trans rfl, (blk_cell BK146.out 3).trans rfl, (blk_cell BK147.out 0).trans rfl, (blk_cell BK147.out 1).trans rfl, (blk_cell BK147.out 2).trans rfl, (blk_cell BK147.out 3).trans rfl⟩ (fun hHeld => ?_)
     clear hK K
     refine norm_ (a' := ?_) ?_ ?_
     rotate_left
     ·show Act.put _ (some 25) _ = _
      simp only [Act.put, List.setIfInBounds_toArray, List.set_cons_zero, List.set_cons_succ, i64_w, i32_w]
      rfl
     refine pure_ (i := 20) (N := some 26) (v := ?_) (a' := ?_) y4_27 rfl rfl (any_of HT_.out (by kernel_rfl)) (fun _ _ _ h => h) (Or.inl ⟨by rfl, ?_⟩) ?_ ?_; rotate_left
     ·intro w'
      go_simp; with_reducible rfl
     rotate_left
     ·exact x4_put
     exact norm_ z4_35 (hJ4_9_14_19_21 (gb153) _ ⟨hHeld, z4_31, z4_32, z4_33, z4_37, GW153.out, GE153.out, NB146_153.out, NB153_146.out, NB147_153.out, NB153_147.out, NB148_153.out, NB153_148.out, z4_34⟩)
   ·skip
    rintro _ w13 ⟨hS_, h0_, h1_, h2_, h3_⟩
    have n0_ : Aside0 (w13.heap[gb146]? = some (.cells #[.int .i64 a0_0, .int .i64 a0_1, .int .i64 a0_2, .int .i64 a0_3] 62 (0, 0))) := ⟨h0_⟩
    have n1_ : Aside0 (w13.heap[gb147]? = some (.cells #[.int .i64 a1_0, .int .i64 a1_1, .int .i64 a1_2, .int .i64 a1_3] 62 (0, 0))) := ⟨h1_⟩
    have n2_ : Aside0 (w13.heap[gb148]? = some (.cells #[.int .i64 0, .int .i64 0, .int .i64 0, .int .i64 0] 62 (0, 0))) := ⟨h2_⟩
    have n3_ : Aside0 (Below w.heap.size w w13) := ⟨h3_⟩
    clear BK146; clear BK147; clear BK148; clear HB; clear h0_ h1_ h2_ h3_; have BK146 := n0_; have BK147 := n1_; have BK148 := n2_; have HB := n3_; clear n0_ n1_ n2_ n3_
    have hHeld : w13.cell? ⟨gb146, 0, none⟩ = some (.int .i64 a0_0) ∧ w13.cell? ⟨gb146, 1, none⟩ = some (.int .i64 a0_1) ∧ w13.cell? ⟨gb146, 2, none⟩ = some (.int .i64 a0_2) ∧ w13.cell? ⟨gb146, 3, none⟩ = some (.int .i64 a0_3) ∧ w13.cell? ⟨gb147, 0, none⟩ = some (.int .i64 a1_0) ∧ w13.cell? ⟨gb147, 1, none⟩ = some (.int .i64 a1_1) ∧ w13.cell? ⟨gb147, 2, none⟩ = some (.int .i64 a1_2) ∧ w13.cell? ⟨gb147, 3, none⟩ = some (.int .i64 a1_3) := hS_
    refine norm_ (a' := ?_) ?_ ?_
    rotate_left
    ·simp only [putAll, Act.put, List.setIfInBounds_toArray, List.set_cons_zero, List.set_cons_succ]
     rfl
    refine one_ (i := 21) (N := some 5) y4_27 rfl rfl (one_of HT_.out (by kernel_rfl)) (by decide) (fun K hK => ?_)
    refine box_step ?hg (N := 5) ?hd (cs := #[.int .i64 0, .int .i64 0, .int .i64 0, .int .i64 0]) (t := 62) ?hr ?_; (case hd => rfl); (case hg => rfl); (case hr => first | (go_simp; done) | (go_simp; rfl))
    intro gb153 hg w14 hbox hb
    have n0_ := Aside0.mk (blk_belowB BK146 z4_31 hb)
    have n1_ := Aside0.mk (blk_belowB BK147 z4_32 hb)
    have n2_ := Aside0.mk (blk_belowB BK148 z4_33 hb)
    have n3_ := Aside0.mk (below_step z4_30 hb)
    have n4_ := Aside0.mk (hbox)
    have n5_ := Aside0.mk ((by rw [hg]; exact (below_size z4_30) : w.heap.size ≤ gb153))
    have n6_ := Aside0.mk ((by rw [hg]; exact (below_size z4_30) : w.heap.size ≤ gb153))
    have n7_ := Aside0.mk ((by rw [hg]; exact Nat.ne_of_lt (blk_ltB BK146 z4_31) : gb146 ≠ gb153))
    have n8_ := Aside0.mk ((by rw [hg]; exact Nat.ne_of_gt (blk_ltB BK146 z4_31) : gb153 ≠ gb146))
    have n9_ := Aside0.mk ((by rw [hg]; exact Nat.ne_of_lt (blk_ltB BK147 z4_32) : gb147 ≠ gb153))
    have n10_ := Aside0.mk ((by rw [hg]; exact Nat.ne_of_gt (blk_ltB BK147 z4_32) : gb153 ≠ gb147))
    have n11_ := Aside0.mk ((by rw [hg]; exact Nat.ne_of_lt (blk_ltB BK148 z4_33) : gb148 ≠ gb153))
    have n12_ := Aside0.mk ((by rw [hg]; exact Nat.ne_of_gt (blk_ltB BK148 z4_33) : gb153 ≠ gb148))
    clear BK146; clear BK147; clear BK148; clear HB; have BK146 := n0_; have BK147 := n1_; have BK148 := n2_; have HB := n3_; have BK153 := n4_; have GW153 := n5_; have GE153 := n6_; have NB146_153 := n7_; have NB153_146 := n8_; have NB147_153 := n9_; have NB153_147 := n10_; have NB148_153 := n11_; have NB153_148 := n12_; clear n0_ n1_ n2_ n3_ n4_ n5_ n6_ n7_ n8_ n9_ n10_ n11_ n12_; clear hb hbox hg
    refine hK.out _ _ ⟨(blk_cell BK146.out 0).trans rfl, (blk_cell BK146.out 1).trans rfl, (blk_cell BK146.out 2).trans rfl, (blk_cell BK146.out 3).trans rfl, (blk_cell BK147.out 0).trans rfl, (blk_cell BK147.out 1).trans rfl, (blk_cell BK147.out 2).trans rfl, (blk_cell BK147.out 3).trans rfl⟩ (fun hHeld => ?_)
    clear hK K
    refine norm_ (a' := ?_) ?_ ?_
    rotate_left
    ·show Act.put _ (some 5) _ = _
     simp only [Act.put, List.setIfInBounds_toArray, List.set_cons_zero, List.set_cons_succ, i64_w, i32_w]
     rfl
    exact norm_ z4_35 (hJ4_9_14_19_21 (gb153) _ ⟨hHeld, z4_31, z4_32, z4_33, z4_37, GW153.out, GE153.out, NB146_153.out, NB153_146.out, NB147_153.out, NB153_147.out, NB148_153.out, NB153_148.out, z4_34⟩)
  rintro gb153 w14 ⟨hS_, h0_, h1_, h2_, h3_, h4_, h5_, h6_, h7_, h8_, h9_, h10_, h11_, h12_⟩
  have n0_ : Aside0 (w14.heap[gb146]? = some (.cells #[.int .i64 a0_0, .int .i64 a0_1, .int .i64 a0_2, .int .i64 a0_3] 62 (0, 0))) := ⟨h0_⟩
  have n1_ : Aside0 (w14.heap[gb147]? = some (.cells #[.int .i64 a1_0, .int .i64 a1_1, .int .i64 a1_2, .int .i64 a1_3] 62 (0, 0))) := ⟨h1_⟩
  have n2_ : Aside0 (w14.heap[gb148]? = some (.cells #[.int .i64 0, .int .i64 0, .int .i64 0, .int .i64 0] 62 (0, 0))) := ⟨h2_⟩
  have n3_ : Aside0 (w14.heap[gb153]? = some (.cells #[.int .i64 0, .int .i64 0, .int .i64 0, .int .i64 0] 62 (0, 0))) := ⟨h3_⟩
  have n4_ : Aside0 (w.heap.size ≤ gb153) := ⟨h4_⟩
  have n5_ : Aside0 (w.heap.size ≤ gb153) := ⟨h5_⟩
  have n6_ : Aside0 (gb146 ≠ gb153) := ⟨h6_⟩
  have n7_ : Aside0 (gb153 ≠ gb146) := ⟨h7_⟩
  have n8_ : Aside0 (gb147 ≠ gb153) := ⟨h8_⟩
  have n9_ : Aside0 (gb153 ≠ gb147) := ⟨h9_⟩
  have n10_ : Aside0 (gb148 ≠ gb153) := ⟨h10_⟩
  have n11_ : Aside0 (gb153 ≠ gb148) := ⟨h11_⟩
  have n12_ : Aside0 (Below w.heap.size w w14) := ⟨h12_⟩
  clear BK146; clear BK147; clear BK148; clear HB; clear h0_ h1_ h2_ h3_ h4_ h5_ h6_ h7_ h8_ h9_ h10_ h11_ h12_; have BK146 := n0_; have BK147 := n1_; have BK148 := n2_; have BK153 := n3_; have GW153 := n4_; have GE153 := n5_; have NB146_153 := n6_; have NB153_146 := n7_; have NB147_153 := n8_; have NB153_147 := n9_; have NB148_153 := n10_; have NB153_148 := n11_; have HB := n12_; clear n0_ n1_ n2_ n3_ n4_ n5_ n6_ n7_ n8_ n9_ n10_ n11_ n12_
  have hHeld : w14.cell? ⟨gb146, 0, none⟩ = some (.int .i64 a0_0) ∧ w14.cell? ⟨gb146, 1, none⟩ = some (.int .i64 a0_1) ∧ w14.cell? ⟨gb146, 2, none⟩ = some (.int .i64 a0_2) ∧ w14.cell? ⟨gb146, 3, none⟩ = some (.int .i64 a0_3) ∧ w14.cell? ⟨gb147, 0, none⟩ = some (.int .i64 a1_0) ∧ w14.cell? ⟨gb147, 1, none⟩ = some (.int .i64 a1_1) ∧ w14.cell? ⟨gb147, 2, none⟩ = some (.int .i64 a1_2) ∧ w14.cell? ⟨gb147, 3, none⟩ = some (.int .i64 a1_3) := hS_
  refine norm_ (a' := ?_) ?_ ?_
  rotate_left
  ·simp only [putAll, Act.put, List.setIfInBounds_toArray, List.set_cons_zero, List.set_cons_succ]
   rfl
  refine one_ (i := 22) (N := none) y4_28 rfl rfl (one_of HT_.out (by kernel_rfl)) (by decide) (fun K hK => ?_)
  have hs15 : w14.cell? ⟨gb153, 0, none⟩ = some (.int .i64 0) := (blk_cell BK153.out 0).trans rfl
  have hfs15 := blk_frozen BK153.out 0
  have hns15_0 := NB146_153.out; have hns15_1 := NB147_153.out; have hns15_2 := NB148_153.out; have hms15_0 := NB153_146.out; have hms15_1 := NB153_147.out; have hms15_2 := NB153_148.out
  have hs16 : w14.cell? ⟨gb153, 1, none⟩ = some (.int .i64 0) := (blk_cell BK153.out 1).trans rfl
  have hfs16 := blk_frozen BK153.out 1
  have hns16_0 := NB146_153.out; have hns16_1 := NB147_153.out; have hns16_2 := NB148_153.out; have hms16_0 := NB153_146.out; have hms16_1 := NB153_147.out; have hms16_2 := NB153_148.out
  have hs17 : w14.cell? ⟨gb153, 2, none⟩ = some (.int .i64 0) := (blk_cell BK153.out 2).trans rfl
  have hfs17 := blk_frozen BK153.out 2
  have hns17_0 := NB146_153.out; have hns17_1 := NB147_153.out; have hns17_2 := NB148_153.out; have hms17_0 := NB153_146.out; have hms17_1 := NB153_147.out; have hms17_2 := NB153_148.out
  have hs18 : w14.cell? ⟨gb153, 3, none⟩ = some (.int .i64 0) := (blk_cell BK153.out 3).trans rfl
  have hfs18 := blk_frozen BK153.out 3
  have hns18_0 := NB146_153.out; have hns18_1 := NB147_153.out; have hns18_2 := NB148_153.out; have hms18_0 := NB153_146.out; have hms18_1 := NB153_147.out; have hms18_2 := NB153_148.out
  refine skip_ (w1 := ?_) (by rfl) rfl ?_ ?_
  rotate_left
  ·go_simp
   rfl
  refine hK.out _ _ ⟨((cell_far (p := ⟨gb153, _, none⟩) NB146_153.out _).trans (((cell_far (p := ⟨gb153, _, none⟩) NB146_153.out _).trans (((cell_far (p := ⟨gb153, _, none⟩) NB146_153.out _).trans (((cell_far (p := ⟨gb153, _, none⟩) NB146_153.out _).trans (hHeld.1)))))))), ((cell_far (p := ⟨gb153, _, none⟩) NB146_153.out _).trans (((cell_far (p := ⟨gb153, _, none⟩) NB146_153.out _).trans (((cell_far (p := ⟨gb153, _, none⟩) NB146_153.out _).trans (((cell_far (p := ⟨gb153, _, none⟩) NB146_153.out _).trans (hHeld.2.1)))))))), ((cell_far (p := ⟨gb153, _, none⟩) NB146_153.out _).trans (((cell_far (p := ⟨gb153, _, none⟩) NB146_153.out _).trans (((cell_far (p := ⟨gb153, _, none⟩) NB146_153.out _).trans (((cell_far (p := ⟨gb153, _, none⟩) NB146_153.out _).trans (hHeld.2.2.1)))))))), ((cell_far (p := ⟨gb153, _, none⟩) NB146_153.out _).trans (((cell_far (p := ⟨gb153, _, none⟩) NB146_153.out _).trans (((cell_far (p := ⟨gb153, _, none⟩) NB146_153.out _).trans (((cell_far (p := ⟨gb153, _, none⟩) NB146_153.out _).trans (hHeld.2.2.2.1)))))))), ((cell_far (p := ⟨gb153, _, none⟩) NB147_153.out _).trans (((cell_far (p := ⟨gb153, _, none⟩) NB147_153.out _).trans (((cell_far (p := ⟨gb153, _, none⟩) NB147_153.out _).trans (((cell_far (p := ⟨gb153, _, none⟩) NB147_153.out _).trans (hHeld.2.2.2.2.1)))))))), ((cell_far (p := ⟨gb153, _, none⟩) NB147_153.out _).trans (((cell_far (p := ⟨gb153, _, none⟩) NB147_153.out _).trans (((cell_far (p := ⟨gb153, _, none⟩) NB147_153.out _).trans (((cell_far (p := ⟨gb153, _, none⟩) NB147_153.out _).trans (hHeld.2.2.2.2.2.1)))))))), ((cell_far (p := ⟨gb153, _, none⟩) NB147_153.out _).trans (((cell_far (p := ⟨gb153, _, none⟩) NB147_153.out _).trans (((cell_far (p := ⟨gb153, _, none⟩) NB147_153.out _).trans (((cell_far (p := ⟨gb153, _, none⟩) NB147_153.out _).trans (hHeld.2.2.2.2.2.2.1)))))))), ((cell_far (p := ⟨gb153, _, none⟩) NB147_153.out _).trans (((cell_far (p := ⟨gb153, _, none⟩) NB147_153.out _).trans (((cell_far (p := ⟨gb153, _, none⟩) NB147_153.out _).trans (((cell_far (p := ⟨gb153, _, none⟩) NB147_153.out _).trans (hHeld.2.2.2.2.2.2.2))))))))⟩ (fun hHeld => ?_)
  clear hK K
  refine done_ (done_of HT_.out (by kernel_rfl)) ?_
  have hnb19 := NB153_146.out; have hnc19 := NB146_153.out; have hnb20 := NB153_147.out; have hnc20 := NB147_153.out; have hnb21 := NB153_148.out; have hnc21 := NB148_153.out
  obtain ⟨_, _, _, _, _, _, _, _⟩ := be_4 BK153.out
  try go_wp2_with (first | ((with_reducible refine gate_callee (f := 146) rfl ?_); refine goesL_ (some 28) rfl rfl Try.func146 (by kernel_rfl) rfl #[.agg #[.int .i64 t149, .int .i64 t150, .int .i64 t151, .int .i64 t152]] rfl z4_36 ?_; (with_reducible refine (spec_Empty.calls t149 t150 t151 t152 true _ A7.out).mono ?_); rintro e w23 ⟨rfl, hb⟩; refine ⟨_, rfl, ?_⟩; have n0_ := Aside0.mk (blk_belowB BK146 z4_41 hb); have n1_ := Aside0.mk (blk_belowB BK147 z4_42 hb); have n2_ := Aside0.mk (blk_belowB BK148 z4_43 hb); have n3_ := Aside0.mk (blk_below (g := gb153) (o := .cells #[.int .i64 t149, .int .i64 t150, .int .i64 t151, .int .i64 t152] 62 (0, 0)) z4_44 hb); have n4_ := Aside0.mk (below_step z4_34 hb); clear BK146; clear BK147; clear BK148; clear BK153; clear HB; have BK146 := n0_; have BK147 := n1_; have BK148 := n2_; have BK153 := n3_; have HB := n4_; clear n0_ n1_ n2_ n3_ n4_; (try clear hb); have hnb24 := NB148_146.out; have hnc24 := NB146_148.out; have hnb25 := NB148_147.out; have hnc25 := NB147_148.out; obtain ⟨_, _, _, _, _, _, _, _⟩ := be_4 BK148.out))
  refine bodyPost_ret (results_cell_row rfl _ _ gb148 62 #[.int .i64 0, .int .i64 0, .int .i64 0, .int .i64 0] (0, 0) _ rfl z4_45 Try.underlying62 rfl (by kernel_rfl)) rfl ?_
  exact ⟨(by first | rfl | (simp [errW_none, errW_some] <;> rfl) | (simp [*, errW_none, errW_some] <;> rfl)), z4_34⟩
 ·replace c8 := Bool.eq_false_iff.mpr c8
  subst c8
  have H1 : (some (t149, t150, t151, t152)) = some (r1, r2, r3, r4) := by rw [if_neg (show ¬ (false = true) by decide)] at H; exact H
  clear H; have H := H1; clear H1
  simp only [Option.some.injEq, Prod.mk.injEq] at H
  obtain ⟨rfl, rfl, rfl, rfl⟩ := H
  go_enter Try.func117, Try.ntmps117
  try go_wp2_with (first | ((with_reducible refine gate_dst (N := 2) rfl ?_); refine boxz (cs := #[.int .i64 a0_0, .int .i64 a0_1, .int .i64 a0_2, .int .i64 a0_3]) (t := 62) rfl ?_; intro gb146 hg w27 hbox hb; have n0_ := Aside0.mk (below_step z4_40 hb); have n1_ := Aside0.mk (hbox); have n2_ := Aside0.mk ((by rw [hg]; exact (below_size z4_40) : w.heap.size ≤ gb146)); have n3_ := Aside0.mk ((by rw [hg]; exact (below_size z4_40) : w.heap.size ≤ gb146)); clear HB; have HB := n0_; have BK146 := n1_; have GW146 := n2_; have GE146 := n3_; clear n0_ n1_ n2_ n3_; clear hb hbox hg) | ((with_reducible refine gate_dst (N := 3) rfl ?_); refine boxz (cs := #[.int .i64 a1_0, .int .i64 a1_1, .int .i64 a1_2, .int .i64 a1_3]) (t := 62) rfl ?_; intro gb147 hg w28 hbox hb; have n0_ := Aside0.mk (blk_belowB BK146 z4_31 hb); have n1_ := Aside0.mk (below_step z4_39 hb); have n2_ := Aside0.mk (hbox); have n3_ := Aside0.mk ((by rw [hg]; exact (below_size z4_39) : w.heap.size ≤ gb147)); have n4_ := Aside0.mk ((by rw [hg]; exact (below_size z4_39) : w.heap.size ≤ gb147)); have n5_ := Aside0.mk ((by rw [hg]; exact Nat.ne_of_lt (blk_ltB BK146 z4_31) : gb146 ≠ gb147)); have n6_ := Aside0.mk ((by rw [hg]; exact Nat.ne_of_gt (blk_ltB BK146 z4_31) : gb147 ≠ gb146)); clear BK146; clear HB; have BK146 := n0_; have HB := n1_; have BK147 := n2_; have GW147 := n3_; have GE147 := n4_; have NB146_147 := n5_; have NB147_146 := n6_; clear n0_ n1_ n2_ n3_ n4_ n5_ n6_; clear hb hbox hg) | ((with_reducible refine gate_dst (N := 4) rfl ?_); refine boxz (cs := #[.int .i64 0, .int .i64 0, .int .i64 0, .int .i64 0]) (t := 62) rfl ?_; intro gb148 hg w29 hbox hb; have n0_ := Aside0.mk (blk_belowB BK146 z4_31 hb); have n1_ := Aside0.mk (blk_belowB BK147 z4_32 hb); have n2_ := Aside0.mk (below_step z4_38 hb); have n3_ := Aside0.mk (hbox); have n4_ := Aside0.mk ((by rw [hg]; exact (below_size z4_38) : w.heap.size ≤ gb148)); have n5_ := Aside0.mk ((by rw [hg]; exact (below_size z4_38) : w.heap.size ≤ gb148)); have n6_ := Aside0.mk ((by rw [hg]; exact Nat.ne_of_lt (blk_ltB BK146 z4_31) : gb146 ≠ gb148)); have n7_ := Aside0.mk ((by rw [hg]; exact Nat.ne_of_gt (blk_ltB BK146 z4_31) : gb148 ≠ gb146)); have n8_ := Aside0.mk ((by rw [hg]; exact Nat.ne_of_lt (blk_ltB BK147 z4_32) : gb147 ≠ gb148)); have n9_ := Aside0.mk ((by rw [hg]; exact Nat.ne_of_gt (blk_ltB BK147 z4_32) : gb148 ≠ gb147)); clear BK146; clear BK147; clear HB; have BK146 := n0_; have BK147 := n1_; have HB := n2_; have BK148 := n3_; have GW148 := n4_; have GE148 := n5_; have NB146_148 := n6_; have NB148_146 := n7_; have NB147_148 := n8_; have NB148_147 := n9_; clear n0_ n1_ n2_ n3_ n4_ n5_ n6_ n7_ n8_ n9_; clear hb hbox hg))
  have n0_ := Aside0.mk (blk_drew BK146.out)
  have n1_ := Aside0.mk (blk_drew BK147.out)
  have n2_ := Aside0.mk (blk_drew BK148.out)
  have n3_ := Aside0.mk (below_drew1 HB.out)
  clear BK146; clear BK147; clear BK148; clear HB; have BK146 := n0_; have BK147 := n1_; have BK148 := n2_; have HB := n3_; clear n0_ n1_ n2_ n3_
  refine start_ (n := 23) (S := fun w' => w'.cell? ⟨gb146, 0, none⟩ = some (.int .i64 a0_0) ∧ w'.cell? ⟨gb146, 1, none⟩ = some (.int .i64 a0_1) ∧ w'.cell? ⟨gb146, 2, none⟩ = some (.int .i64 a0_2) ∧ w'.cell? ⟨gb146, 3, none⟩ = some (.int .i64 a0_3) ∧ w'.cell? ⟨gb147, 0, none⟩ = some (.int .i64 a1_0) ∧ w'.cell? ⟨gb147, 1, none⟩ = some (.int .i64 a1_1) ∧ w'.cell? ⟨gb147, 2, none⟩ = some (.int .i64 a1_2) ∧ w'.cell? ⟨gb147, 3, none⟩ = some (.int .i64 a1_3)) (ds := []) y4_0 (by kernel_rfl) rfl rfl ⟨(blk_cell BK146.out 0).trans rfl, (blk_cell BK146.out 1).trans rfl, (blk_cell BK146.out 2).trans rfl, (blk_cell BK146.out 3).trans rfl, (blk_cell BK147.out 0).trans rfl, (blk_cell BK147.out 1).trans rfl, (blk_cell BK147.out 2).trans rfl, (blk_cell BK147.out 3).trans rfl⟩ (fun hHeld => ?_); refine with_tabW spec_MeetBox.tab1 spec_MeetBox.bits1 (fun HT_ HW_ => ?_)
  generalize w29.drew = w30 at BK146 BK147 BK148 HB hHeld ⊢
  refine pure_ (i := 0) (N := some 6) (v := ?_) (a' := ?_) y4_1 rfl rfl (any_of HT_.out (by kernel_rfl)) (fun _ _ _ h => h) (Or.inl ⟨by rfl, ?_⟩) ?_ ?_; rotate_left
  ·intro w'
   go_simp; with_reducible rfl
  rotate_left
  ·exact x4_put
  refine pure_ (i := 2) (N := some 8) (v := ?_) (a' := ?_) y4_2 rfl rfl (any_of HT_.out (by kernel_rfl)) (fun _ _ _ h => h) (Or.inl ⟨by rfl, ?_⟩) ?_ ?_; rotate_left
  ·intro w'
   go_simp; with_reducible rfl
  rotate_left
  ·exact x4_put
  refine pure_ (i := 5) (N := some 11) (v := ?_) (a' := ?_) y4_3 rfl rfl (any_of HT_.out (by kernel_rfl)) (fun _ _ _ h => h) (Or.inl ⟨by rfl, ?_⟩) ?_ ?_; rotate_left
  ·intro w'
   go_simp; with_reducible rfl
  rotate_left
  ·exact x4_put
  refine pure_ (i := 7) (N := some 13) (v := ?_) (a' := ?_) y4_4 rfl rfl (any_of HT_.out (by kernel_rfl)) (fun _ _ _ h => h) (Or.inl ⟨by rfl, ?_⟩) ?_ ?_; rotate_left
  ·intro w'
   go_simp; with_reducible rfl
  rotate_left
  ·exact x4_put
  refine pure_ (i := 10) (N := some 16) (v := ?_) (a' := ?_) y4_5 rfl rfl (any_of HT_.out (by kernel_rfl)) (fun _ _ _ h => h) (Or.inl ⟨by rfl, ?_⟩) ?_ ?_; rotate_left
  ·intro w'
   go_simp; with_reducible rfl
  rotate_left
  ·exact x4_put
  refine pure_ (i := 12) (N := some 18) (v := ?_) (a' := ?_) y4_6 rfl rfl (any_of HT_.out (by kernel_rfl)) (fun _ _ _ h => h) (Or.inl ⟨by rfl, ?_⟩) ?_ ?_; rotate_left
  ·intro w'
   go_simp; with_reducible rfl
  rotate_left
  ·exact x4_put
  refine pure_ (i := 15) (N := some 21) (v := ?_) (a' := ?_) y4_7 rfl rfl (any_of HT_.out (by kernel_rfl)) (fun _ _ _ h => h) (Or.inl ⟨by rfl, ?_⟩) ?_ ?_; rotate_left
  ·intro w'
   go_simp; with_reducible rfl
  rotate_left
  ·exact x4_put
  refine pure_ (i := 17) (N := some 23) (v := ?_) (a' := ?_) y4_8 rfl rfl (any_of HT_.out (by kernel_rfl)) (fun _ _ _ h => h) (Or.inl ⟨by rfl, ?_⟩) ?_ ?_; rotate_left
  ·intro w'
   go_simp; with_reducible rfl
  rotate_left
  ·exact x4_put
  refine take_ (i := 1) (N := some 7) (v := ?_) (a' := ?_) y4_9 rfl rfl (take_ofW HT_.out HW_.out (by kernel_rfl)) (fun _ _ _ h => h) (Or.inl ⟨by rfl, ?_⟩) hHeld ?_ ?_
  rotate_left
  ·rintro w' ⟨s0, s1, s2, s3, s4, s5, s6, s7⟩
   go_simp; with_reducible rfl
  rotate_left
  ·exact x4_put
  refine take_ (i := 3) (N := some 9) (v := ?_) (a' := ?_) y4_10 rfl rfl (take_ofW HT_.out HW_.out (by kernel_rfl)) (fun _ _ _ h => h) (Or.inl ⟨by rfl, ?_⟩) hHeld ?_ ?_
  rotate_left
  ·rintro w' ⟨s0, s1, s2, s3, s4, s5, s6, s7⟩
   go_simp; with_reducible rfl
  rotate_left
  ·exact x4_put
  refine take_ (i := 6) (N := some 12) (v := ?_) (a' := ?_) y4_11 rfl rfl (take_ofW HT_.out HW_.out (by kernel_rfl)) (fun _ _ _ h => h) (Or.inl ⟨by rfl, ?_⟩) hHeld ?_ ?_
  rotate_left
  ·rintro w' ⟨s0, s1, s2, s3, s4, s5, s6, s7⟩
   go_simp; with_reducible rfl
  rotate_left
  ·exact x4_put
  refine take_ (i := 8) (N := some 14) (v := ?_) (a' := ?_) y4_12 rfl rfl (take_ofW HT_.out HW_.out (by kernel_rfl)) (fun _ _ _ h => h) (Or.inl ⟨by rfl, ?_⟩) hHeld ?_ ?_
  rotate_left
  ·rintro w' ⟨s0, s1, s2, s3, s4, s5, s6, s7⟩
   go_simp; with_reducible rfl
  rotate_left
  ·exact x4_put
  refine take_ (i := 11) (N := some 17) (v := ?_) (a' := ?_) y4_13 rfl rfl (take_ofW HT_.out HW_.out (by kernel_rfl)) (fun _ _ _ h => h) (Or.inl ⟨by rfl, ?_⟩) hHeld ?_ ?_
  rotate_left
  ·rintro w' ⟨s0, s1, s2, s3, s4, s5, s6, s7⟩
   go_simp; with_reducible rfl
  rotate_left
  ·exact x4_put
  refine take_ (i := 13) (N := some 19) (v := ?_) (a' := ?_) y4_14 rfl rfl (take_ofW HT_.out HW_.out (by kernel_rfl)) (fun _ _ _ h => h) (Or.inl ⟨by rfl, ?_⟩) hHeld ?_ ?_
  rotate_left
  ·rintro w' ⟨s0, s1, s2, s3, s4, s5, s6, s7⟩
   go_simp; with_reducible rfl
  rotate_left
  ·exact x4_put
  refine take_ (i := 16) (N := some 22) (v := ?_) (a' := ?_) y4_15 rfl rfl (take_ofW HT_.out HW_.out (by kernel_rfl)) (fun _ _ _ h => h) (Or.inl ⟨by rfl, ?_⟩) hHeld ?_ ?_
  rotate_left
  ·rintro w' ⟨s0, s1, s2, s3, s4, s5, s6, s7⟩
   go_simp; with_reducible rfl
  rotate_left
  ·exact x4_put
  refine take_ (i := 18) (N := some 24) (v := ?_) (a' := ?_) y4_16 rfl rfl (take_ofW HT_.out HW_.out (by kernel_rfl)) (fun _ _ _ h => h) (Or.inl ⟨by rfl, ?_⟩) hHeld ?_ ?_
  rotate_left
  ·rintro w' ⟨s0, s1, s2, s3, s4, s5, s6, s7⟩
   go_simp; with_reducible rfl
  rotate_left
  ·exact x4_put
  refine join_ (σ := Nat) 1 y4_27 (fun s_ => [(10, .int .i64 t149), (15, .int .i64 t150), (20, .int .i64 t151), (25, .int .i64 t152), (5, .pointer (some ⟨s_, 0, none⟩)), (26, .agg #[.int .i64 t149, .int .i64 t150, .int .i64 t151, .int .i64 t152])]) (fun s_ w' => (w'.cell? ⟨gb146, 0, none⟩ = some (.int .i64 a0_0) ∧ w'.cell? ⟨gb146, 1, none⟩ = some (.int .i64 a0_1) ∧ w'.cell? ⟨gb146, 2, none⟩ = some (.int .i64 a0_2) ∧ w'.cell? ⟨gb146, 3, none⟩ = some (.int .i64 a0_3) ∧ w'.cell? ⟨gb147, 0, none⟩ = some (.int .i64 a1_0) ∧ w'.cell? ⟨gb147, 1, none⟩ = some (.int .i64 a1_1) ∧ w'.cell? ⟨gb147, 2, none⟩ = some (.int .i64 a1_2) ∧ w'.cell? ⟨gb147, 3, none⟩ = some (.int .i64 a1_3)) ∧ (w'.heap[gb146]? = some (.cells #[.int .i64 a0_0, .int .i64 a0_1, .int .i64 a0_2, .int .i64 a0_3] 62 (0, 0))) ∧ (w'.heap[gb147]? = some (.cells #[.int .i64 a1_0, .int .i64 a1_1, .int .i64 a1_2, .int .i64 a1_3] 62 (0, 0))) ∧ (w'.heap[gb148]? = some (.cells #[.int .i64 0, .int .i64 0, .int .i64 0, .int .i64 0] 62 (0, 0))) ∧ (w'.heap[s_]? = some (.cells #[.int .i64 0, .int .i64 0, .int .i64 0, .int .i64 0] 62 (0, 0))) ∧ (w.heap.size ≤ s_) ∧ (w.heap.size ≤ s_) ∧ (gb146 ≠ s_) ∧ (s_ ≠ gb146) ∧ (gb147 ≠ s_) ∧ (s_ ≠ gb147) ∧ (gb148 ≠ s_) ∧ (s_ ≠ gb148) ∧ (Below w.heap.size w w')) ?_ ?_
  rotate_left
  ·intro hJ4_9_14_19_21
   refine join_ (σ := Unit) 2 y4_26 (fun s_ => [(10, .int .i64 t149), (15, .int .i64 t150), (20, .int .i64 t151), (25, .int .i64 t152), (26, .agg #[.int .i64 t149, .int .i64 t150, .int .i64 t151, .int .i64 t152])]) (fun s_ w' => (w'.cell? ⟨gb146, 0, none⟩ = some (.int .i64 a0_0) ∧ w'.cell? ⟨gb146, 1, none⟩ = some (.int .i64 a0_1) ∧ w'.cell? ⟨gb146, 2, none⟩ = some (.int .i64 a0_2) ∧ w'.cell? ⟨gb146, 3, none⟩ = some (.int .i64 a0_3) ∧ w'.cell? ⟨gb147, 0, none⟩ = some (.int .i64 a1_0) ∧ w'.cell? ⟨gb147, 1, none⟩ = some (.int .i64 a1_1) ∧ w'.cell? ⟨gb147, 2, none⟩ = some (.int .i64 a1_2) ∧ w'.cell? ⟨gb147, 3, none⟩ = some (.int .i64 a1_3)) ∧ (w'.heap[gb146]? = some (.cells #[.int .i64 a0_0, .int .i64 a0_1, .int .i64 a0_2, .int .i64 a0_3] 62 (0, 0))) ∧ (w'.heap[gb147]? = some (.cells #[.int .i64 a1_0, .int .i64 a1_1, .int .i64 a1_2, .int .i64 a1_3] 62 (0, 0))) ∧ (w'.heap[gb148]? = some (.cells #[.int .i64 0, .int .i64 0, .int .i64 0, .int .i64 0] 62 (0, 0))) ∧ (Below w.heap.size w w')) ?_ ?_
   rotate_left
   ·intro hJ4_9_14_19
    refine join_ (σ := Nat) 3 y4_23 (fun s_ => [(10, .int .i64 t149), (15, .int .i64 t150), (20, .int .i64 t151), (5, .pointer (some ⟨s_, 0, none⟩))]) (fun s_ w' => (w'.cell? ⟨gb146, 0, none⟩ = some (.int .i64 a0_0) ∧ w'.cell? ⟨gb146, 1, none⟩ = some (.int .i64 a0_1) ∧ w'.cell? ⟨gb146, 2, none⟩ = some (.int .i64 a0_2) ∧ w'.cell? ⟨gb146, 3, none⟩ = some (.int .i64 a0_3) ∧ w'.cell? ⟨gb147, 0, none⟩ = some (.int .i64 a1_0) ∧ w'.cell? ⟨gb147, 1, none⟩ = some (.int .i64 a1_1) ∧ w'.cell? ⟨gb147, 2, none⟩ = some (.int .i64 a1_2) ∧ w'.cell? ⟨gb147, 3, none⟩ = some (.int .i64 a1_3)) ∧ (w'.heap[gb146]? = some (.cells #[.int .i64 a0_0, .int .i64 a0_1, .int .i64 a0_2, .int .i64 a0_3] 62 (0, 0))) ∧ (w'.heap[gb147]? = some (.cells #[.int .i64 a1_0, .int .i64 a1_1, .int .i64 a1_2, .int .i64 a1_3] 62 (0, 0))) ∧ (w'.heap[gb148]? = some (.cells #[.int .i64 0, .int .i64 0, .int .i64 0, .int .i64 0] 62 (0, 0))) ∧ (w'.heap[s_]? = some (.cells #[.int .i64 0, .int .i64 0, .int .i64 0, .int .i64 0] 62 (0, 0))) ∧ (w.heap.size ≤ s_) ∧ (w.heap.size ≤ s_) ∧ (gb146 ≠ s_) ∧ (s_ ≠ gb146) ∧ (gb147 ≠ s_) ∧ (s_ ≠ gb147) ∧ (gb148 ≠ s_) ∧ (s_ ≠ gb148) ∧ (Below w.heap.size w w')) ?_ ?_
    rotate_left
    ·intro hJ4_9_14_21
     refine join_ (σ := Unit) 4 y4_22 (fun s_ => [(10, .int .i64 t149), (15, .int .i64 t150), (20, .int .i64 t151)]) (fun s_ w' => (w'.cell? ⟨gb146, 0, none⟩ = some (.int .i64 a0_0) ∧ w'.cell? ⟨gb146, 1, none⟩ = some (.int .i64 a0_1) ∧ w'.cell? ⟨gb146, 2, none⟩ = some (.int .i64 a0_2) ∧ w'.cell? ⟨gb146, 3, none⟩ = some (.int .i64 a0_3) ∧ w'.cell? ⟨gb147, 0, none⟩ = some (.int .i64 a1_0) ∧ w'.cell? ⟨gb147, 1, none⟩ = some (.int .i64 a1_1) ∧ w'.cell? ⟨gb147, 2, none⟩ = some (.int .i64 a1_2) ∧ w'.cell? ⟨gb147, 3, none⟩ = some (.int .i64 a1_3)) ∧ (w'.heap[gb146]? = some (.cells #[.int .i64 a0_0, .int .i64 a0_1, .int .i64 a0_2, .int .i64 a0_3] 62 (0, 0))) ∧ (w'.heap[gb147]? = some (.cells #[.int .i64 a1_0, .int .i64 a1_1, .int .i64 a1_2, .int .i64 a1_3] 62 (0, 0))) ∧ (w'.heap[gb148]? = some (.cells #[.int .i64 0, .int .i64 0, .int .i64 0, .int .i64 0] 62 (0, 0))) ∧ (Below w.heap.size w w')) ?_ ?_
     rotate_left
     ·intro hJ4_9_14
      refine join_ (σ := Nat) 4 y4_21 (fun s_ => [(10, .int .i64 t149), (15, .int .i64 t150), (5, .pointer (some ⟨s_, 0, none⟩))]) (fun s_ w' => (w'.cell? ⟨gb146, 0, none⟩ = some (.int .i64 a0_0) ∧ w'.cell? ⟨gb146, 1, none⟩ = some (.int .i64 a0_1) ∧ w'.cell? ⟨gb146, 2, none⟩ = some (.int .i64 a0_2) ∧ w'.cell? ⟨gb146, 3, none⟩ = some (.int .i64 a0_3) ∧ w'.cell? ⟨gb147, 0, none⟩ = some (.int .i64 a1_0) ∧ w'.cell? ⟨gb147, 1, none⟩ = some (.int .i64 a1_1) ∧ w'.cell? ⟨gb147, 2, none⟩ = some (.int .i64 a1_2) ∧ w'.cell? ⟨gb147, 3, none⟩ = some (.int .i64 a1_3)) ∧ (w'.heap[gb146]? = some (.cells #[.int .i64 a0_0, .int .i64 a0_1, .int .i64 a0_2, .int .i64 a0_3] 62 (0, 0))) ∧ (w'.heap[gb147]? = some (.cells #[.int .i64 a1_0, .int .i64 a1_1, .int .i64 a1_2, .int .i64 a1_3] 62 (0, 0))) ∧ (w'.heap[gb148]? = some (.cells #[.int .i64 0, .int .i64 0, .int .i64 0, .int .i64 0] 62 (0, 0))) ∧ (w'.heap[s_]? = some (.cells #[.int .i64 0, .int .i64 0, .int .i64 0, .int .i64 0] 62 (0, 0))) ∧ (w.heap.size ≤ s_) ∧ (w.heap.size ≤ s_) ∧ (gb146 ≠ s_) ∧ (s_ ≠ gb146) ∧ (gb147 ≠ s_) ∧ (s_ ≠ gb147) ∧ (gb148 ≠ s_) ∧ (s_ ≠ gb148) ∧ (Below w.heap.size w w')) ?_ ?_
      rotate_left
      ·intro hJ4_9_21
       refine join_ (σ := Unit) 5 y4_20 (fun s_ => [(10, .int .i64 t149), (15, .int .i64 t150)]) (fun s_ w' => (w'.cell? ⟨gb146, 0, none⟩ = some (.int .i64 a0_0) ∧ w'.cell? ⟨gb146, 1, none⟩ = some (.int .i64 a0_1) ∧ w'.cell? ⟨gb146, 2, none⟩ = some (.int .i64 a0_2) ∧ w'.cell? ⟨gb146, 3, none⟩ = some (.int .i64 a0_3) ∧ w'.cell? ⟨gb147, 0, none⟩ = some (.int .i64 a1_0) ∧ w'.cell? ⟨gb147, 1, none⟩ = some (.int .i64 a1_1) ∧ w'.cell? ⟨gb147, 2, none⟩ = some (.int .i64 a1_2) ∧ w'.cell? ⟨gb147, 3, none⟩ = some (.int .i64 a1_3)) ∧ (w'.heap[gb146]? = some (.cells #[.int .i64 a0_0, .int .i64 a0_1, .int .i64 a0_2, .int .i64 a0_3] 62 (0, 0))) ∧ (w'.heap[gb147]? = some (.cells #[.int .i64 a1_0, .int .i64 a1_1, .int .i64 a1_2, .int .i64 a1_3] 62 (0, 0))) ∧ (w'.heap[gb148]? = some (.cells #[.int .i64 0, .int .i64 0, .int .i64 0, .int .i64 0] 62 (0, 0))) ∧ (Below w.heap.size w w')) ?_ ?_
       rotate_left
       ·intro hJ4_9
        refine join_ (σ := Nat) 5 y4_19 (fun s_ => [(10, .int .i64 t149), (5, .pointer (some ⟨s_, 0, none⟩))]) (fun s_ w' => (w'.cell? ⟨gb146, 0, none⟩ = some (.int .i64 a0_0) ∧ w'.cell? ⟨gb146, 1, none⟩ = some (.int .i64 a0_1) ∧ w'.cell? ⟨gb146, 2, none⟩ = some (.int .i64 a0_2) ∧ w'.cell? ⟨gb146, 3, none⟩ = some (.int .i64 a0_3) ∧ w'.cell? ⟨gb147, 0, none⟩ = some (.int .i64 a1_0) ∧ w'.cell? ⟨gb147, 1, none⟩ = some (.int .i64 a1_1) ∧ w'.cell? ⟨gb147, 2, none⟩ = some (.int .i64 a1_2) ∧ w'.cell? ⟨gb147, 3, none⟩ = some (.int .i64 a1_3)) ∧ (w'.heap[gb146]? = some (.cells #[.int .i64 a0_0, .int .i64 a0_1, .int .i64 a0_2, .int .i64 a0_3] 62 (0, 0))) ∧ (w'.heap[gb147]? = some (.cells #[.int .i64 a1_0, .int .i64 a1_1, .int .i64 a1_2, .int .i64 a1_3] 62 (0, 0))) ∧ (w'.heap[gb148]? = some (.cells #[.int .i64 0, .int .i64 0, .int .i64 0, .int .i64 0] 62 (0, 0))) ∧ (w'.heap[s_]? = some (.cells #[.int .i64 0, .int .i64 0, .int .i64 0, .int .i64 0] 62 (0, 0))) ∧ (w.heap.size ≤ s_) ∧ (w.heap.size ≤ s_) ∧ (gb146 ≠ s_) ∧ (s_ ≠ gb146) ∧ (gb147 ≠ s_) ∧ (s_ ≠ gb147) ∧ (gb148 ≠ s_) ∧ (s_ ≠ gb148) ∧ (Below w.heap.size w w')) ?_ ?_
        rotate_left
        ·intro hJ4_21
         refine join_ (σ := Unit) 6 y4_18 (fun s_ => [(10, .int .i64 t149)]) (fun s_ w' => (w'.cell? ⟨gb146, 0, none⟩ = some (.int .i64 a0_0) ∧ w'.cell? ⟨gb146, 1, none⟩ = some (.int .i64 a0_1) ∧ w'.cell? ⟨gb146, 2, none⟩ = some (.int .i64 a0_2) ∧ w'.cell? ⟨gb146, 3, none⟩ = some (.int .i64 a0_3) ∧ w'.cell? ⟨gb147, 0, none⟩ = some (.int .i64 a1_0) ∧ w'.cell? ⟨gb147, 1, none⟩ = some (.int .i64 a1_1) ∧ w'.cell? ⟨gb147, 2, none⟩ = some (.int .i64 a1_2) ∧ w'.cell? ⟨gb147, 3, none⟩ = some (.int .i64 a1_3)) ∧ (w'.heap[gb146]? = some (.cells #[.int .i64 a0_0, .int .i64 a0_1, .int .i64 a0_2, .int .i64 a0_3] 62 (0, 0))) ∧ (w'.heap[gb147]? = some (.cells #[.int .i64 a1_0, .int .i64 a1_1, .int .i64 a1_2, .int .i64 a1_3] 62 (0, 0))) ∧ (w'.heap[gb148]? = some (.cells #[.int .i64 0, .int .i64 0, .int .i64 0, .int .i64 0] 62 (0, 0))) ∧ (Below w.heap.size w w')) ?_ ?_
         rotate_left
         ·intro hJ4
          refine join_ (σ := Nat) 6 y4_17 (fun s_ => [(5, .pointer (some ⟨s_, 0, none⟩))]) (fun s_ w' => (w'.cell? ⟨gb146, 0, none⟩ = some (.int .i64 a0_0) ∧ w'.cell? ⟨gb146, 1, none⟩ = some (.int .i64 a0_1) ∧ w'.cell? ⟨gb146, 2, none⟩ = some (.int .i64 a0_2) ∧ w'.cell? ⟨gb146, 3, none⟩ = some (.int .i64 a0_3) ∧ w'.cell? ⟨gb147, 0, none⟩ = some (.int .i64 a1_0) ∧ w'.cell? ⟨gb147, 1, none⟩ = some (.int .i64 a1_1) ∧ w'.cell? ⟨gb147, 2, none⟩ = some (.int .i64 a1_2) ∧ w'.cell? ⟨gb147, 3, none⟩ = some (.int .i64 a1_3)) ∧ (w'.heap[gb146]? = some (.cells #[.int .i64 a0_0, .int .i64 a0_1, .int .i64 a0_2, .int .i64 a0_3] 62 (0, 0))) ∧ (w'.heap[gb147]? = some (.cells #[.int .i64 a1_0, .int .i64 a1_1, .int .i64 a1_2, .int .i64 a1_3] 62 (0, 0))) ∧ (w'.heap[gb148]? = some (.cells #[.int .i64 0, .int .i64 0, .int .i64 0, .int .i64 0] 62 (0, 0))) ∧ (w'.heap[s_]? = some (.cells #[.int .i64 0, .int .i64 0, .int .i64 0, .int .i64 0] 62 (0, 0))) ∧ (w.heap.size ≤ s_) ∧ (w.heap.size ≤ s_) ∧ (gb146 ≠ s_) ∧ (s_ ≠ gb146) ∧ (gb147 ≠ s_) ∧ (s_ ≠ gb147) ∧ (gb148 ≠ s_) ∧ (s_ ≠ gb148) ∧ (Below w.heap.size w w')) ?_ ?_
          rotate_left
          ·intro hJ21
           refine two_ (i := 4) (j := 21) (Ni := some 10) (Nj := some 5) y4_18 y4_17 rfl rfl rfl rfl (two_of HT_.out (by kernel_rfl)) (by decide) (by decide) (fun K hK => ?_) (fun K hK => ?_)
           ·skip
            refine goes_ Try.func144 (by kernel_rfl) rfl #[.int .i64 a0_0, .int .i64 a1_0] (by rfl) rfl rfl z4_36 ?_
            with_reducible refine (spec_l05Most.calls a0_0 a1_0 t149 _ A3.out).mono ?_
            rintro e w' ⟨rfl, ⟨nd, rfl⟩⟩
            refine ⟨_, rfl, ?_⟩
            refine hK.out _ _ ⟨(blk_cell BK146.out 0).trans rfl, (blk_cell BK146.out 1).trans rfl, (blk_cell BK146.out 2).trans rfl, (blk_cell BK146.out 3).trans rfl, (blk_cell BK147.out 0).trans rfl, (blk_cell BK147.out 1).trans rfl, (blk_cell BK147.out 2).trans rfl, (blk_cell BK147.out 3).trans rfl⟩ (fun hHeld => ?_)
            clear hK K
            refine norm_ (a' := ?_) ?_ ?_
            rotate_left
            ·show Act.put _ (some 10) _ = _
             simp only [Act.put, List.setIfInBounds_toArray, List.set_cons_zero, List.set_cons_succ, i64_w, i32_w]
             rfl
            exact norm_ z4_35 (hJ4 () _ ⟨hHeld, z4_31, z4_32, z4_33, z4_30⟩)
           ·skip
            refine box_step ?hg (N := 5) ?hd (cs := #[.int .i64 0, .int .i64 0, .int .i64 0, .int .i64 0]) (t := 62) ?hr ?_; (case hd => rfl); (case hg => rfl); (case hr => first | (go_simp; done) | (go_simp; rfl))
            intro gb153 hg w31 hbox hb
            have n0_ := Aside0.mk (blk_belowB BK146 z4_31 hb)
            have n1_ := Aside0.mk (blk_belowB BK147 z4_32 hb)
            have n2_ := Aside0.mk (blk_belowB BK148 z4_33 hb)
            have n3_ := Aside0.mk (below_step z4_30 hb)
            have n4_ := Aside0.mk (hbox)
            have n5_ := Aside0.mk ((by rw [hg]; exact (below_size z4_30) : w.heap.size ≤ gb153))
            have n6_ := Aside0.mk ((by rw [hg]; exact (below_size z4_30) : w.heap.size ≤ gb153))
            have n7_ := Aside0.mk ((by rw [hg]; exact Nat.ne_of_lt (blk_ltB BK146 z4_31) : gb146 ≠ gb153))
            have n8_ := Aside0.mk ((by rw [hg]; exact Nat.ne_of_gt (blk_ltB BK146 z4_31) : gb153 ≠ gb146))
            have n9_ := Aside0.mk ((by rw [hg]; exact Nat.ne_of_lt (blk_ltB BK147 z4_32) : gb147 ≠ gb153))
            have n10_ := Aside0.mk ((by rw [hg]; exact Nat.ne_of_gt (blk_ltB BK147 z4_32) : gb153 ≠ gb147))
            have n11_ := Aside0.mk ((by rw [hg]; exact Nat.ne_of_lt (blk_ltB BK148 z4_33) : gb148 ≠ gb153))
            have n12_ := Aside0.mk ((by rw [hg]; exact Nat.ne_of_gt (blk_ltB BK148 z4_33) : gb153 ≠ gb148))
            clear BK146; clear BK147; clear BK148; clear HB; have BK146 := n0_; have BK147 := n1_; have BK148 := n2_; have HB := n3_; have BK153 := n4_; have GW153 := n5_; have GE153 := n6_; have NB146_153 := n7_; have NB153_146 := n8_; have NB147_153 := n9_; have NB153_147 := n10_; have NB148_153 := n11_; have NB153_148 := n12_; clear n0_ n1_ n2_ n3_ n4_ n5_ n6_ n7_ n8_ n9_ n10_ n11_ n12_; clear hb hbox hg
            refine hK.out _ _ ⟨(blk_cell BK146.out 0).trans rfl, (blk_cell BK146.out 1).trans rfl, (blk_cell BK146.out 2).trans rfl, (blk_cell BK146.out 3).trans rfl, (blk_cell BK147.out 0).trans rfl, (blk_cell BK147.out 1).trans rfl, (blk_cell BK147.out 2).trans rfl, (blk_cell BK147.out 3).trans rfl⟩ (fun hHeld => ?_)
            clear hK K
            refine norm_ (a' := ?_) ?_ ?_
            rotate_left
            ·show Act.put _ (some 5) _ = _
             simp only [Act.put, List.setIfInBounds_toArray, List.set_cons_zero, List.set_cons_succ, i64_w, i32_w]
             rfl
            exact norm_ z4_35 (hJ21 (gb153) _ ⟨hHeld, z4_31, z4_32, z4_33, z4_37, GW153.out, GE153.out, NB146_153.out, NB153_146.out, NB147_153.out, NB153_147.out, NB148_153.out, NB153_148.out, z4_34⟩)
          ·skip
           rintro gb153 w32 ⟨hS_, h0_, h1_, h2_, h3_, h4_, h5_, h6_, h7_, h8_, h9_, h10_, h11_, h12_⟩
           have n0_ : Aside0 (w32.heap[gb146]? = some (.cells #[.int .i64 a0_0, .int .i64 a0_1, .int .i64 a0_2, .int .i64 a0_3] 62 (0, 0))) := ⟨h0_⟩
           have n1_ : Aside0 (w32.heap[gb147]? = some (.cells #[.int .i64 a1_0, .int .i64 a1_1, .int .i64 a1_2, .int .i64 a1_3] 62 (0, 0))) := ⟨h1_⟩
           have n2_ : Aside0 (w32.heap[gb148]? = some (.cells #[.int .i64 0, .int .i64 0, .int .i64 0, .int .i64 0] 62 (0, 0))) := ⟨h2_⟩
           have n3_ : Aside0 (w32.heap[gb153]? = some (.cells #[.int .i64 0, .int .i64 0, .int .i64 0, .int .i64 0] 62 (0, 0))) := ⟨h3_⟩
           have n4_ : Aside0 (w.heap.size ≤ gb153) := ⟨h4_⟩
           have n5_ : Aside0 (w.heap.size ≤ gb153) := ⟨h5_⟩
           have n6_ : Aside0 (gb146 ≠ gb153) := ⟨h6_⟩
           have n7_ : Aside0 (gb153 ≠ gb146) := ⟨h7_⟩
           have n8_ : Aside0 (gb147 ≠ gb153) := ⟨h8_⟩
           have n9_ : Aside0 (gb153 ≠ gb147) := ⟨h9_⟩
           have n10_ : Aside0 (gb148 ≠ gb153) := ⟨h10_⟩
           have n11_ : Aside0 (gb153 ≠ gb148) := ⟨h11_⟩
           have n12_ : Aside0 (Below w.heap.size w w32) := ⟨h12_⟩
           clear BK146; clear BK147; clear BK148; clear HB; clear h0_ h1_ h2_ h3_ h4_ h5_ h6_ h7_ h8_ h9_ h10_ h11_ h12_; have BK146 := n0_; have BK147 := n1_; have BK148 := n2_; have BK153 := n3_; have GW153 := n4_; have GE153 := n5_; have NB146_153 := n6_; have NB153_146 := n7_; have NB147_153 := n8_; have NB153_147 := n9_; have NB148_153 := n10_; have NB153_148 := n11_; have HB := n12_; clear n0_ n1_ n2_ n3_ n4_ n5_ n6_ n7_ n8_ n9_ n10_ n11_ n12_
           have hHeld : w32.cell? ⟨gb146, 0, none⟩ = some (.int .i64 a0_0) ∧ w32.cell? ⟨gb146, 1, none⟩ = some (.int .i64 a0_1) ∧ w32.cell? ⟨gb146, 2, none⟩ = some (.int .i64 a0_2) ∧ w32.cell? ⟨gb146, 3, none⟩ = some (.int .i64 a0_3) ∧ w32.cell? ⟨gb147, 0, none⟩ = some (.int .i64 a1_0) ∧ w32.cell? ⟨gb147, 1, none⟩ = some (.int .i64 a1_1) ∧ w32.cell? ⟨gb147, 2, none⟩ = some (.int .i64 a1_2) ∧ w32.cell? ⟨gb147, 3, none⟩ = some (.int .i64 a1_3) := hS_
           refine norm_ (a' := ?_) ?_ ?_
           rotate_left
           ·simp only [putAll, Act.put, List.setIfInBounds_toArray, List.set_cons_zero, List.set_cons_succ]
            rfl
           refine one_ (i := 4) (N := some 10) y4_19 rfl rfl (one_of HT_.out (by kernel_rfl)) (by decide) (fun K hK => ?_)
           refine goes_ Try.func144 (by kernel_rfl) rfl #[.int .i64 a0_0, .int .i64 a1_0] (by rfl) rfl rfl z4_36 ?_
           with_reducible refine (spec_l05Most.calls a0_0 a1_0 t149 _ A3.out).mono ?_
           rintro e w' ⟨rfl, ⟨nd, rfl⟩⟩
           refine ⟨_, rfl, ?_⟩
           refine hK.out _ _ ⟨(blk_cell BK146.out 0).trans rfl, (blk_cell BK146.out 1).trans rfl, (blk_cell BK146.out 2).trans rfl, (blk_cell BK146.out 3).trans rfl, (blk_cell BK147.out 0).trans rfl, (blk_cell BK147.out 1).trans rfl, (blk_cell BK147.out 2).trans rfl, (blk_cell BK147.out 3).trans rfl⟩ (fun hHeld => ?_)
           clear hK K
           refine norm_ (a' := ?_) ?_ ?_
           rotate_left
           ·show Act.put _ (some 10) _ = _
            simp only [Act.put, List.setIfInBounds_toArray, List.set_cons_zero, List.set_cons_succ, i64_w, i32_w]
            rfl
           exact norm_ z4_35 (hJ4_21 (gb153) _ ⟨hHeld, z4_31, z4_32, z4_33, z4_37, GW153.out, GE153.out, NB146_153.out, NB153_146.out, NB147_153.out, NB153_147.out, NB148_153.out, NB153_148.out, z4_34⟩)
         ·skip
          rintro _ w31 ⟨hS_, h0_, h1_, h2_, h3_⟩
          have n0_ : Aside0 (w31.heap[gb146]? = some (.cells #[.int .i64 a0_0, .int .i64 a0_1, .int .i64 a0_2, .int .i64 a0_3] 62 (0, 0))) := ⟨h0_⟩
          have n1_ : Aside0 (w31.heap[gb147]? = some (.cells #[.int .i64 a1_0, .int .i64 a1_1, .int .i64 a1_2, .int .i64 a1_3] 62 (0, 0))) := ⟨h1_⟩
          have n2_ : Aside0 (w31.heap[gb148]? = some (.cells #[.int .i64 0, .int .i64 0, .int .i64 0, .int .i64 0] 62 (0, 0))) := ⟨h2_⟩
          have n3_ : Aside0 (Below w.heap.size w w31) := ⟨h3_⟩
          clear BK146; clear BK147; clear BK148; clear HB; clear h0_ h1_ h2_ h3_; have BK146 := n0_; have BK147 := n1_; have BK148 := n2_; have HB := n3_; clear n0_ n1_ n2_ n3_
          have hHeld : w31.cell? ⟨gb146, 0, none⟩ = some (.int .i64 a0_0) ∧ w31.cell? ⟨gb146, 1, none⟩ = some (.int .i64 a0_1) ∧ w31.cell? ⟨gb146, 2, none⟩ = some (.int .i64 a0_2) ∧ w31.cell? ⟨gb146, 3, none⟩ = some (.int .i64 a0_3) ∧ w31.cell? ⟨gb147, 0, none⟩ = some (.int .i64 a1_0) ∧ w31.cell? ⟨gb147, 1, none⟩ = some (.int .i64 a1_1) ∧ w31.cell? ⟨gb147, 2, none⟩ = some (.int .i64 a1_2) ∧ w31.cell? ⟨gb147, 3, none⟩ = some (.int .i64 a1_3) := hS_
          refine norm_ (a' := ?_) ?_ ?_
          rotate_left
          ·simp only [putAll, Act.put, List.setIfInBounds_toArray, List.set_cons_zero, List.set_cons_succ]
           rfl
          refine two_ (i := 9) (j := 21) (Ni := some 15) (Nj := some 5) y4_20 y4_19 rfl rfl rfl rfl (two_of HT_.out (by kernel_rfl)) (by decide) (by decide) (fun K hK => ?_) (fun K hK => ?_)
          ·skip
           refine goes_ Try.func144 (by kernel_rfl) rfl #[.int .i64 a0_1, .int .i64 a1_1] (by rfl) rfl rfl z4_36 ?_
           with_reducible refine (spec_l05Most.calls a0_1 a1_1 t150 _ A4.out).mono ?_
           rintro e w' ⟨rfl, ⟨nd, rfl⟩⟩
           refine ⟨_, rfl, ?_⟩
           refine hK.out _ _ ⟨(blk_cell BK146.out 0).trans rfl, (blk_cell BK146.out 1).trans rfl, (blk_cell BK146.out 2).trans rfl, (blk_cell BK146.out 3).trans rfl, (blk_cell BK147.out 0).trans rfl, (blk_cell BK147.out 1).trans rfl, (blk_cell BK147.out 2).trans rfl, (blk_cell BK147.out 3).trans rfl⟩ (fun hHeld => ?_)
           clear hK K
           refine norm_ (a' := ?_) ?_ ?_
           rotate_left
           ·show Act.put _ (some 15) _ = _
            simp only [Act.put, List.setIfInBounds_toArray, List.set_cons_zero, List.set_cons_succ, i64_w, i32_w]
            rfl
           exact norm_ z4_35 (hJ4_9 () _ ⟨hHeld, z4_31, z4_32, z4_33, z4_30⟩)
          ·skip
           refine box_step ?hg (N := 5) ?hd (cs := #[.int .i64 0, .int .i64 0, .int .i64 0, .int .i64 0]) (t := 62) ?hr ?_; (case hd => rfl); (case hg => rfl); (case hr => first | (go_simp; done) | (go_simp; rfl))
           intro gb153 hg w32 hbox hb
           have n0_ := Aside0.mk (blk_belowB BK146 z4_31 hb)
           have n1_ := Aside0.mk (blk_belowB BK147 z4_32 hb)
           have n2_ := Aside0.mk (blk_belowB BK148 z4_33 hb)
           have n3_ := Aside0.mk (below_step z4_30 hb)
           have n4_ := Aside0.mk (hbox)
           have n5_ := Aside0.mk ((by rw [hg]; exact (below_size z4_30) : w.heap.size ≤ gb153))
           have n6_ := Aside0.mk ((by rw [hg]; exact (below_size z4_30) : w.heap.size ≤ gb153))
           have n7_ := Aside0.mk ((by rw [hg]; exact Nat.ne_of_lt (blk_ltB BK146 z4_31) : gb146 ≠ gb153))
           have n8_ := Aside0.mk ((by rw [hg]; exact Nat.ne_of_gt (blk_ltB BK146 z4_31) : gb153 ≠ gb146))
           have n9_ := Aside0.mk ((by rw [hg]; exact Nat.ne_of_lt (blk_ltB BK147 z4_32) : gb147 ≠ gb153))
           have n10_ := Aside0.mk ((by rw [hg]; exact Nat.ne_of_gt (blk_ltB BK147 z4_32) : gb153 ≠ gb147))
           have n11_ := Aside0.mk ((by rw [hg]; exact Nat.ne_of_lt (blk_ltB BK148 z4_33) : gb148 ≠ gb153))
           have n12_ := Aside0.mk ((by rw [hg]; exact Nat.ne_of_gt (blk_ltB BK148 z4_33) : gb153 ≠ gb148))
           clear BK146; clear BK147; clear BK148; clear HB; have BK146 := n0_; have BK147 := n1_; have BK148 := n2_; have HB := n3_; have BK153 := n4_; have GW153 := n5_; have GE153 := n6_; have NB146_153 := n7_; have NB153_146 := n8_; have NB147_153 := n9_; have NB153_147 := n10_; have NB148_153 := n11_; have NB153_148 := n12_; clear n0_ n1_ n2_ n3_ n4_ n5_ n6_ n7_ n8_ n9_ n10_ n11_ n12_; clear hb hbox hg
           refine hK.out _ _ ⟨(blk_cell BK146.out 0).trans rfl, (blk_cell BK146.out 1).trans rfl, (blk_cell BK146.out 2).trans rfl, (blk_cell BK146.out 3).trans rfl, (blk_cell BK147.out 0).trans rfl, (blk_cell BK147.out 1).trans rfl, (blk_cell BK147.out 2).trans rfl, (blk_cell BK147.out 3).trans rfl⟩ (fun hHeld => ?_)
           clear hK K
           refine norm_ (a' := ?_) ?_ ?_
           rotate_left
           ·show Act.put _ (some 5) _ = _
            simp only [Act.put, List.setIfInBounds_toArray, List.set_cons_zero, List.set_cons_succ, i64_w, i32_w]
            rfl
           exact norm_ z4_35 (hJ4_21 (gb153) _ ⟨hHeld, z4_31, z4_32, z4_33, z4_37, GW153.out, GE153.out, NB146_153.out, NB153_146.out, NB147_153.out, NB153_147.out, NB148_153.out, NB153_148.out, z4_34⟩)
        ·skip
         rintro gb153 w32 ⟨hS_, h0_, h1_, h2_, h3_, h4_, h5_, h6_, h7_, h8_, h9_, h10_, h11_, h12_⟩
         have n0_ : Aside0 (w32.heap[gb146]? = some (.cells #[.int .i64 a0_0, .int .i64 a0_1, .int .i64 a0_2, .int .i64 a0_3] 62 (0, 0))) := ⟨h0_⟩
         have n1_ : Aside0 (w32.heap[gb147]? = some (.cells #[.int .i64 a1_0, .int .i64 a1_1, .int .i64 a1_2, .int .i64 a1_3] 62 (0, 0))) := ⟨h1_⟩
         have n2_ : Aside0 (w32.heap[gb148]? = some (.cells #[.int .i64 0, .int .i64 0, .int .i64 0, .int .i64 0] 62 (0, 0))) := ⟨h2_⟩
         have n3_ : Aside0 (w32.heap[gb153]? = some (.cells #[.int .i64 0, .int .i64 0, .int .i64 0, .int .i64 0] 62 (0, 0))) := ⟨h3_⟩
         have n4_ : Aside0 (w.heap.size ≤ gb153) := ⟨h4_⟩
         have n5_ : Aside0 (w.heap.size ≤ gb153) := ⟨h5_⟩
         have n6_ : Aside0 (gb146 ≠ gb153) := ⟨h6_⟩
         have n7_ : Aside0 (gb153 ≠ gb146) := ⟨h7_⟩
         have n8_ : Aside0 (gb147 ≠ gb153) := ⟨h8_⟩
         have n9_ : Aside0 (gb153 ≠ gb147) := ⟨h9_⟩
         have n10_ : Aside0 (gb148 ≠ gb153) := ⟨h10_⟩
         have n11_ : Aside0 (gb153 ≠ gb148) := ⟨h11_⟩
         have n12_ : Aside0 (Below w.heap.size w w32) := ⟨h12_⟩
         clear BK146; clear BK147; clear BK148; clear HB; clear h0_ h1_ h2_ h3_ h4_ h5_ h6_ h7_ h8_ h9_ h10_ h11_ h12_; have BK146 := n0_; have BK147 := n1_; have BK148 := n2_; have BK153 := n3_; have GW153 := n4_; have GE153 := n5_; have NB146_153 := n6_; have NB153_146 := n7_; have NB147_153 := n8_; have NB153_147 := n9_; have NB148_153 := n10_; have NB153_148 := n11_; have HB := n12_; clear n0_ n1_ n2_ n3_ n4_ n5_ n6_ n7_ n8_ n9_ n10_ n11_ n12_
         have hHeld : w32.cell? ⟨gb146, 0, none⟩ = some (.int .i64 a0_0) ∧ w32.cell? ⟨gb146, 1, none⟩ = some (.int .i64 a0_1) ∧ w32.cell? ⟨gb146, 2, none⟩ = some (.int .i64 a0_2) ∧ w32.cell? ⟨gb146, 3, none⟩ = some (.int .i64 a0_3) ∧ w32.cell? ⟨gb147, 0, none⟩ = some (.int .i64 a1_0) ∧ w32.cell? ⟨gb147, 1, none⟩ = some (.int .i64 a1_1) ∧ w32.cell? ⟨gb147, 2, none⟩ = some (.int .i64 a1_2) ∧ w32.cell? ⟨gb147, 3, none⟩ = some (.int .i64 a1_3) := hS_
         refine norm_ (a' := ?_) ?_ ?_
         rotate_left
         ·simp only [putAll, Act.put, List.setIfInBounds_toArray, List.set_cons_zero, List.set_cons_succ]
          rfl
         refine one_ (i := 9) (N := some 15) y4_21 rfl rfl (one_of HT_.out (by kernel_rfl)) (by decide) (fun K hK => ?_)
         refine goes_ Try.func144 (by kernel_rfl) rfl #[.int .i64 a0_1, .int .i64 a1_1] (by rfl) rfl rfl z4_36 ?_
         with_reducible refine (spec_l05Most.calls a0_1 a1_1 t150 _ A4.out).mono ?_
         rintro e w' ⟨rfl, ⟨nd, rfl⟩⟩
         refine ⟨_, rfl, ?_⟩
         refine hK.out _ _ ⟨(blk_cell BK146.out 0).trans rfl, (blk_cell BK146.out 1).trans rfl, (blk_cell BK146.out 2).trans rfl, (blk_cell BK146.out 3).trans rfl, (blk_cell BK147.out 0).trans rfl, (blk_cell BK147.out 1).trans rfl, (blk_cell BK147.out 2).trans rfl, (blk_cell BK147.out 3).trans rfl⟩ (fun hHeld => ?_)
         clear hK K
         refine norm_ (a' := ?_) ?_ ?_
         rotate_left
         ·show Act.put _ (some 15) _ = _
          simp only [Act.put, List.setIfInBounds_toArray, List.set_cons_zero, List.set_cons_succ, i64_w, i32_w]
          rfl
         exact norm_ z4_35 (hJ4_9_21 (gb153) _ ⟨hHeld, z4_31, z4_32, z4_33, z4_37, GW153.out, GE153.out, NB146_153.out, NB153_146.out, NB147_153.out, NB153_147.out, NB148_153.out, NB153_148.out, z4_34⟩)
       ·skip
        rintro _ w31 ⟨hS_, h0_, h1_, h2_, h3_⟩
        have n0_ : Aside0 (w31.heap[gb146]? = some (.cells #[.int .i64 a0_0, .int .i64 a0_1, .int .i64 a0_2, .int .i64 a0_3] 62 (0, 0))) := ⟨h0_⟩
        have n1_ : Aside0 (w31.heap[gb147]? = some (.cells #[.int .i64 a1_0, .int .i64 a1_1, .int .i64 a1_2, .int .i64 a1_3] 62 (0, 0))) := ⟨h1_⟩
        have n2_ : Aside0 (w31.heap[gb148]? = some (.cells #[.int .i64 0, .int .i64 0, .int .i64 0, .int .i64 0] 62 (0, 0))) := ⟨h2_⟩
        have n3_ : Aside0 (Below w.heap.size w w31) := ⟨h3_⟩
        clear BK146; clear BK147; clear BK148; clear HB; clear h0_ h1_ h2_ h3_; have BK146 := n0_; have BK147 := n1_; have BK148 := n2_; have HB := n3_; clear n0_ n1_ n2_ n3_
        have hHeld : w31.cell? ⟨gb146, 0, none⟩ = some (.int .i64 a0_0) ∧ w31.cell? ⟨gb146, 1, none⟩ = some (.int .i64 a0_1) ∧ w31.cell? ⟨gb146, 2, none⟩ = some (.int .i64 a0_2) ∧ w31.cell? ⟨gb146, 3, none⟩ = some (.int .i64 a0_3) ∧ w31.cell? ⟨gb147, 0, none⟩ = some (.int .i64 a1_0) ∧ w31.cell? ⟨gb147, 1, none⟩ = some (.int .i64 a1_1) ∧ w31.cell? ⟨gb147, 2, none⟩ = some (.int .i64 a1_2) ∧ w31.cell? ⟨gb147, 3, none⟩ = some (.int .i64 a1_3) := hS_
        refine norm_ (a' := ?_) ?_ ?_
        rotate_left
        ·simp only [putAll, Act.put, List.setIfInBounds_toArray, List.set_cons_zero, List.set_cons_succ]
         rfl
        refine two_ (i := 14) (j := 21) (Ni := some 20) (Nj := some 5) y4_22 y4_21 rfl rfl rfl rfl (two_of HT_.out (by kernel_rfl)) (by decide) (by decide) (fun K hK => ?_) (fun K hK => ?_)
        ·skip
         refine goes_ Try.func145 (by kernel_rfl) rfl #[.int .i64 a0_2, .int .i64 a1_2] (by rfl) rfl rfl z4_36 ?_
         with_reducible refine (spec_l05Least.calls a0_2 a1_2 t151 _ A5.out).mono ?_
         rintro e w' ⟨rfl, ⟨nd, rfl⟩⟩
         refine ⟨_, rfl, ?_⟩
         refine hK.out _ _ ⟨(blk_cell BK146.out 0).trans rfl, (blk_cell BK146.out 1).trans rfl, (blk_cell BK146.out 2).trans rfl, (blk_cell BK146.out 3).trans rfl, (blk_cell BK147.out 0).trans rfl, (blk_cell BK147.out 1).trans rfl, (blk_cell BK147.out 2).trans rfl, (blk_cell BK147.out 3).trans rfl⟩ (fun hHeld => ?_)
         clear hK K
         refine norm_ (a' := ?_) ?_ ?_
         rotate_left
         ·show Act.put _ (some 20) _ = _
          simp only [Act.put, List.setIfInBounds_toArray, List.set_cons_zero, List.set_cons_succ, i64_w, i32_w]
          rfl
         exact norm_ z4_35 (hJ4_9_14 () _ ⟨hHeld, z4_31, z4_32, z4_33, z4_30⟩)
        ·skip
         refine box_step ?hg (N := 5) ?hd (cs := #[.int .i64 0, .int .i64 0, .int .i64 0, .int .i64 0]) (t := 62) ?hr ?_; (case hd => rfl); (case hg => rfl); (case hr => first | (go_simp; done) | (go_simp; rfl))
         intro gb153 hg w32 hbox hb
         have n0_ := Aside0.mk (blk_belowB BK146 z4_31 hb)
         have n1_ := Aside0.mk (blk_belowB BK147 z4_32 hb)
         have n2_ := Aside0.mk (blk_belowB BK148 z4_33 hb)
         have n3_ := Aside0.mk (below_step z4_30 hb)
         have n4_ := Aside0.mk (hbox)
         have n5_ := Aside0.mk ((by rw [hg]; exact (below_size z4_30) : w.heap.size ≤ gb153))
         have n6_ := Aside0.mk ((by rw [hg]; exact (below_size z4_30) : w.heap.size ≤ gb153))
         have n7_ := Aside0.mk ((by rw [hg]; exact Nat.ne_of_lt (blk_ltB BK146 z4_31) : gb146 ≠ gb153))
         have n8_ := Aside0.mk ((by rw [hg]; exact Nat.ne_of_gt (blk_ltB BK146 z4_31) : gb153 ≠ gb146))
         have n9_ := Aside0.mk ((by rw [hg]; exact Nat.ne_of_lt (blk_ltB BK147 z4_32) : gb147 ≠ gb153))
         have n10_ := Aside0.mk ((by rw [hg]; exact Nat.ne_of_gt (blk_ltB BK147 z4_32) : gb153 ≠ gb147))
         have n11_ := Aside0.mk ((by rw [hg]; exact Nat.ne_of_lt (blk_ltB BK148 z4_33) : gb148 ≠ gb153))
         have n12_ := Aside0.mk ((by rw [hg]; exact Nat.ne_of_gt (blk_ltB BK148 z4_33) : gb153 ≠ gb148))
         clear BK146; clear BK147; clear BK148; clear HB; have BK146 := n0_; have BK147 := n1_; have BK148 := n2_; have HB := n3_; have BK153 := n4_; have GW153 := n5_; have GE153 := n6_; have NB146_153 := n7_; have NB153_146 := n8_; have NB147_153 := n9_; have NB153_147 := n10_; have NB148_153 := n11_; have NB153_148 := n12_; clear n0_ n1_ n2_ n3_ n4_ n5_ n6_ n7_ n8_ n9_ n10_ n11_ n12_; clear hb hbox hg
         refine hK.out _ _ ⟨(blk_cell BK146.out 0).trans rfl, (blk_cell BK146.out 1).trans rfl, (blk_cell BK146.out 2).trans rfl, (blk_cell BK146.out 3).trans rfl, (blk_cell BK147.out 0).trans rfl, (blk_cell BK147.out 1).trans rfl, (blk_cell BK147.out 2).trans rfl, (blk_cell BK147.out 3).trans rfl⟩ (fun hHeld => ?_)
         clear hK K
         refine norm_ (a' := ?_) ?_ ?_
         rotate_left
         ·show Act.put _ (some 5) _ = _
          simp only [Act.put, List.setIfInBounds_toArray, List.set_cons_zero, List.set_cons_succ, i64_w, i32_w]
          rfl
         exact norm_ z4_35 (hJ4_9_21 (gb153) _ ⟨hHeld, z4_31, z4_32, z4_33, z4_37, GW153.out, GE153.out, NB146_153.out, NB153_146.out, NB147_153.out, NB153_147.out, NB148_153.out, NB153_148.out, z4_34⟩)
      ·skip
       rintro gb153 w32 ⟨hS_, h0_, h1_, h2_, h3_, h4_, h5_, h6_, h7_, h8_, h9_, h10_, h11_, h12_⟩
       have n0_ : Aside0 (w32.heap[gb146]? = some (.cells #[.int .i64 a0_0, .int .i64 a0_1, .int .i64 a0_2, .int .i64 a0_3] 62 (0, 0))) := ⟨h0_⟩
       have n1_ : Aside0 (w32.heap[gb147]? = some (.cells #[.int .i64 a1_0, .int .i64 a1_1, .int .i64 a1_2, .int .i64 a1_3] 62 (0, 0))) := ⟨h1_⟩
       have n2_ : Aside0 (w32.heap[gb148]? = some (.cells #[.int .i64 0, .int .i64 0, .int .i64 0, .int .i64 0] 62 (0, 0))) := ⟨h2_⟩
       have n3_ : Aside0 (w32.heap[gb153]? = some (.cells #[.int .i64 0, .int .i64 0, .int .i64 0, .int .i64 0] 62 (0, 0))) := ⟨h3_⟩
       have n4_ : Aside0 (w.heap.size ≤ gb153) := ⟨h4_⟩
       have n5_ : Aside0 (w.heap.size ≤ gb153) := ⟨h5_⟩
       have n6_ : Aside0 (gb146 ≠ gb153) := ⟨h6_⟩
       have n7_ : Aside0 (gb153 ≠ gb146) := ⟨h7_⟩
       have n8_ : Aside0 (gb147 ≠ gb153) := ⟨h8_⟩
       have n9_ : Aside0 (gb153 ≠ gb147) := ⟨h9_⟩
       have n10_ : Aside0 (gb148 ≠ gb153) := ⟨h10_⟩
       have n11_ : Aside0 (gb153 ≠ gb148) := ⟨h11_⟩
       have n12_ : Aside0 (Below w.heap.size w w32) := ⟨h12_⟩
       clear BK146; clear BK147; clear BK148; clear HB; clear h0_ h1_ h2_ h3_ h4_ h5_ h6_ h7_ h8_ h9_ h10_ h11_ h12_; have BK146 := n0_; have BK147 := n1_; have BK148 := n2_; have BK153 := n3_; have GW153 := n4_; have GE153 := n5_; have NB146_153 := n6_; have NB153_146 := n7_; have NB147_153 := n8_; have NB153_147 := n9_; have NB148_153 := n10_; have NB153_148 := n11_; have HB := n12_; clear n0_ n1_ n2_ n3_ n4_ n5_ n6_ n7_ n8_ n9_ n10_ n11_ n12_
       have hHeld : w32.cell? ⟨gb146, 0, none⟩ = some (.int .i64 a0_0) ∧ w32.cell? ⟨gb146, 1, none⟩ = some (.int .i64 a0_1) ∧ w32.cell? ⟨gb146, 2, none⟩ = some (.int .i64 a0_2) ∧ w32.cell? ⟨gb146, 3, none⟩ = some (.int .i64 a0_3) ∧ w32.cell? ⟨gb147, 0, none⟩ = some (.int .i64 a1_0) ∧ w32.cell? ⟨gb147, 1, none⟩ = some (.int .i64 a1_1) ∧ w32.cell? ⟨gb147, 2, none⟩ = some (.int .i64 a1_2) ∧ w32.cell? ⟨gb147, 3, none⟩ = some (.int .i64 a1_3) := hS_
       refine norm_ (a' := ?_) ?_ ?_
       rotate_left
       ·simp only [putAll, Act.put, List.setIfInBounds_toArray, List.set_cons_zero, List.set_cons_succ]
        rfl
       refine one_ (i := 14) (N := some 20) y4_23 rfl rfl (one_of HT_.out (by kernel_rfl)) (by decide) (fun K hK => ?_)
       refine goes_ Try.func145 (by kernel_rfl) rfl #[.int .i64 a0_2, .int .i64 a1_2] (by rfl) rfl rfl z4_36 ?_
       with_reducible refine (spec_l05Least.calls a0_2 a1_2 t151 _ A5.out).mono ?_
       rintro e w' ⟨rfl, ⟨nd, rfl⟩⟩
       refine ⟨_, rfl, ?_⟩
       refine hK.out _ _ ⟨(blk_cell BK146.out 0).trans rfl, (blk_cell BK146.out 1).trans rfl, (blk_cell BK146.out 2).trans rfl, (blk_cell BK146.out 3).trans rfl, (blk_cell BK147.out 0).trans rfl, (blk_cell BK147.out 1).trans rfl, (blk_cell BK147.out 2).trans rfl, (blk_cell BK147.out 3).trans rfl⟩ (fun hHeld => ?_)
       clear hK K
       refine norm_ (a' := ?_) ?_ ?_
       rotate_left
       ·show Act.put _ (some 20) _ = _
        simp only [Act.put, List.setIfInBounds_toArray, List.set_cons_zero, List.set_cons_succ, i64_w, i32_w]
        rfl
       exact norm_ z4_35 (hJ4_9_14_21 (gb153) _ ⟨hHeld, z4_31, z4_32, z4_33, z4_37, GW153.out, GE153.out, NB146_153.out, NB153_146.out, NB147_153.out, NB153_147.out, NB148_153.out, NB153_148.out, z4_34⟩)
     ·skip
      rintro _ w31 ⟨hS_, h0_, h1_, h2_, h3_⟩
      have n0_ : Aside0 (w31.heap[gb146]? = some (.cells #[.int .i64 a0_0, .int .i64 a0_1, .int .i64 a0_2, .int .i64 a0_3] 62 (0, 0))) := ⟨h0_⟩
      have n1_ : Aside0 (w31.heap[gb147]? = some (.cells #[.int .i64 a1_0, .int .i64 a1_1, .int .i64 a1_2, .int .i64 a1_3] 62 (0, 0))) := ⟨h1_⟩
      have n2_ : Aside0 (w31.heap[gb148]? = some (.cells #[.int .i64 0, .int .i64 0, .int .i64 0, .int .i64 0] 62 (0, 0))) := ⟨h2_⟩
      have n3_ : Aside0 (Below w.heap.size w w31) := ⟨h3_⟩
      clear BK146; clear BK147; clear BK148; clear HB; clear h0_ h1_ h2_ h3_; have BK146 := n0_; have BK147 := n1_; have BK148 := n2_; have HB := n3_; clear n0_ n1_ n2_ n3_
      have hHeld : w31.cell? ⟨gb146, 0, none⟩ = some (.int .i64 a0_0) ∧ w31.cell? ⟨gb146, 1, none⟩ = some (.int .i64 a0_1) ∧ w31.cell? ⟨gb146, 2, none⟩ = some (.int .i64 a0_2) ∧ w31.cell? ⟨gb146, 3, none⟩ = some (.int .i64 a0_3) ∧ w31.cell? ⟨gb147, 0, none⟩ = some (.int .i64 a1_0) ∧ w31.cell? ⟨gb147, 1, none⟩ = some (.int .i64 a1_1) ∧ w31.cell? ⟨gb147, 2, none⟩ = some (.int .i64 a1_2) ∧ w31.cell? ⟨gb147, 3, none⟩ = some (.int .i64 a1_3) := hS_
      refine norm_ (a' := ?_) ?_ ?_
      rotate_left
      ·simp only [putAll, Act.put, List.setIfInBounds_toArray, List.set_cons_zero, List.set_cons_succ]
       rfl
      refine two_ (i := 19) (j := 21) (Ni := some 25) (Nj := some 5) y4_24 y4_23 rfl rfl rfl rfl (two_of HT_.out (by kernel_rfl)) (by decide) (by decide) (fun K hK => ?_) (fun K hK => ?_)
      ·skip
       refine goes_ Try.func145 (by kernel_rfl) rfl #[.int .i64 a0_3, .int .i64 a1_3] (by rfl) rfl rfl z4_36 ?_
       with_reducible refine (spec_l05Least.calls a0_3 a1_3 t152 _ A6.out).mono ?_
       rintro e w' ⟨rfl, ⟨nd, rfl⟩⟩
       refine ⟨_, rfl, ?_⟩
       refine hK.out _ _ ⟨(blk_cell BK146.out 0).trans rfl, (blk_cell BK146.out 1).trans rfl, (blk_cell BK146.out 2).trans rfl, (blk_cell BK146.out 3).trans rfl, (blk_cell BK147.out 0).trans rfl, (blk_cell BK147.out 1).trans rfl, (blk_cell BK147.out 2).trans rfl, (blk_cell BK147.out 3).trans rfl⟩ (fun hHeld => ?_)
       clear hK K
       refine norm_ (a' := ?_) ?_ ?_
       rotate_left
       ·show Act.put _ (some 25) _ = _
        simp only [Act.put, List.setIfInBounds_toArray, List.set_cons_zero, List.set_cons_succ, i64_w, i32_w]
        rfl
       refine pure_ (i := 20) (N := some 26) (v := ?_) (a' := ?_) y4_26 rfl rfl (any_of HT_.out (by kernel_rfl)) (fun _ _ _ h => h) (Or.inl ⟨by rfl, ?_⟩) ?_ ?_; rotate_left
       ·intro w'
        go_simp; with_reducible rfl
       rotate_left
       ·exact x4_put
       exact norm_ z4_35 (hJ4_9_14_19 () _ ⟨hHeld, z4_31, z4_32, z4_33, z4_30⟩)
      ·skip
       refine box_step ?hg (N := 5) ?hd (cs := #[.int .i64 0, .int .i64 0, .int .i64 0, .int .i64 0]) (t := 62) ?hr ?_; (case hd => rfl); (case hg => rfl); (case hr => first | (go_simp; done) | (go_simp; rfl))
       intro gb153 hg w32 hbox hb
       have n0_ := Aside0.mk (blk_belowB BK146 z4_31 hb)
       have n1_ := Aside0.mk (blk_belowB BK147 z4_32 hb)
       have n2_ := Aside0.mk (blk_belowB BK148 z4_33 hb)
       have n3_ := Aside0.mk (below_step z4_30 hb)
       have n4_ := Aside0.mk (hbox)
       have n5_ := Aside0.mk ((by rw [hg]; exact (below_size z4_30) : w.heap.size ≤ gb153))
       have n6_ := Aside0.mk ((by rw [hg]; exact (below_size z4_30) : w.heap.size ≤ gb153))
       have n7_ := Aside0.mk ((by rw [hg]; exact Nat.ne_of_lt (blk_ltB BK146 z4_31) : gb146 ≠ gb153))
       have n8_ := Aside0.mk ((by rw [hg]; exact Nat.ne_of_gt (blk_ltB BK146 z4_31) : gb153 ≠ gb146))
       have n9_ := Aside0.mk ((by rw [hg]; exact Nat.ne_of_lt (blk_ltB BK147 z4_32) : gb147 ≠ gb153))
       have n10_ := Aside0.mk ((by rw [hg]; exact Nat.ne_of_gt (blk_ltB BK147 z4_32) : gb153 ≠ gb147))
       have n11_ := Aside0.mk ((by rw [hg]; exact Nat.ne_of_lt (blk_ltB BK148 z4_33) : gb148 ≠ gb153))
       have n12_ := Aside0.mk ((by rw [hg]; exact Nat.ne_of_gt (blk_ltB BK148 z4_33) : gb153 ≠ gb148))
       clear BK146; clear BK147; clear BK148; clear HB; have BK146 := n0_; have BK147 := n1_; have BK148 := n2_; have HB := n3_; have BK153 := n4_; have GW153 := n5_; have GE153 := n6_; have NB146_153 := n7_; have NB153_146 := n8_; have NB147_153 := n9_; have NB153_147 := n10_; have NB148_153 := n11_; have NB153_148 := n12_; clear n0_ n1_ n2_ n3_ n4_ n5_ n6_ n7_ n8_ n9_ n10_ n11_ n12_; clear hb hbox hg
       refine hK.out _ _ ⟨(blk_cell BK146.out 0).trans rfl, (blk_cell BK146.out 1).trans rfl, (blk_cell BK146.out 2).trans rfl, (blk_cell BK146.out 3).trans rfl, (blk_cell BK147.out 0).trans rfl, (blk_cell BK147.out 1).trans rfl, (blk_cell BK147.out 2).trans rfl, (blk_cell BK147.out 3).trans rfl⟩ (fun hHeld => ?_)
       clear hK K
       refine norm_ (a' := ?_) ?_ ?_
       rotate_left
       ·show Act.put _ (some 5) _ = _
        simp only [Act.put, List.setIfInBounds_toArray, List.set_cons_zero, List.set_cons_succ, i64_w, i32_w]
        rfl
       exact norm_ z4_35 (hJ4_9_14_21 (gb153) _ ⟨hHeld, z4_31, z4_32, z4_33, z4_37, GW153.out, GE153.out, NB146_153.out, NB153_146.out, NB147_153.out, NB153_147.out, NB148_153.out, NB153_148.out, z4_34⟩)
    ·skip
     rintro gb153 w32 ⟨hS_, h0_, h1_, h2_, h3_, h4_, h5_, h6_, h7_, h8_, h9_, h10_, h11_, h12_⟩
     have n0_ : Aside0 (w32.heap[gb146]? = some (.cells #[.int .i64 a0_0, .int .i64 a0_1, .int .i64 a0_2, .int .i64 a0_3] 62 (0, 0))) := ⟨h0_⟩
     have n1_ : Aside0 (w32.heap[gb147]? = some (.cells #[.int .i64 a1_0, .int .i64 a1_1, .int .i64 a1_2, .int .i64 a1_3] 62 (0, 0))) := ⟨h1_⟩
     have n2_ : Aside0 (w32.heap[gb148]? = some (.cells #[.int .i64 0, .int .i64 0, .int .i64 0, .int .i64 0] 62 (0, 0))) := ⟨h2_⟩
     have n3_ : Aside0 (w32.heap[gb153]? = some (.cells #[.int .i64 0, .int .i64 0, .int .i64 0, .int .i64 0] 62 (0, 0))) := ⟨h3_⟩
     have n4_ : Aside0 (w.heap.size ≤ gb153) := ⟨h4_⟩
     have n5_ : Aside0 (w.heap.size ≤ gb153) := ⟨h5_⟩
     have n6_ : Aside0 (gb146 ≠ gb153) := ⟨h6_⟩
     have n7_ : Aside0 (gb153 ≠ gb146) := ⟨h7_⟩
     have n8_ : Aside0 (gb147 ≠ gb153) := ⟨h8_⟩
     have n9_ : Aside0 (gb153 ≠ gb147) := ⟨h9_⟩
     have n10_ : Aside0 (gb148 ≠ gb153) := ⟨h10_⟩
     have n11_ : Aside0 (gb153 ≠ gb148) := ⟨h11_⟩
     have n12_ : Aside0 (Below w.heap.size w w32) := ⟨h12_⟩
     clear BK146; clear BK147; clear BK148; clear HB; clear h0_ h1_ h2_ h3_ h4_ h5_ h6_ h7_ h8_ h9_ h10_ h11_ h12_; have BK146 := n0_; have BK147 := n1_; have BK148 := n2_; have BK153 := n3_; have GW153 := n4_; have GE153 := n5_; have NB146_153 := n6_; have NB153_146 := n7_; have NB147_153 := n8_; have NB153_147 := n9_; have NB148_153 := n10_; have NB153_148 := n11_; have HB := n12_; clear n0_ n1_ n2_ n3_ n4_ n5_ n6_ n7_ n8_ n9_ n10_ n11_ n12_
     have hHeld : w32.cell? ⟨gb146, 0, none⟩ = some (.int .i64 a0_0) ∧ w32.cell? ⟨gb146, 1, none⟩ = some (.int .i64 a0_1) ∧ w32.cell? ⟨gb146, 2, none⟩ = some (.int .i64 a0_2) ∧ w32.cell? ⟨gb146, 3, none⟩ = some (.int .i64 a0_3) ∧ w32.cell? ⟨gb147, 0, none⟩ = some (.int .i64 a1_0) ∧ w32.cell? ⟨gb147, 1, none⟩ = some (.int .i64 a1_1) ∧ w32.cell? ⟨gb147, 2, none⟩ = some (.int .i64 a1_2) ∧ w32.cell? ⟨gb147, 3, none⟩ = some (.int .i64 a1_3) := hS_
     refine norm_ (a' := ?_) ?_ ?_
     rotate_left
     ·simp only [putAll, Act.put, List.setIfInBounds_toArray, List.set_cons_zero, List.set_cons_succ]
      rfl
     refine one_ (i := 19) (N := some 25) y4_25 rfl rfl (one_of HT_.out (by kernel_rfl)) (by decide) (fun K hK => ?_)
     refine goes_ Try.func145 (by kernel_rfl) rfl #[.int .i64 a0_3, .int .i64 a1_3] (by rfl) rfl rfl z4_36 ?_
     with_reducible refine (spec_l05Least.calls a0_3 a1_3 t152 _ A6.out).mono ?_
     rintro e w' ⟨rfl, ⟨nd, rfl⟩⟩
     refine ⟨_, rfl, ?_⟩
     refine hK.out _ _ ⟨(blk_cell BK146.out 0).trans rfl, (blk_cell BK146.out 1).trans rfl, (blk_cell BK146.out 2).trans rfl, (blk_cell BK146.out 3).trans rfl, (blk_cell BK147.out 0).trans rfl, (blk_cell BK147.out 1).trans rfl, (blk_cell BK147.out 2).trans rfl, (blk_cell BK147.out 3).trans rfl⟩ (fun hHeld => ?_)
     clear hK K
     refine norm_ (a' := ?_) ?_ ?_
     rotate_left
     ·show Act.put _ (some 25) _ = _
      simp only [Act.put, List.setIfInBounds_toArray, List.set_cons_zero, List.set_cons_succ, i64_w, i32_w]
      rfl
     refine pure_ (i := 20) (N := some 26) (v := ?_) (a' := ?_) y4_27 rfl rfl (any_of HT_.out (by kernel_rfl)) (fun _ _ _ h => h) (Or.inl ⟨by rfl, ?_⟩) ?_ ?_; rotate_left
     ·intro w'
      go_simp; with_reducible rfl
     rotate_left
     ·exact x4_put
     exact norm_ z4_35 (hJ4_9_14_19_21 (gb153) _ ⟨hHeld, z4_31, z4_32, z4_33, z4_37, GW153.out, GE153.out, NB146_153.out, NB153_146.out, NB147_153.out, NB153_147.out, NB148_153.out, NB153_148.out, z4_34⟩)
   ·skip
    rintro _ w31 ⟨hS_, h0_, h1_, h2_, h3_⟩
    have n0_ : Aside0 (w31.heap[gb146]? = some (.cells #[.int .i64 a0_0, .int .i64 a0_1, .int .i64 a0_2, .int .i64 a0_3] 62 (0, 0))) := ⟨h0_⟩
    have n1_ : Aside0 (w31.heap[gb147]? = some (.cells #[.int .i64 a1_0, .int .i64 a1_1, .int .i64 a1_2, .int .i64 a1_3] 62 (0, 0))) := ⟨h1_⟩
    have n2_ : Aside0 (w31.heap[gb148]? = some (.cells #[.int .i64 0, .int .i64 0, .int .i64 0, .int .i64 0] 62 (0, 0))) := ⟨h2_⟩
    have n3_ : Aside0 (Below w.heap.size w w31) := ⟨h3_⟩
    clear BK146; clear BK147; clear BK148; clear HB; clear h0_ h1_ h2_ h3_; have BK146 := n0_; have BK147 := n1_; have BK148 := n2_; have HB := n3_; clear n0_ n1_ n2_ n3_
    have hHeld : w31.cell? ⟨gb146, 0, none⟩ = some (.int .i64 a0_0) ∧ w31.cell? ⟨gb146, 1, none⟩ = some (.int .i64 a0_1) ∧ w31.cell? ⟨gb146, 2, none⟩ = some (.int .i64 a0_2) ∧ w31.cell? ⟨gb146, 3, none⟩ = some (.int .i64 a0_3) ∧ w31.cell? ⟨gb147, 0, none⟩ = some (.int .i64 a1_0) ∧ w31.cell? ⟨gb147, 1, none⟩ = some (.int .i64 a1_1) ∧ w31.cell? ⟨gb147, 2, none⟩ = some (.int .i64 a1_2) ∧ w31.cell? ⟨gb147, 3, none⟩ = some (.int .i64 a1_3) := hS_
    refine norm_ (a' := ?_) ?_ ?_
    rotate_left
    ·simp only [putAll, Act.put, List.setIfInBounds_toArray, List.set_cons_zero, List.set_cons_succ]
     rfl
    refine one_ (i := 21) (N := some 5) y4_27 rfl rfl (one_of HT_.out (by kernel_rfl)) (by decide) (fun K hK => ?_)
    refine box_step ?hg (N := 5) ?hd (cs := #[.int .i64 0, .int .i64 0, .int .i64 0, .int .i64 0]) (t := 62) ?hr ?_; (case hd => rfl); (case hg => rfl); (case hr => first | (go_simp; done) | (go_simp; rfl))
    intro gb153 hg w32 hbox hb
    have n0_ := Aside0.mk (blk_belowB BK146 z4_31 hb)
    have n1_ := Aside0.mk (blk_belowB BK147 z4_32 hb)
    have n2_ := Aside0.mk (blk_belowB BK148 z4_33 hb)
    have n3_ := Aside0.mk (below_step z4_30 hb)
    have n4_ := Aside0.mk (hbox)
    have n5_ := Aside0.mk ((by rw [hg]; exact (below_size z4_30) : w.heap.size ≤ gb153))
    have n6_ := Aside0.mk ((by rw [hg]; exact (below_size z4_30) : w.heap.size ≤ gb153))
    have n7_ := Aside0.mk ((by rw [hg]; exact Nat.ne_of_lt (blk_ltB BK146 z4_31) : gb146 ≠ gb153))
    have n8_ := Aside0.mk ((by rw [hg]; exact Nat.ne_of_gt (blk_ltB BK146 z4_31) : gb153 ≠ gb146))
    have n9_ := Aside0.mk ((by rw [hg]; exact Nat.ne_of_lt (blk_ltB BK147 z4_32) : gb147 ≠ gb153))
    have n10_ := Aside0.mk ((by rw [hg]; exact Nat.ne_of_gt (blk_ltB BK147 z4_32) : gb153 ≠ gb147))
    have n11_ := Aside0.mk ((by rw [hg]; exact Nat.ne_of_lt (blk_ltB BK148 z4_33) : gb148 ≠ gb153))
    have n12_ := Aside0.mk ((by rw [hg]; exact Nat.ne_of_gt (blk_ltB BK148 z4_33) : gb153 ≠ gb148))
    clear BK146; clear BK147; clear BK148; clear HB; have BK146 := n0_; have BK147 := n1_; have BK148 := n2_; have HB := n3_; have BK153 := n4_; have GW153 := n5_; have GE153 := n6_; have NB146_153 := n7_; have NB153_146 := n8_; have NB147_153 := n9_; have NB153_147 := n10_; have NB148_153 := n11_; have NB153_148 := n12_; clear n0_ n1_ n2_ n3_ n4_ n5_ n6_ n7_ n8_ n9_ n10_ n11_ n12_; clear hb hbox hg
    refine hK.out _ _ ⟨(blk_cell BK146.out 0).trans rfl, (blk_cell BK146.out 1).trans rfl, (blk_cell BK146.out 2).trans rfl, (blk_cell BK146.out 3).trans rfl, (blk_cell BK147.out 0).trans rfl, (blk_cell BK147.out 1).trans rfl, (blk_cell BK147.out 2).trans rfl, (blk_cell BK147.out 3).trans rfl⟩ (fun hHeld => ?_)
    clear hK K
    refine norm_ (a' := ?_) ?_ ?_
    rotate_left
    ·show Act.put _ (some 5) _ = _
     simp only [Act.put, List.setIfInBounds_toArray, List.set_cons_zero, List.set_cons_succ, i64_w, i32_w]
     rfl
    exact norm_ z4_35 (hJ4_9_14_19_21 (gb153) _ ⟨hHeld, z4_31, z4_32, z4_33, z4_37, GW153.out, GE153.out, NB146_153.out, NB153_146.out, NB147_153.out, NB153_147.out, NB148_153.out, NB153_148.out, z4_34⟩)
  rintro gb153 w32 ⟨hS_, h0_, h1_, h2_, h3_, h4_, h5_, h6_, h7_, h8_, h9_, h10_, h11_, h12_⟩
  have n0_ : Aside0 (w32.heap[gb146]? = some (.cells #[.int .i64 a0_0, .int .i64 a0_1, .int .i64 a0_2, .int .i64 a0_3] 62 (0, 0))) := ⟨h0_⟩
  have n1_ : Aside0 (w32.heap[gb147]? = some (.cells #[.int .i64 a1_0, .int .i64 a1_1, .int .i64 a1_2, .int .i64 a1_3] 62 (0, 0))) := ⟨h1_⟩
  have n2_ : Aside0 (w32.heap[gb148]? = some (.cells #[.int .i64 0, .int .i64 0, .int .i64 0, .int .i64 0] 62 (0, 0))) := ⟨h2_⟩
  have n3_ : Aside0 (w32.heap[gb153]? = some (.cells #[.int .i64 0, .int .i64 0, .int .i64 0, .int .i64 0] 62 (0, 0))) := ⟨h3_⟩
  have n4_ : Aside0 (w.heap.size ≤ gb153) := ⟨h4_⟩
  have n5_ : Aside0 (w.heap.size ≤ gb153) := ⟨h5_⟩
  have n6_ : Aside0 (gb146 ≠ gb153) := ⟨h6_⟩
  have n7_ : Aside0 (gb153 ≠ gb146) := ⟨h7_⟩
  have n8_ : Aside0 (gb147 ≠ gb153) := ⟨h8_⟩
  have n9_ : Aside0 (gb153 ≠ gb147) := ⟨h9_⟩
  have n10_ : Aside0 (gb148 ≠ gb153) := ⟨h10_⟩
  have n11_ : Aside0 (gb153 ≠ gb148) := ⟨h11_⟩
  have n12_ : Aside0 (Below w.heap.size w w32) := ⟨h12_⟩
  clear BK146; clear BK147; clear BK148; clear HB; clear h0_ h1_ h2_ h3_ h4_ h5_ h6_ h7_ h8_ h9_ h10_ h11_ h12_; have BK146 := n0_; have BK147 := n1_; have BK148 := n2_; have BK153 := n3_; have GW153 := n4_; have GE153 := n5_; have NB146_153 := n6_; have NB153_146 := n7_; have NB147_153 := n8_; have NB153_147 := n9_; have NB148_153 := n10_; have NB153_148 := n11_; have HB := n12_; clear n0_ n1_ n2_ n3_ n4_ n5_ n6_ n7_ n8_ n9_ n10_ n11_ n12_
  have hHeld : w32.cell? ⟨gb146, 0, none⟩ = some (.int .i64 a0_0) ∧ w32.cell? ⟨gb146, 1, none⟩ = some (.int .i64 a0_1) ∧ w32.cell? ⟨gb146, 2, none⟩ = some (.int .i64 a0_2) ∧ w32.cell? ⟨gb146, 3, none⟩ = some (.int .i64 a0_3) ∧ w32.cell? ⟨gb147, 0, none⟩ = some (.int .i64 a1_0) ∧ w32.cell? ⟨gb147, 1, none⟩ = some (.int .i64 a1_1) ∧ w32.cell? ⟨gb147, 2, none⟩ = some (.int .i64 a1_2) ∧ w32.cell? ⟨gb147, 3, none⟩ = some (.int .i64 a1_3) := hS_
  refine norm_ (a' := ?_) ?_ ?_
  rotate_left
  ·simp only [putAll, Act.put, List.setIfInBounds_toArray, List.set_cons_zero, List.set_cons_succ]
   rfl
  refine one_ (i := 22) (N := none) y4_28 rfl rfl (one_of HT_.out (by kernel_rfl)) (by decide) (fun K hK => ?_)
  have hs33 : w32.cell? ⟨gb153, 0, none⟩ = some (.int .i64 0) := (blk_cell BK153.out 0).trans rfl
  have hfs33 := blk_frozen BK153.out 0
  have hns33_0 := NB146_153.out; have hns33_1 := NB147_153.out; have hns33_2 := NB148_153.out; have hms33_0 := NB153_146.out; have hms33_1 := NB153_147.out; have hms33_2 := NB153_148.out
  have hs34 : w32.cell? ⟨gb153, 1, none⟩ = some (.int .i64 0) := (blk_cell BK153.out 1).trans rfl
  have hfs34 := blk_frozen BK153.out 1
  have hns34_0 := NB146_153.out; have hns34_1 := NB147_153.out; have hns34_2 := NB148_153.out; have hms34_0 := NB153_146.out; have hms34_1 := NB153_147.out; have hms34_2 := NB153_148.out
  have hs35 : w32.cell? ⟨gb153, 2, none⟩ = some (.int .i64 0) := (blk_cell BK153.out 2).trans rfl
  have hfs35 := blk_frozen BK153.out 2
  have hns35_0 := NB146_153.out; have hns35_1 := NB147_153.out; have hns35_2 := NB148_153.out; have hms35_0 := NB153_146.out; have hms35_1 := NB153_147.out; have hms35_2 := NB153_148.out
  have hs36 : w32.cell? ⟨gb153, 3, none⟩ = some (.int .i64 0) := (blk_cell BK153.out 3).trans rfl
  have hfs36 := blk_frozen BK153.out 3
  have hns36_0 := NB146_153.out; have hns36_1 := NB147_153.out; have hns36_2 := NB148_153.out; have hms36_0 := NB153_146.out; have hms36_1 := NB153_147.out; have hms36_2 := NB153_148.out
  refine skip_ (w1 := ?_) (by rfl) rfl ?_ ?_
  rotate_left
  ·go_simp
   rfl
  refine hK.out _ _ ⟨((cell_far (p := ⟨gb153, _, none⟩) NB146_153.out _).trans (((cell_far (p := ⟨gb153, _, none⟩) NB146_153.out _).trans (((cell_far (p := ⟨gb153, _, none⟩) NB146_153.out _).trans (((cell_far (p := ⟨gb153, _, none⟩) NB146_153.out _).trans (hHeld.1)))))))), ((cell_far (p := ⟨gb153, _, none⟩) NB146_153.out _).trans (((cell_far (p := ⟨gb153, _, none⟩) NB146_153.out _).trans (((cell_far (p := ⟨gb153, _, none⟩) NB146_153.out _).trans (((cell_far (p := ⟨gb153, _, none⟩) NB146_153.out _).trans (hHeld.2.1)))))))), ((cell_far (p := ⟨gb153, _, none⟩) NB146_153.out _).trans (((cell_far (p := ⟨gb153, _, none⟩) NB146_153.out _).trans (((cell_far (p := ⟨gb153, _, none⟩) NB146_153.out _).trans (((cell_far (p := ⟨gb153, _, none⟩) NB146_153.out _).trans (hHeld.2.2.1)))))))), ((cell_far (p := ⟨gb153, _, none⟩) NB146_153.out _).trans (((cell_far (p := ⟨gb153, _, none⟩) NB146_153.out _).trans (((cell_far (p := ⟨gb153, _, none⟩) NB146_153.out _).trans (((cell_far (p := ⟨gb153, _, none⟩) NB146_153.out _).trans (hHeld.2.2.2.1)))))))), ((cell_far (p := ⟨gb153, _, none⟩) NB147_153.out _).trans (((cell_far (p := ⟨gb153, _, none⟩) NB147_153.out _).trans (((cell_far (p := ⟨gb153, _, none⟩) NB147_153.out _).trans (((cell_far (p := ⟨gb153, _, none⟩) NB147_153.out _).trans (hHeld.2.2.2.2.1)))))))), ((cell_far (p := ⟨gb153, _, none⟩) NB147_153.out _).trans (((cell_far (p := ⟨gb153, _, none⟩) NB147_153.out _).trans (((cell_far (p := ⟨gb153, _, none⟩) NB147_153.out _).trans (((cell_far (p := ⟨gb153, _, none⟩) NB147_153.out _).trans (hHeld.2.2.2.2.2.1)))))))), ((cell_far (p := ⟨gb153, _, none⟩) NB147_153.out _).trans (((cell_far (p := ⟨gb153, _, none⟩) NB147_153.out _).trans (((cell_far (p := ⟨gb153, _, none⟩) NB147_153.out _).trans (((cell_far (p := ⟨gb153, _, none⟩) NB147_153.out _).trans (hHeld.2.2.2.2.2.2.1)))))))), ((cell_far (p := ⟨gb153, _, none⟩) NB147_153.out _).trans (((cell_far (p := ⟨gb153, _, none⟩) NB147_153.out _).trans (((cell_far (p := ⟨gb153, _, none⟩) NB147_153.out _).trans (((cell_far (p := ⟨gb153, _, none⟩) NB147_153.out _).trans (hHeld.2.2.2.2.2.2.2))))))))⟩ (fun hHeld => ?_)
  clear hK K
  refine done_ (done_of HT_.out (by kernel_rfl)) ?_
  have hnb37 := NB153_146.out; have hnc37 := NB146_153.out; have hnb38 := NB153_147.out; have hnc38 := NB147_153.out; have hnb39 := NB153_148.out; have hnc39 := NB148_153.out
  obtain ⟨_, _, _, _, _, _, _, _⟩ := be_4 BK153.out
  try go_wp2_with (first | ((with_reducible refine gate_callee (f := 146) rfl ?_); refine goesL_ (some 28) rfl rfl Try.func146 (by kernel_rfl) rfl #[.agg #[.int .i64 t149, .int .i64 t150, .int .i64 t151, .int .i64 t152]] rfl z4_36 ?_; (with_reducible refine (spec_Empty.calls t149 t150 t151 t152 false _ A7.out).mono ?_); rintro e w41 ⟨rfl, hb⟩; refine ⟨_, rfl, ?_⟩; have n0_ := Aside0.mk (blk_belowB BK146 z4_41 hb); have n1_ := Aside0.mk (blk_belowB BK147 z4_42 hb); have n2_ := Aside0.mk (blk_belowB BK148 z4_43 hb); have n3_ := Aside0.mk (blk_below (g := gb153) (o := .cells #[.int .i64 t149, .int .i64 t150, .int .i64 t151, .int .i64 t152] 62 (0, 0)) z4_44 hb); have n4_ := Aside0.mk (below_step z4_34 hb); clear BK146; clear BK147; clear BK148; clear BK153; clear HB; have BK146 := n0_; have BK147 := n1_; have BK148 := n2_; have BK153 := n3_; have HB := n4_; clear n0_ n1_ n2_ n3_ n4_; (try clear hb); obtain ⟨_, _, _, _, _, _, _, _⟩ := be_4 BK153.out; have hnb43 := NB148_146.out; have hnc43 := NB146_148.out; have hnb44 := NB148_147.out; have hnc44 := NB147_148.out; obtain ⟨_, _, _, _, _, _, _, _⟩ := be_4 BK148.out))
  refine bodyPost_ret (results_cell_row rfl _ _ gb148 62 #[.int .i64 t149, .int .i64 t150, .int .i64 t151, .int .i64 t152] (0, 0) _ rfl z4_45 Try.underlying62 rfl (by kernel_rfl)) rfl ?_
  exact ⟨(by first | rfl | (simp [errW_none, errW_some] <;> rfl) | (simp [*, errW_none, errW_some] <;> rfl)), z4_34⟩

end Go.Proofs.Ytndeonfbolookaa.MFnExactMeetMask
