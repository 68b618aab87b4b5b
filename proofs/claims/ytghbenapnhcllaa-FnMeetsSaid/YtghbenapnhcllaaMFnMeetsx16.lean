/- Functions of the program as Lean functions, and the proof that a call comes to just these: machine text of this session's own program (myprint.py). -/
import Derived.Test.YtghbenapnhcllaaMFnMeetsx0
import Derived.Test.YtghbenapnhcllaaMFnMeetsx9
import Derived.Test.YtghbenapnhcllaaMFnMeetsx15
namespace Go.Proofs.Ytghbenapnhcllaa.MFnMeets
open Go.RowKit Go.Proofs.YtghbenapnhcllaaW.PrintWords Go.Proofs.YtghbenapnhcllaaW.PrintLast Go.Proofs.YtghbenapnhcllaaW.PrintMore
attribute [local go_sem] max2_int min2_int max_two min_two max_three min_three max_four min_four   -- for this text's walks alone
set_option linter.unusedVariables false
set_option linter.unusedSimpArgs false

def y16_0 : Array Bool := (bA 23 0)
def y16_1 : Array Bool := (bA 23 1)
def y16_2 : Array Bool := (bA 23 5)
def y16_3 : Array Bool := (bA 23 37)
def y16_4 : Array Bool := (bA 23 165)
def y16_5 : Array Bool := (bA 23 1189)
def y16_6 : Array Bool := (bA 23 5285)
def y16_7 : Array Bool := (bA 23 38053)
def y16_8 : Array Bool := (bA 23 169125)
def y16_9 : Array Bool := (bA 23 169127)
def y16_10 : Array Bool := (bA 23 169135)
def y16_11 : Array Bool := (bA 23 169199)
def y16_12 : Array Bool := (bA 23 169455)
def y16_13 : Array Bool := (bA 23 171503)
def y16_14 : Array Bool := (bA 23 179695)
def y16_15 : Array Bool := (bA 23 245231)
def y16_16 : Array Bool := (bA 23 507375)
def y16_17 : Array Bool := (bA 23 2604527)
def y16_18 : Array Bool := (bA 23 507391)
def y16_19 : Array Bool := (bA 23 2604543)
def y16_20 : Array Bool := (bA 23 507903)
def y16_21 : Array Bool := (bA 23 2605055)
def y16_22 : Array Bool := (bA 23 524287)
def y16_23 : Array Bool := (bA 23 2621439)
def y16_24 : Array Bool := (bA 23 1048575)
def y16_25 : Array Bool := (bA 23 3145727)
def y16_26 : Array Bool := (bA 23 2097151)
def y16_27 : Array Bool := (bA 23 4194303)
def y16_28 : Array Bool := (bA 23 8388607)
theorem x16_put {P : Prop} (h : P := by simp only [Act.put, List.setIfInBounds_toArray, List.set_cons_zero, List.set_cons_succ, i64_w, i32_w]; rfl) : P := h
theorem z16_30 {P : Prop} (h : P := by repeat (first | (with_reducible first | exact HB.out | apply below_alloc | apply pw_below_drewN | apply below_drew1 | refine below_set ?_ GE455.out | refine below_set ?_ GE456.out | refine below_set ?_ GE457.out) | exact HB.out)) : P := h
theorem z16_31 {P : Prop} (h : P := by repeat (first | (with_reducible first | exact HB.out | apply below_alloc | apply pw_below_drewN | apply below_drew1 | refine below_set ?_ GE455.out | refine below_set ?_ GE456.out | refine below_set ?_ GE457.out | refine below_set ?_ GE462.out) | exact HB.out)) : P := h
theorem z16_32 {P : Prop} (h : P := by first | (simp only [putAll, Act.put, List.setIfInBounds_toArray, List.set_cons_zero, List.set_cons_succ]; done) | (simp only [putAll, Act.put, List.setIfInBounds_toArray, List.set_cons_zero, List.set_cons_succ]; rfl)) : P := h
theorem z16_33 {P : Prop} (h : P := by (try simp only [List.map_toArray, List.map_cons, List.map_nil]); first | done | rfl | (simp only [List.length_drop, List.length_take]; rfl)) : P := h
theorem z16_34 {P : Prop} (h : P := by repeat (first | (with_reducible first | exact HB.out | apply below_alloc | apply pw_below_drewN | apply below_drew1 | refine below_set ?_ GE455.out | refine below_set ?_ GE456.out) | exact HB.out)) : P := h
theorem z16_35 {P : Prop} (h : P := by repeat (first | (with_reducible first | exact HB.out | apply below_alloc | apply pw_below_drewN | apply below_drew1 | refine below_set ?_ GE455.out) | exact HB.out)) : P := h
theorem z16_36 {P : Prop} (h : P := by repeat (first | (with_reducible first | exact HB.out | apply below_alloc | apply pw_below_drewN | apply below_drew1) | exact HB.out)) : P := h
theorem z16_37 {P : Prop} (h : P := by (with_reducible repeat (first | refine blk_drewN ?_ _ | refine blk_drew ?_ | refine blk_alloc ?_ _)); refine blk_far ?_ NB455_462.out _; (with_reducible repeat (first | refine blk_drewN ?_ _ | refine blk_drew ?_ | refine blk_alloc ?_ _)); refine blk_far ?_ NB455_462.out _; (with_reducible repeat (first | refine blk_drewN ?_ _ | refine blk_drew ?_ | refine blk_alloc ?_ _)); refine blk_far ?_ NB455_462.out _; (with_reducible repeat (first | refine blk_drewN ?_ _ | refine blk_drew ?_ | refine blk_alloc ?_ _)); refine blk_far ?_ NB455_462.out _; (with_reducible repeat (first | refine blk_drewN ?_ _ | refine blk_drew ?_ | refine blk_alloc ?_ _)); exact BK455.out) : P := h
theorem z16_38 {P : Prop} (h : P := by (with_reducible repeat (first | refine blk_drewN ?_ _ | refine blk_drew ?_ | refine blk_alloc ?_ _)); refine blk_far ?_ NB456_462.out _; (with_reducible repeat (first | refine blk_drewN ?_ _ | refine blk_drew ?_ | refine blk_alloc ?_ _)); refine blk_far ?_ NB456_462.out _; (with_reducible repeat (first | refine blk_drewN ?_ _ | refine blk_drew ?_ | refine blk_alloc ?_ _)); refine blk_far ?_ NB456_462.out _; (with_reducible repeat (first | refine blk_drewN ?_ _ | refine blk_drew ?_ | refine blk_alloc ?_ _)); refine blk_far ?_ NB456_462.out _; (with_reducible repeat (first | refine blk_drewN ?_ _ | refine blk_drew ?_ | refine blk_alloc ?_ _)); exact BK456.out) : P := h
theorem z16_39 {P : Prop} (h : P := by (with_reducible repeat (first | refine blk_drewN ?_ _ | refine blk_drew ?_ | refine blk_alloc ?_ _)); refine blk_far ?_ NB457_462.out _; (with_reducible repeat (first | refine blk_drewN ?_ _ | refine blk_drew ?_ | refine blk_alloc ?_ _)); refine blk_far ?_ NB457_462.out _; (with_reducible repeat (first | refine blk_drewN ?_ _ | refine blk_drew ?_ | refine blk_alloc ?_ _)); refine blk_far ?_ NB457_462.out _; (with_reducible repeat (first | refine blk_drewN ?_ _ | refine blk_drew ?_ | refine blk_alloc ?_ _)); refine blk_far ?_ NB457_462.out _; (with_reducible repeat (first | refine blk_drewN ?_ _ | refine blk_drew ?_ | refine blk_alloc ?_ _)); exact BK457.out) : P := h
theorem z16_40 {P : Prop} (h : P := by apply blk_fin; (focus ((with_reducible repeat (first | apply blk_putQ | refine blk_drewN ?_ _ | refine blk_drew ?_ | refine blk_alloc ?_ _)); exact BK462.out)); first | (simp only [List.setIfInBounds_toArray, List.set_cons_zero, List.set_cons_succ]; done) | rfl) : P := h
theorem z16_41 {P : Prop} (h : P := by apply blk_fin; (focus ((with_reducible repeat (first | apply blk_putQ | refine blk_drewN ?_ _ | refine blk_drew ?_ | refine blk_alloc ?_ _)); exact BK457.out)); first | (simp only [List.setIfInBounds_toArray, List.set_cons_zero, List.set_cons_succ]; done) | rfl) : P := h
/-! ### spec_MeetBox: function 91 -/
def spec_MeetBox.f (a0_0 : Int) (a0_1 : Int) (a0_2 : Int) (a0_3 : Int) (a1_0 : Int) (a1_1 : Int) (a1_2 : Int) (a1_3 : Int) : Option (Int × Int × Int × Int) := (spec_l05Most.f a0_0 a1_0).bind fun t458 => ((spec_l05Most.f a0_1 a1_1).bind fun t459 => ((spec_l05Least.f a0_2 a1_2).bind fun t460 => ((spec_l05Least.f a0_3 a1_3).bind fun t461 => ((spec_Empty.f t458 t459 t460 t461).bind fun t463 => (if t463 = true then (some (0, 0, 0, 0)) else (some (t458, t459, t460, t461)))))))
def spec_MeetBox.T1 : Bool × List (List Nat × List Nat) := (true, [([], []), ([0], [0]), ([], []), ([2], [2]), ([1, 3], [1, 3]), ([], []), ([5], [5]), ([], []), ([7], [7]), ([6, 8, 4], [6, 8]), ([], []), ([10], [10]), ([], []), ([12], [12]), ([11, 13, 9], [11, 13]), ([], []), ([15], [15]), ([], []), ([17], [17]), ([16, 18, 14], [16, 18]), ([4, 9, 14, 19], [4, 9, 14, 19]), ([], []), ([21, 20, 19, 0, 1, 2, 3, 4, 5, 6, 7, 8, 9, 10, 11, 12, 13, 14, 15, 16, 17, 18, 19, 20, 21], [20, 21])])
def spec_MeetBox.B1 : List Nat := [0, 1, 0, 4, 15, 0, 32, 0, 128, 511, 0, 1024, 0, 4096, 16383, 0, 32768, 0, 131072, 524287, 1048575, 0, 4194303]
theorem spec_MeetBox.tab1 : rtab .any (opsOf Try.f91 1) = spec_MeetBox.T1 := by kernel_rfl
theorem spec_MeetBox.bits1 : waitsOk spec_MeetBox.T1.2 spec_MeetBox.B1 = true := by kernel_rfl
set_option maxHeartbeats 8000000 in
set_option maxRecDepth 100000 in
theorem spec_MeetBox.calls (a0_0 : Int) (a0_1 : Int) (a0_2 : Int) (a0_3 : Int) (a1_0 : Int) (a1_1 : Int) (a1_2 : Int) (a1_3 : Int) (r1 : Int) (r2 : Int) (r3 : Int) (r4 : Int) (w : World) (h : spec_MeetBox.f a0_0 a0_1 a0_2 a0_3 a1_0 a1_1 a1_2 a1_3 = some (r1, r2, r3, r4)) :
  Calls Try.prog 91 #[.agg #[.int .i64 a0_0, .int .i64 a0_1, .int .i64 a0_2, .int .i64 a0_3], .agg #[.int .i64 a1_0, .int .i64 a1_1, .int .i64 a1_2, .int .i64 a1_3]] w fun e w' => e = .returned (.agg #[.int .i64 r1, .int .i64 r2, .int .i64 r3, .int .i64 r4]) ∧ Below w.heap.size w w' := by
 have hu63 := Try.underlying63
 have HB := mk0 (Below.refl w.heap.size w)
 have H : ((spec_l05Most.f a0_0 a1_0).bind fun t458 => ((spec_l05Most.f a0_1 a1_1).bind fun t459 => ((spec_l05Least.f a0_2 a1_2).bind fun t460 => ((spec_l05Least.f a0_3 a1_3).bind fun t461 => ((spec_Empty.f t458 t459 t460 t461).bind fun t463 => (if t463 = true then (some (0, 0, 0, 0)) else (some (t458, t459, t460, t461)))))))) = some (r1, r2, r3, r4) := h
 clear h
 replace H := Option.bind_eq_some_iff.mp H
 obtain ⟨t458, A30, H⟩ := H
 try dsimp only at H
 have A3 := mk0 A30
 clear A30
 replace H := Option.bind_eq_some_iff.mp H
 obtain ⟨t459, A40, H⟩ := H
 try dsimp only at H
 have A4 := mk0 A40
 clear A40
 replace H := Option.bind_eq_some_iff.mp H
 obtain ⟨t460, A50, H⟩ := H
 try dsimp only at H
 have A5 := mk0 A50
 clear A50
 replace H := Option.bind_eq_some_iff.mp H
 obtain ⟨t461, A60, H⟩ := H
 try dsimp only at H
 have A6 := mk0 A60
 clear A60
 replace H := Option.bind_eq_some_iff.mp H
 obtain ⟨t463, A70, H⟩ := H
 try dsimp only at H
 have A7 := mk0 A70
 clear A70
 by_cases c8 : t463 = true
 ·subst c8
  rw [if_pos rfl] at H
  simp only [Option.some.injEq, Prod.mk.injEq] at H
  obtain ⟨rfl, rfl, rfl, rfl⟩ := H
  go_enter Try.func91, Try.ntmps91
  try go_wp2_with (first | ((with_reducible refine gate_dst (N := 2) rfl ?_); refine boxz (cs := #[.int .i64 a0_0, .int .i64 a0_1, .int .i64 a0_2, .int .i64 a0_3]) (t := 63) rfl ?_; intro gb455 hg w9 hbox hb; have n0_ := mk0 (below_step z16_36 hb); have n1_ := mk0 (hbox); have GW455 := mk0 (ge_go (a := w.heap.size) hg (below_size z16_36)); have GE455 := GW455; clear HB; have HB := n0_; have BK455 := n1_; clear n0_ n1_ ; clear hb hbox hg) | ((with_reducible refine gate_dst (N := 3) rfl ?_); refine boxz (cs := #[.int .i64 a1_0, .int .i64 a1_1, .int .i64 a1_2, .int .i64 a1_3]) (t := 63) rfl ?_; intro gb456 hg w10 hbox hb; have n0_ := mk0 (blk_belowB BK455 (pkb BK455) hb); have n1_ := mk0 (below_step z16_35 hb); have n2_ := mk0 (hbox); have GW456 := mk0 (ge_go (a := w.heap.size) hg (below_size z16_35)); have GE456 := GW456; have NB455_456 := mk0 (nb_lt hg (blk_ltB BK455 (pkb BK455))); have NB456_455 := mk0 (nb_gt hg (blk_ltB BK455 (pkb BK455))); clear BK455 HB; have BK455 := n0_; have HB := n1_; have BK456 := n2_; clear n0_ n1_ n2_ ; clear hb hbox hg) | ((with_reducible refine gate_dst (N := 4) rfl ?_); refine boxz (cs := #[.int .i64 0, .int .i64 0, .int .i64 0, .int .i64 0]) (t := 63) rfl ?_; intro gb457 hg w11 hbox hb; have n0_ := mk0 (blk_belowB BK455 (pkb BK455) hb); have n1_ := mk0 (blk_belowB BK456 (pkb BK456) hb); have n2_ := mk0 (below_step z16_34 hb); have n3_ := mk0 (hbox); have GW457 := mk0 (ge_go (a := w.heap.size) hg (below_size z16_34)); have GE457 := GW457; have NB455_457 := mk0 (nb_lt hg (blk_ltB BK455 (pkb BK455))); have NB457_455 := mk0 (nb_gt hg (blk_ltB BK455 (pkb BK455))); have NB456_457 := mk0 (nb_lt hg (blk_ltB BK456 (pkb BK456))); have NB457_456 := mk0 (nb_gt hg (blk_ltB BK456 (pkb BK456))); clear BK455 BK456 HB; have BK455 := n0_; have BK456 := n1_; have HB := n2_; have BK457 := n3_; clear n0_ n1_ n2_ n3_ ; clear hb hbox hg))
  have n0_ := mk0 (blk_drew BK455.out)
  have n1_ := mk0 (blk_drew BK456.out)
  have n2_ := mk0 (blk_drew BK457.out)
  have n3_ := mk0 (below_drew1 HB.out)
  clear BK455 BK456 BK457 HB; have BK455 := n0_; have BK456 := n1_; have BK457 := n2_; have HB := n3_; clear n0_ n1_ n2_ n3_
  refine start_ (n := 23) (S := fun w' => w'.cell? ⟨gb455, 0, none⟩ = some (.int .i64 a0_0) ∧ w'.cell? ⟨gb455, 1, none⟩ = some (.int .i64 a0_1) ∧ w'.cell? ⟨gb455, 2, none⟩ = some (.int .i64 a0_2) ∧ w'.cell? ⟨gb455, 3, none⟩ = some (.int .i64 a0_3) ∧ w'.cell? ⟨gb456, 0, none⟩ = some (.int .i64 a1_0) ∧ w'.cell? ⟨gb456, 1, none⟩ = some (.int .i64 a1_1) ∧ w'.cell? ⟨gb456, 2, none⟩ = some (.int .i64 a1_2) ∧ w'.cell? ⟨gb456, 3, none⟩ = some (.int .i64 a1_3)) (ds := []) y16_0 (by kernel_rfl) rfl rfl ⟨(blk_cell BK455.out 0).trans rfl, (blk_cell BK455.out 1).trans rfl, (blk_cell BK455.out 2).trans rfl, (blk_cell BK455.out 3).trans rfl, (blk_cell BK456.out 0).trans rfl, (blk_cell BK456.out 1).trans rfl, (blk_cell BK456.out 2).trans rfl, (blk_cell BK456.out 3).trans rfl⟩ (fun hHeld => ?_); refine with_tabW spec_MeetBox.tab1 spec_MeetBox.bits1 (fun HT_ HW_ => ?_)
  generalize w11.drew = w12 at BK455 BK456 BK457 HB hHeld ⊢
  refine pzv (i := 0) (N := 6) (v := ?_) (a' := ?_) y16_1 HT_ ?_ ?_ ?_
  rotate_left
  ·intro w'
   go_simp; with_reducible rfl
  rotate_left
  ·exact x16_put
  refine pzv (i := 2) (N := 8) (v := ?_) (a' := ?_) y16_2 HT_ ?_ ?_ ?_
  rotate_left
  ·intro w'
   go_simp; with_reducible rfl
  rotate_left
  ·exact x16_put
  refine pzv (i := 5) (N := 11) (v := ?_) (a' := ?_) y16_3 HT_ ?_ ?_ ?_
  rotate_left
  ·intro w'
   go_simp; with_reducible rfl
  rotate_left
  ·exact x16_put
  refine pzv (i := 7) (N := 13) (v := ?_) (a' := ?_) y16_4 HT_ ?_ ?_ ?_
  rotate_left
  ·intro w'
   go_simp; with_reducible rfl
  rotate_left
  ·exact x16_put
  refine pzv (i := 10) (N := 16) (v := ?_) (a' := ?_) y16_5 HT_ ?_ ?_ ?_
  rotate_left
  ·intro w'
   go_simp; with_reducible rfl
  rotate_left
  ·exact x16_put
  refine pzv (i := 12) (N := 18) (v := ?_) (a' := ?_) y16_6 HT_ ?_ ?_ ?_
  rotate_left
  ·intro w'
   go_simp; with_reducible rfl
  rotate_left
  ·exact x16_put
  refine pzv (i := 15) (N := 21) (v := ?_) (a' := ?_) y16_7 HT_ ?_ ?_ ?_
  rotate_left
  ·intro w'
   go_simp; with_reducible rfl
  rotate_left
  ·exact x16_put
  refine pzv (i := 17) (N := 23) (v := ?_) (a' := ?_) y16_8 HT_ ?_ ?_ ?_
  rotate_left
  ·intro w'
   go_simp; with_reducible rfl
  rotate_left
  ·exact x16_put
  refine take_ (i := 1) (N := some 7) (v := ?_) (a' := ?_) y16_9 rfl rfl (take_ofW HT_.out HW_.out (by kernel_rfl)) (fun _ _ _ h => h) (Or.inl ⟨by rfl, ?_⟩) hHeld ?_ ?_
  rotate_left
  ·rintro w' ⟨s0, s1, s2, s3, s4, s5, s6, s7⟩
   go_simp; with_reducible rfl
  rotate_left
  ·exact x16_put
  refine take_ (i := 3) (N := some 9) (v := ?_) (a' := ?_) y16_10 rfl rfl (take_ofW HT_.out HW_.out (by kernel_rfl)) (fun _ _ _ h => h) (Or.inl ⟨by rfl, ?_⟩) hHeld ?_ ?_
  rotate_left
  ·rintro w' ⟨s0, s1, s2, s3, s4, s5, s6, s7⟩
   go_simp; with_reducible rfl
  rotate_left
  ·exact x16_put
  refine take_ (i := 6) (N := some 12) (v := ?_) (a' := ?_) y16_11 rfl rfl (take_ofW HT_.out HW_.out (by kernel_rfl)) (fun _ _ _ h => h) (Or.inl ⟨by rfl, ?_⟩) hHeld ?_ ?_
  rotate_left
  ·rintro w' ⟨s0, s1, s2, s3, s4, s5, s6, s7⟩
   go_simp; with_reducible rfl
  rotate_left
  ·exact x16_put
  refine take_ (i := 8) (N := some 14) (v := ?_) (a' := ?_) y16_12 rfl rfl (take_ofW HT_.out HW_.out (by kernel_rfl)) (fun _ _ _ h => h) (Or.inl ⟨by rfl, ?_⟩) hHeld ?_ ?_
  rotate_left
  ·rintro w' ⟨s0, s1, s2, s3, s4, s5, s6, s7⟩
   go_simp; with_reducible rfl
  rotate_left
  ·exact x16_put
  refine take_ (i := 11) (N := some 17) (v := ?_) (a' := ?_) y16_13 rfl rfl (take_ofW HT_.out HW_.out (by kernel_rfl)) (fun _ _ _ h => h) (Or.inl ⟨by rfl, ?_⟩) hHeld ?_ ?_
  rotate_left
  ·rintro w' ⟨s0, s1, s2, s3, s4, s5, s6, s7⟩
   go_simp; with_reducible rfl
  rotate_left
  ·exact x16_put
  refine take_ (i := 13) (N := some 19) (v := ?_) (a' := ?_) y16_14 rfl rfl (take_ofW HT_.out HW_.out (by kernel_rfl)) (fun _ _ _ h => h) (Or.inl ⟨by rfl, ?_⟩) hHeld ?_ ?_
  rotate_left
  ·rintro w' ⟨s0, s1, s2, s3, s4, s5, s6, s7⟩
   go_simp; with_reducible rfl
  rotate_left
  ·exact x16_put
  refine take_ (i := 16) (N := some 22) (v := ?_) (a' := ?_) y16_15 rfl rfl (take_ofW HT_.out HW_.out (by kernel_rfl)) (fun _ _ _ h => h) (Or.inl ⟨by rfl, ?_⟩) hHeld ?_ ?_
  rotate_left
  ·rintro w' ⟨s0, s1, s2, s3, s4, s5, s6, s7⟩
   go_simp; with_reducible rfl
  rotate_left
  ·exact x16_put
  refine take_ (i := 18) (N := some 24) (v := ?_) (a' := ?_) y16_16 rfl rfl (take_ofW HT_.out HW_.out (by kernel_rfl)) (fun _ _ _ h => h) (Or.inl ⟨by rfl, ?_⟩) hHeld ?_ ?_
  rotate_left
  ·rintro w' ⟨s0, s1, s2, s3, s4, s5, s6, s7⟩
   go_simp; with_reducible rfl
  rotate_left
  ·exact x16_put
  refine join_ (σ := Nat) 1 y16_27 (fun s_ => [(10, .int .i64 t458), (15, .int .i64 t459), (20, .int .i64 t460), (25, .int .i64 t461), (5, .pointer (some ⟨s_, 0, none⟩)), (26, .agg #[.int .i64 t458, .int .i64 t459, .int .i64 t460, .int .i64 t461])]) (fun s_ w' => (w'.cell? ⟨gb455, 0, none⟩ = some (.int .i64 a0_0) ∧ w'.cell? ⟨gb455, 1, none⟩ = some (.int .i64 a0_1) ∧ w'.cell? ⟨gb455, 2, none⟩ = some (.int .i64 a0_2) ∧ w'.cell? ⟨gb455, 3, none⟩ = some (.int .i64 a0_3) ∧ w'.cell? ⟨gb456, 0, none⟩ = some (.int .i64 a1_0) ∧ w'.cell? ⟨gb456, 1, none⟩ = some (.int .i64 a1_1) ∧ w'.cell? ⟨gb456, 2, none⟩ = some (.int .i64 a1_2) ∧ w'.cell? ⟨gb456, 3, none⟩ = some (.int .i64 a1_3)) ∧ (w'.heap[gb455]? = some (.cells #[.int .i64 a0_0, .int .i64 a0_1, .int .i64 a0_2, .int .i64 a0_3] 63 (0, 0))) ∧ (w'.heap[gb456]? = some (.cells #[.int .i64 a1_0, .int .i64 a1_1, .int .i64 a1_2, .int .i64 a1_3] 63 (0, 0))) ∧ (w'.heap[gb457]? = some (.cells #[.int .i64 0, .int .i64 0, .int .i64 0, .int .i64 0] 63 (0, 0))) ∧ (w'.heap[s_]? = some (.cells #[.int .i64 0, .int .i64 0, .int .i64 0, .int .i64 0] 63 (0, 0))) ∧ (w.heap.size ≤ s_) ∧ (w.heap.size ≤ s_) ∧ (gb455 ≠ s_) ∧ (s_ ≠ gb455) ∧ (gb456 ≠ s_) ∧ (s_ ≠ gb456) ∧ (gb457 ≠ s_) ∧ (s_ ≠ gb457) ∧ (Below w.heap.size w w')) ?_ ?_
  rotate_left
  ·intro hJ4_9_14_19_21
   refine join_ (σ := Unit) 2 y16_26 (fun s_ => [(10, .int .i64 t458), (15, .int .i64 t459), (20, .int .i64 t460), (25, .int .i64 t461), (26, .agg #[.int .i64 t458, .int .i64 t459, .int .i64 t460, .int .i64 t461])]) (fun s_ w' => (w'.cell? ⟨gb455, 0, none⟩ = some (.int .i64 a0_0) ∧ w'.cell? ⟨gb455, 1, none⟩ = some (.int .i64 a0_1) ∧ w'.cell? ⟨gb455, 2, none⟩ = some (.int .i64 a0_2) ∧ w'.cell? ⟨gb455, 3, none⟩ = some (.int .i64 a0_3) ∧ w'.cell? ⟨gb456, 0, none⟩ = some (.int .i64 a1_0) ∧ w'.cell? ⟨gb456, 1, none⟩ = some (.int .i64 a1_1) ∧ w'.cell? ⟨gb456, 2, none⟩ = some (.int .i64 a1_2) ∧ w'.cell? ⟨gb456, 3, none⟩ = some (.int .i64 a1_3)) ∧ (w'.heap[gb455]? = some (.cells #[.int .i64 a0_0, .int .i64 a0_1, .int .i64 a0_2, .int .i64 a0_3] 63 (0, 0))) ∧ (w'.heap[gb456]? = some (.cells #[.int .i64 a1_0, .int .i64 a1_1, .int .i64 a1_2, .int .i64 a1_3] 63 (0, 0))) ∧ (w'.heap[gb457]? = some (.cells #[.int .i64 0, .int .i64 0, .int .i64 0, .int .i64 0] 63 (0, 0))) ∧ (Below w.heap.size w w')) ?_ ?_
   rotate_left
   rotate_left
   ·skip
    rintro _ w13 ⟨hS_, h0_, h1_, h2_, h3_⟩
    have n0_ : Aside0 (w13.heap[gb455]? = some (.cells #[.int .i64 a0_0, .int .i64 a0_1, .int .i64 a0_2, .int .i64 a0_3] 63 (0, 0))) := ⟨h0_⟩
    have n1_ : Aside0 (w13.heap[gb456]? = some (.cells #[.int .i64 a1_0, .int .i64 a1_1, .int .i64 a1_2, .int .i64 a1_3] 63 (0, 0))) := ⟨h1_⟩
    have n2_ : Aside0 (w13.heap[gb457]? = some (.cells #[.int .i64 0, .int .i64 0, .int .i64 0, .int .i64 0] 63 (0, 0))) := ⟨h2_⟩
    have n3_ : Aside0 (Below w.heap.size w w13) := ⟨h3_⟩
    clear BK455 BK456 BK457 HB h0_ h1_ h2_ h3_; have BK455 := n0_; have BK456 := n1_; have BK457 := n2_; have HB := n3_; clear n0_ n1_ n2_ n3_
    have hHeld : w13.cell? ⟨gb455, 0, none⟩ = some (.int .i64 a0_0) ∧ w13.cell? ⟨gb455, 1, none⟩ = some (.int .i64 a0_1) ∧ w13.cell? ⟨gb455, 2, none⟩ = some (.int .i64 a0_2) ∧ w13.cell? ⟨gb455, 3, none⟩ = some (.int .i64 a0_3) ∧ w13.cell? ⟨gb456, 0, none⟩ = some (.int .i64 a1_0) ∧ w13.cell? ⟨gb456, 1, none⟩ = some (.int .i64 a1_1) ∧ w13.cell? ⟨gb456, 2, none⟩ = some (.int .i64 a1_2) ∧ w13.cell? ⟨gb456, 3, none⟩ = some (.int .i64 a1_3) := hS_
    refine norm_ (a' := ?_) ?_ ?_
    rotate_left
    ·simp only [putAll, Act.put, List.setIfInBounds_toArray, List.set_cons_zero, List.set_cons_succ]
     rfl
    refine one_ (i := 21) (N := some 5) y16_27 rfl rfl (one_of HT_.out (by kernel_rfl)) (by decide) (fun K hK => ?_)
    refine box_step ?hg (N := 5) ?hd (cs := #[.int .i64 0, .int .i64 0, .int .i64 0, .int .i64 0]) (t := 63) ?hr ?_; (case hd => rfl); (case hg => rfl); (case hr => first | (go_simp; done) | (go_simp; rfl))
    intro gb462 hg w14 hbox hb
    have n0_ := mk0 (blk_belowB BK455 (pkb BK455) hb)
    have n1_ := mk0 (blk_belowB BK456 (pkb BK456) hb)
    have n2_ := mk0 (blk_belowB BK457 (pkb BK457) hb)
    have n3_ := mk0 (below_step z16_30 hb)
    have n4_ := mk0 (hbox)
    have n5_ := mk0 (ge_go (a := w.heap.size) hg (below_size z16_30))
    have n6_ := mk0 (ge_go (a := w.heap.size) hg (below_size z16_30))
    have n7_ := mk0 (nb_lt hg (blk_ltB BK455 (pkb BK455)))
    have n8_ := mk0 (nb_gt hg (blk_ltB BK455 (pkb BK455)))
    have n9_ := mk0 (nb_lt hg (blk_ltB BK456 (pkb BK456)))
    have n10_ := mk0 (nb_gt hg (blk_ltB BK456 (pkb BK456)))
    have n11_ := mk0 (nb_lt hg (blk_ltB BK457 (pkb BK457)))
    have n12_ := mk0 (nb_gt hg (blk_ltB BK457 (pkb BK457)))
    clear BK455 BK456 BK457 HB; have BK455 := n0_; have BK456 := n1_; have BK457 := n2_; have HB := n3_; have BK462 := n4_; have GW462 := n5_; have GE462 := n6_; have NB455_462 := n7_; have NB462_455 := n8_; have NB456_462 := n9_; have NB462_456 := n10_; have NB457_462 := n11_; have NB462_457 := n12_; clear n0_ n1_ n2_ n3_ n4_ n5_ n6_ n7_ n8_ n9_ n10_ n11_ n12_ hb hbox hg
    refine hK.out _ _ ⟨(blk_cell BK455.out 0).trans rfl, (blk_cell BK455.out 1).trans rfl, (blk_cell BK455.out 2).trans rfl, (blk_cell BK455.out 3).trans rfl, (blk_cell BK456.out 0).trans rfl, (blk_cell BK456.out 1).trans rfl, (blk_cell BK456.out 2).trans rfl, (blk_cell BK456.out 3).trans rfl⟩ (fun hHeld => ?_)
    clear hK K
    refine norm_ (a' := ?_) ?_ ?_
    rotate_left
    ·show Act.put _ (some 5) _ = _
     simp only [Act.put, List.setIfInBounds_toArray, List.set_cons_zero, List.set_cons_succ, i64_w, i32_w]
     rfl
    exact norm_ z16_32 (hJ4_9_14_19_21 (gb462) _ ⟨hHeld, (pkb BK455), (pkb BK456), (pkb BK457), (pkb BK462), GW462.out, GE462.out, NB455_462.out, NB462_455.out, NB456_462.out, NB462_456.out, NB457_462.out, NB462_457.out, z16_31⟩)
   intro hJ4_9_14_19
   refine join_ (σ := Nat) 3 y16_23 (fun s_ => [(10, .int .i64 t458), (15, .int .i64 t459), (20, .int .i64 t460), (5, .pointer (some ⟨s_, 0, none⟩))]) (fun s_ w' => (w'.cell? ⟨gb455, 0, none⟩ = some (.int .i64 a0_0) ∧ w'.cell? ⟨gb455, 1, none⟩ = some (.int .i64 a0_1) ∧ w'.cell? ⟨gb455, 2, none⟩ = some (.int .i64 a0_2) ∧ w'.cell? ⟨gb455, 3, none⟩ = some (.int .i64 a0_3) ∧ w'.cell? ⟨gb456, 0, none⟩ = some (.int .i64 a1_0) ∧ w'.cell? ⟨gb456, 1, none⟩ = some (.int .i64 a1_1) ∧ w'.cell? ⟨gb456, 2, none⟩ = some (.int .i64 a1_2) ∧ w'.cell? ⟨gb456, 3, none⟩ = some (.int .i64 a1_3)) ∧ (w'.heap[gb455]? = some (.cells #[.int .i64 a0_0, .int .i64 a0_1, .int .i64 a0_2, .int .i64 a0_3] 63 (0, 0))) ∧ (w'.heap[gb456]? = some (.cells #[.int .i64 a1_0, .int .i64 a1_1, .int .i64 a1_2, .int .i64 a1_3] 63 (0, 0))) ∧ (w'.heap[gb457]? = some (.cells #[.int .i64 0, .int .i64 0, .int .i64 0, .int .i64 0] 63 (0, 0))) ∧ (w'.heap[s_]? = some (.cells #[.int .i64 0, .int .i64 0, .int .i64 0, .int .i64 0] 63 (0, 0))) ∧ (w.heap.size ≤ s_) ∧ (w.heap.size ≤ s_) ∧ (gb455 ≠ s_) ∧ (s_ ≠ gb455) ∧ (gb456 ≠ s_) ∧ (s_ ≠ gb456) ∧ (gb457 ≠ s_) ∧ (s_ ≠ gb457) ∧ (Below w.heap.size w w')) ?_ ?_
   rotate_left
   rotate_left
   ·skip
    rintro gb462 w14 ⟨hS_, h0_, h1_, h2_, h3_, h4_, h5_, h6_, h7_, h8_, h9_, h10_, h11_, h12_⟩
    have n0_ : Aside0 (w14.heap[gb455]? = some (.cells #[.int .i64 a0_0, .int .i64 a0_1, .int .i64 a0_2, .int .i64 a0_3] 63 (0, 0))) := ⟨h0_⟩
    have n1_ : Aside0 (w14.heap[gb456]? = some (.cells #[.int .i64 a1_0, .int .i64 a1_1, .int .i64 a1_2, .int .i64 a1_3] 63 (0, 0))) := ⟨h1_⟩
    have n2_ : Aside0 (w14.heap[gb457]? = some (.cells #[.int .i64 0, .int .i64 0, .int .i64 0, .int .i64 0] 63 (0, 0))) := ⟨h2_⟩
    have n3_ : Aside0 (w14.heap[gb462]? = some (.cells #[.int .i64 0, .int .i64 0, .int .i64 0, .int .i64 0] 63 (0, 0))) := ⟨h3_⟩
    have n4_ : Aside0 (w.heap.size ≤ gb462) := ⟨h4_⟩
    have n5_ : Aside0 (w.heap.size ≤ gb462) := ⟨h5_⟩
    have n6_ : Aside0 (gb455 ≠ gb462) := ⟨h6_⟩
    have n7_ : Aside0 (gb462 ≠ gb455) := ⟨h7_⟩
    have n8_ : Aside0 (gb456 ≠ gb462) := ⟨h8_⟩
    have n9_ : Aside0 (gb462 ≠ gb456) := ⟨h9_⟩
    have n10_ : Aside0 (gb457 ≠ gb462) := ⟨h10_⟩
    have n11_ : Aside0 (gb462 ≠ gb457) := ⟨h11_⟩
    have n12_ : Aside0 (Below w.heap.size w w14) := ⟨h12_⟩
    clear BK455 BK456 BK457 HB h0_ h1_ h2_ h3_ h4_ h5_ h6_ h7_ h8_ h9_ h10_ h11_ h12_; have BK455 := n0_; have BK456 := n1_; have BK457 := n2_; have BK462 := n3_; have GW462 := n4_; have GE462 := n5_; have NB455_462 := n6_; have NB462_455 := n7_; have NB456_462 := n8_; have NB462_456 := n9_; have NB457_462 := n10_; have NB462_457 := n11_; have HB := n12_; clear n0_ n1_ n2_ n3_ n4_ n5_ n6_ n7_ n8_ n9_ n10_ n11_ n12_
    have hHeld : w14.cell? ⟨gb455, 0, none⟩ = some (.int .i64 a0_0) ∧ w14.cell? ⟨gb455, 1, none⟩ = some (.int .i64 a0_1) ∧ w14.cell? ⟨gb455, 2, none⟩ = some (.int .i64 a0_2) ∧ w14.cell? ⟨gb455, 3, none⟩ = some (.int .i64 a0_3) ∧ w14.cell? ⟨gb456, 0, none⟩ = some (.int .i64 a1_0) ∧ w14.cell? ⟨gb456, 1, none⟩ = some (.int .i64 a1_1) ∧ w14.cell? ⟨gb456, 2, none⟩ = some (.int .i64 a1_2) ∧ w14.cell? ⟨gb456, 3, none⟩ = some (.int .i64 a1_3) := hS_
    refine norm_ (a' := ?_) ?_ ?_
    rotate_left
    ·simp only [putAll, Act.put, List.setIfInBounds_toArray, List.set_cons_zero, List.set_cons_succ]
     rfl
    refine one_ (i := 19) (N := some 25) y16_25 rfl rfl (one_of HT_.out (by kernel_rfl)) (by decide) (fun K hK => ?_)
    refine goes_ Try.func133 (by kernel_rfl) rfl #[.int .i64 a0_3, .int .i64 a1_3] (by rfl) rfl rfl z16_33 ?_
    with_reducible refine (spec_l05Least.calls a0_3 a1_3 t461 _ A6.out).mono ?_
    rintro e w' ⟨rfl, ⟨nd, rfl⟩⟩
    refine ⟨_, rfl, ?_⟩
    refine hK.out _ _ ⟨(blk_cell BK455.out 0).trans rfl, (blk_cell BK455.out 1).trans rfl, (blk_cell BK455.out 2).trans rfl, (blk_cell BK455.out 3).trans rfl, (blk_cell BK456.out 0).trans rfl, (blk_cell BK456.out 1).trans rfl, (blk_cell BK456.out 2).trans rfl, (blk_cell BK456.out 3).trans rfl⟩ (fun hHeld => ?_)
    clear hK K
    refine norm_ (a' := ?_) ?_ ?_
    rotate_left
    ·show Act.put _ (some 25) _ = _
     simp only [Act.put, List.setIfInBounds_toArray, List.set_cons_zero, List.set_cons_succ, i64_w, i32_w]
     rfl
    refine pzv (i := 20) (N := 26) (v := ?_) (a' := ?_) y16_27 HT_ ?_ ?_ ?_
    rotate_left
    ·intro w'
     go_simp; with_reducible rfl
    rotate_left
    ·exact x16_put
    exact norm_ z16_32 (hJ4_9_14_19_21 (gb462) _ ⟨hHeld, (pkb BK455), (pkb BK456), (pkb BK457), (pkb BK462), GW462.out, GE462.out, NB455_462.out, NB462_455.out, NB456_462.out, NB462_456.out, NB457_462.out, NB462_457.out, z16_31⟩)
   intro hJ4_9_14_21
   refine join_ (σ := Unit) 4 y16_22 (fun s_ => [(10, .int .i64 t458), (15, .int .i64 t459), (20, .int .i64 t460)]) (fun s_ w' => (w'.cell? ⟨gb455, 0, none⟩ = some (.int .i64 a0_0) ∧ w'.cell? ⟨gb455, 1, none⟩ = some (.int .i64 a0_1) ∧ w'.cell? ⟨gb455, 2, none⟩ = some (.int .i64 a0_2) ∧ w'.cell? ⟨gb455, 3, none⟩ = some (.int .i64 a0_3) ∧ w'.cell? ⟨gb456, 0, none⟩ = some (.int .i64 a1_0) ∧ w'.cell? ⟨gb456, 1, none⟩ = some (.int .i64 a1_1) ∧ w'.cell? ⟨gb456, 2, none⟩ = some (.int .i64 a1_2) ∧ w'.cell? ⟨gb456, 3, none⟩ = some (.int .i64 a1_3)) ∧ (w'.heap[gb455]? = some (.cells #[.int .i64 a0_0, .int .i64 a0_1, .int .i64 a0_2, .int .i64 a0_3] 63 (0, 0))) ∧ (w'.heap[gb456]? = some (.cells #[.int .i64 a1_0, .int .i64 a1_1, .int .i64 a1_2, .int .i64 a1_3] 63 (0, 0))) ∧ (w'.heap[gb457]? = some (.cells #[.int .i64 0, .int .i64 0, .int .i64 0, .int .i64 0] 63 (0, 0))) ∧ (Below w.heap.size w w')) ?_ ?_
   rotate_left
   rotate_left
   ·skip
    rintro _ w13 ⟨hS_, h0_, h1_, h2_, h3_⟩
    have n0_ : Aside0 (w13.heap[gb455]? = some (.cells #[.int .i64 a0_0, .int .i64 a0_1, .int .i64 a0_2, .int .i64 a0_3] 63 (0, 0))) := ⟨h0_⟩
    have n1_ : Aside0 (w13.heap[gb456]? = some (.cells #[.int .i64 a1_0, .int .i64 a1_1, .int .i64 a1_2, .int .i64 a1_3] 63 (0, 0))) := ⟨h1_⟩
    have n2_ : Aside0 (w13.heap[gb457]? = some (.cells #[.int .i64 0, .int .i64 0, .int .i64 0, .int .i64 0] 63 (0, 0))) := ⟨h2_⟩
    have n3_ : Aside0 (Below w.heap.size w w13) := ⟨h3_⟩
    clear BK455 BK456 BK457 HB h0_ h1_ h2_ h3_; have BK455 := n0_; have BK456 := n1_; have BK457 := n2_; have HB := n3_; clear n0_ n1_ n2_ n3_
    have hHeld : w13.cell? ⟨gb455, 0, none⟩ = some (.int .i64 a0_0) ∧ w13.cell? ⟨gb455, 1, none⟩ = some (.int .i64 a0_1) ∧ w13.cell? ⟨gb455, 2, none⟩ = some (.int .i64 a0_2) ∧ w13.cell? ⟨gb455, 3, none⟩ = some (.int .i64 a0_3) ∧ w13.cell? ⟨gb456, 0, none⟩ = some (.int .i64 a1_0) ∧ w13.cell? ⟨gb456, 1, none⟩ = some (.int .i64 a1_1) ∧ w13.cell? ⟨gb456, 2, none⟩ = some (.int .i64 a1_2) ∧ w13.cell? ⟨gb456, 3, none⟩ = some (.int .i64 a1_3) := hS_
    refine norm_ (a' := ?_) ?_ ?_
    rotate_left
    ·simp only [putAll, Act.put, List.setIfInBounds_toArray, List.set_cons_zero, List.set_cons_succ]
     rfl
    refine two_ (i := 19) (j := 21) (Ni := some 25) (Nj := some 5) y16_24 y16_23 rfl rfl rfl rfl (two_of HT_.out (by kernel_rfl)) (by decide) (by decide) (fun K hK => ?_) (fun K hK => ?_)
    ·skip
     refine goes_ Try.func133 (by kernel_rfl) rfl #[.int .i64 a0_3, .int .i64 a1_3] (by rfl) rfl rfl z16_33 ?_
     with_reducible refine (spec_l05Least.calls a0_3 a1_3 t461 _ A6.out).mono ?_
     rintro e w' ⟨rfl, ⟨nd, rfl⟩⟩
     refine ⟨_, rfl, ?_⟩
     refine hK.out _ _ ⟨(blk_cell BK455.out 0).trans rfl, (blk_cell BK455.out 1).trans rfl, (blk_cell BK455.out 2).trans rfl, (blk_cell BK455.out 3).trans rfl, (blk_cell BK456.out 0).trans rfl, (blk_cell BK456.out 1).trans rfl, (blk_cell BK456.out 2).trans rfl, (blk_cell BK456.out 3).trans rfl⟩ (fun hHeld => ?_)
     clear hK K
     refine norm_ (a' := ?_) ?_ ?_
     rotate_left
     ·show Act.put _ (some 25) _ = _
      simp only [Act.put, List.setIfInBounds_toArray, List.set_cons_zero, List.set_cons_succ, i64_w, i32_w]
      rfl
     refine pzv (i := 20) (N := 26) (v := ?_) (a' := ?_) y16_26 HT_ ?_ ?_ ?_
     rotate_left
     ·intro w'
      go_simp; with_reducible rfl
     rotate_left
     ·exact x16_put
     exact norm_ z16_32 (hJ4_9_14_19 () _ ⟨hHeld, (pkb BK455), (pkb BK456), (pkb BK457), z16_30⟩)
    skip
    refine box_step ?hg (N := 5) ?hd (cs := #[.int .i64 0, .int .i64 0, .int .i64 0, .int .i64 0]) (t := 63) ?hr ?_; (case hd => rfl); (case hg => rfl); (case hr => first | (go_simp; done) | (go_simp; rfl))
    intro gb462 hg w14 hbox hb
    have n0_ := mk0 (blk_belowB BK455 (pkb BK455) hb)
    have n1_ := mk0 (blk_belowB BK456 (pkb BK456) hb)
    have n2_ := mk0 (blk_belowB BK457 (pkb BK457) hb)
    have n3_ := mk0 (below_step z16_30 hb)
    have n4_ := mk0 (hbox)
    have n5_ := mk0 (ge_go (a := w.heap.size) hg (below_size z16_30))
    have n6_ := mk0 (ge_go (a := w.heap.size) hg (below_size z16_30))
    have n7_ := mk0 (nb_lt hg (blk_ltB BK455 (pkb BK455)))
    have n8_ := mk0 (nb_gt hg (blk_ltB BK455 (pkb BK455)))
    have n9_ := mk0 (nb_lt hg (blk_ltB BK456 (pkb BK456)))
    have n10_ := mk0 (nb_gt hg (blk_ltB BK456 (pkb BK456)))
    have n11_ := mk0 (nb_lt hg (blk_ltB BK457 (pkb BK457)))
    have n12_ := mk0 (nb_gt hg (blk_ltB BK457 (pkb BK457)))
    clear BK455 BK456 BK457 HB; have BK455 := n0_; have BK456 := n1_; have BK457 := n2_; have HB := n3_; have BK462 := n4_; have GW462 := n5_; have GE462 := n6_; have NB455_462 := n7_; have NB462_455 := n8_; have NB456_462 := n9_; have NB462_456 := n10_; have NB457_462 := n11_; have NB462_457 := n12_; clear n0_ n1_ n2_ n3_ n4_ n5_ n6_ n7_ n8_ n9_ n10_ n11_ n12_ hb hbox hg
    refine hK.out _ _ ⟨(blk_cell BK455.out 0).trans rfl, (blk_cell BK455.out 1).trans rfl, (blk_cell BK455.out 2).trans rfl, (blk_cell BK455.out 3).trans rfl, (blk_cell BK456.out 0).trans rfl, (blk_cell BK456.out 1).trans rfl, (blk_cell BK456.out 2).trans rfl, (blk_cell BK456.out 3).trans rfl⟩ (fun hHeld => ?_)
    clear hK K
    refine norm_ (a' := ?_) ?_ ?_
    rotate_left
    ·show Act.put _ (some 5) _ = _
     simp only [Act.put, List.setIfInBounds_toArray, List.set_cons_zero, List.set_cons_succ, i64_w, i32_w]
     rfl
    exact norm_ z16_32 (hJ4_9_14_21 (gb462) _ ⟨hHeld, (pkb BK455), (pkb BK456), (pkb BK457), (pkb BK462), GW462.out, GE462.out, NB455_462.out, NB462_455.out, NB456_462.out, NB462_456.out, NB457_462.out, NB462_457.out, z16_31⟩)
   intro hJ4_9_14
   refine join_ (σ := Nat) 4 y16_21 (fun s_ => [(10, .int .i64 t458), (15, .int .i64 t459), (5, .pointer (some ⟨s_, 0, none⟩))]) (fun s_ w' => (w'.cell? ⟨gb455, 0, none⟩ = some (.int .i64 a0_0) ∧ w'.cell? ⟨gb455, 1, none⟩ = some (.int .i64 a0_1) ∧ w'.cell? ⟨gb455, 2, none⟩ = some (.int .i64 a0_2) ∧ w'.cell? ⟨gb455, 3, none⟩ = some (.int .i64 a0_3) ∧ w'.cell? ⟨gb456, 0, none⟩ = some (.int .i64 a1_0) ∧ w'.cell? ⟨gb456, 1, none⟩ = some (.int .i64 a1_1) ∧ w'.cell? ⟨gb456, 2, none⟩ = some (.int .i64 a1_2) ∧ w'.cell? ⟨gb456, 3, none⟩ = some (.int .i64 a1_3)) ∧ (w'.heap[gb455]? = some (.cells #[.int .i64 a0_0, .int .i64 a0_1, .int .i64 a0_2, .int .i64 a0_3] 63 (0, 0))) ∧ (w'.heap[gb456]? = some (.cells #[.int .i64 a1_0, .int .i64 a1_1, .int .i64 a1_2, .int .i64 a1_3] 63 (0, 0))) ∧ (w'.heap[gb457]? = some (.cells #[.int .i64 0, .int .i64 0, .int .i64 0, .int .i64 0] 63 (0, 0))) ∧ (w'.heap[s_]? = some (.cells #[.int .i64 0, .int .i64 0, .int .i64 0, .int .i64 0] 63 (0, 0))) ∧ (w.heap.size ≤ s_) ∧ (w.heap.size ≤ s_) ∧ (gb455 ≠ s_) ∧ (s_ ≠ gb455) ∧ (gb456 ≠ s_) ∧ (s_ ≠ gb456) ∧ (gb457 ≠ s_) ∧ (s_ ≠ gb457) ∧ (Below w.heap.size w w')) ?_ ?_
   rotate_left
   rotate_left
   ·skip
    rintro gb462 w14 ⟨hS_, h0_, h1_, h2_, h3_, h4_, h5_, h6_, h7_, h8_, h9_, h10_, h11_, h12_⟩
    have n0_ : Aside0 (w14.heap[gb455]? = some (.cells #[.int .i64 a0_0, .int .i64 a0_1, .int .i64 a0_2, .int .i64 a0_3] 63 (0, 0))) := ⟨h0_⟩
    have n1_ : Aside0 (w14.heap[gb456]? = some (.cells #[.int .i64 a1_0, .int .i64 a1_1, .int .i64 a1_2, .int .i64 a1_3] 63 (0, 0))) := ⟨h1_⟩
    have n2_ : Aside0 (w14.heap[gb457]? = some (.cells #[.int .i64 0, .int .i64 0, .int .i64 0, .int .i64 0] 63 (0, 0))) := ⟨h2_⟩
    have n3_ : Aside0 (w14.heap[gb462]? = some (.cells #[.int .i64 0, .int .i64 0, .int .i64 0, .int .i64 0] 63 (0, 0))) := ⟨h3_⟩
    have n4_ : Aside0 (w.heap.size ≤ gb462) := ⟨h4_⟩
    have n5_ : Aside0 (w.heap.size ≤ gb462) := ⟨h5_⟩
    have n6_ : Aside0 (gb455 ≠ gb462) := ⟨h6_⟩
    have n7_ : Aside0 (gb462 ≠ gb455) := ⟨h7_⟩
    have n8_ : Aside0 (gb456 ≠ gb462) := ⟨h8_⟩
    have n9_ : Aside0 (gb462 ≠ gb456) := ⟨h9_⟩
    have n10_ : Aside0 (gb457 ≠ gb462) := ⟨h10_⟩
    have n11_ : Aside0 (gb462 ≠ gb457) := ⟨h11_⟩
    have n12_ : Aside0 (Below w.heap.size w w14) := ⟨h12_⟩
    clear BK455 BK456 BK457 HB h0_ h1_ h2_ h3_ h4_ h5_ h6_ h7_ h8_ h9_ h10_ h11_ h12_; have BK455 := n0_; have BK456 := n1_; have BK457 := n2_; have BK462 := n3_; have GW462 := n4_; have GE462 := n5_; have NB455_462 := n6_; have NB462_455 := n7_; have NB456_462 := n8_; have NB462_456 := n9_; have NB457_462 := n10_; have NB462_457 := n11_; have HB := n12_; clear n0_ n1_ n2_ n3_ n4_ n5_ n6_ n7_ n8_ n9_ n10_ n11_ n12_
    have hHeld : w14.cell? ⟨gb455, 0, none⟩ = some (.int .i64 a0_0) ∧ w14.cell? ⟨gb455, 1, none⟩ = some (.int .i64 a0_1) ∧ w14.cell? ⟨gb455, 2, none⟩ = some (.int .i64 a0_2) ∧ w14.cell? ⟨gb455, 3, none⟩ = some (.int .i64 a0_3) ∧ w14.cell? ⟨gb456, 0, none⟩ = some (.int .i64 a1_0) ∧ w14.cell? ⟨gb456, 1, none⟩ = some (.int .i64 a1_1) ∧ w14.cell? ⟨gb456, 2, none⟩ = some (.int .i64 a1_2) ∧ w14.cell? ⟨gb456, 3, none⟩ = some (.int .i64 a1_3) := hS_
    refine norm_ (a' := ?_) ?_ ?_
    rotate_left
    ·simp only [putAll, Act.put, List.setIfInBounds_toArray, List.set_cons_zero, List.set_cons_succ]
     rfl
    refine one_ (i := 14) (N := some 20) y16_23 rfl rfl (one_of HT_.out (by kernel_rfl)) (by decide) (fun K hK => ?_)
    refine goes_ Try.func133 (by kernel_rfl) rfl #[.int .i64 a0_2, .int .i64 a1_2] (by rfl) rfl rfl z16_33 ?_
    with_reducible refine (spec_l05Least.calls a0_2 a1_2 t460 _ A5.out).mono ?_
    rintro e w' ⟨rfl, ⟨nd, rfl⟩⟩
    refine ⟨_, rfl, ?_⟩
    refine hK.out _ _ ⟨(blk_cell BK455.out 0).trans rfl, (blk_cell BK455.out 1).trans rfl, (blk_cell BK455.out 2).trans rfl, (blk_cell BK455.out 3).trans rfl, (blk_cell BK456.out 0).trans rfl, (blk_cell BK456.out 1).trans rfl, (blk_cell BK456.out 2).trans rfl, (blk_cell BK456.out 3).trans rfl⟩ (fun hHeld => ?_)
    clear hK K
    refine norm_ (a' := ?_) ?_ ?_
    rotate_left
    ·show Act.put _ (some 20) _ = _
     simp only [Act.put, List.setIfInBounds_toArray, List.set_cons_zero, List.set_cons_succ, i64_w, i32_w]
     rfl
    exact norm_ z16_32 (hJ4_9_14_21 (gb462) _ ⟨hHeld, (pkb BK455), (pkb BK456), (pkb BK457), (pkb BK462), GW462.out, GE462.out, NB455_462.out, NB462_455.out, NB456_462.out, NB462_456.out, NB457_462.out, NB462_457.out, z16_31⟩)
   intro hJ4_9_21
   refine join_ (σ := Unit) 5 y16_20 (fun s_ => [(10, .int .i64 t458), (15, .int .i64 t459)]) (fun s_ w' => (w'.cell? ⟨gb455, 0, none⟩ = some (.int .i64 a0_0) ∧ w'.cell? ⟨gb455, 1, none⟩ = some (.int .i64 a0_1) ∧ w'.cell? ⟨gb455, 2, none⟩ = some (.int .i64 a0_2) ∧ w'.cell? ⟨gb455, 3, none⟩ = some (.int .i64 a0_3) ∧ w'.cell? ⟨gb456, 0, none⟩ = some (.int .i64 a1_0) ∧ w'.cell? ⟨gb456, 1, none⟩ = some (.int .i64 a1_1) ∧ w'.cell? ⟨gb456, 2, none⟩ = some (.int .i64 a1_2) ∧ w'.cell? ⟨gb456, 3, none⟩ = some (.int .i64 a1_3)) ∧ (w'.heap[gb455]? = some (.cells #[.int .i64 a0_0, .int .i64 a0_1, .int .i64 a0_2, .int .i64 a0_3] 63 (0, 0))) ∧ (w'.heap[gb456]? = some (.cells #[.int .i64 a1_0, .int .i64 a1_1, .int .i64 a1_2, .int .i64 a1_3] 63 (0, 0))) ∧ (w'.heap[gb457]? = some (.cells #[.int .i64 0, .int .i64 0, .int .i64 0, .int .i64 0] 63 (0, 0))) ∧ (Below w.heap.size w w')) ?_ ?_
   rotate_left
   rotate_left
   ·skip
    rintro _ w13 ⟨hS_, h0_, h1_, h2_, h3_⟩
    have n0_ : Aside0 (w13.heap[gb455]? = some (.cells #[.int .i64 a0_0, .int .i64 a0_1, .int .i64 a0_2, .int .i64 a0_3] 63 (0, 0))) := ⟨h0_⟩
    have n1_ : Aside0 (w13.heap[gb456]? = some (.cells #[.int .i64 a1_0, .int .i64 a1_1, .int .i64 a1_2, .int .i64 a1_3] 63 (0, 0))) := ⟨h1_⟩
    have n2_ : Aside0 (w13.heap[gb457]? = some (.cells #[.int .i64 0, .int .i64 0, .int .i64 0, .int .i64 0] 63 (0, 0))) := ⟨h2_⟩
    have n3_ : Aside0 (Below w.heap.size w w13) := ⟨h3_⟩
    clear BK455 BK456 BK457 HB h0_ h1_ h2_ h3_; have BK455 := n0_; have BK456 := n1_; have BK457 := n2_; have HB := n3_; clear n0_ n1_ n2_ n3_
    have hHeld : w13.cell? ⟨gb455, 0, none⟩ = some (.int .i64 a0_0) ∧ w13.cell? ⟨gb455, 1, none⟩ = some (.int .i64 a0_1) ∧ w13.cell? ⟨gb455, 2, none⟩ = some (.int .i64 a0_2) ∧ w13.cell? ⟨gb455, 3, none⟩ = some (.int .i64 a0_3) ∧ w13.cell? ⟨gb456, 0, none⟩ = some (.int .i64 a1_0) ∧ w13.cell? ⟨gb456, 1, none⟩ = some (.int .i64 a1_1) ∧ w13.cell? ⟨gb456, 2, none⟩ = some (.int .i64 a1_2) ∧ w13.cell? ⟨gb456, 3, none⟩ = some (.int .i64 a1_3) := hS_
    refine norm_ (a' := ?_) ?_ ?_
    rotate_left
    ·simp only [putAll, Act.put, List.setIfInBounds_toArray, List.set_cons_zero, List.set_cons_succ]
     rfl
    refine two_ (i := 14) (j := 21) (Ni := some 20) (Nj := some 5) y16_22 y16_21 rfl rfl rfl rfl (two_of HT_.out (by kernel_rfl)) (by decide) (by decide) (fun K hK => ?_) (fun K hK => ?_)
    ·skip
     refine goes_ Try.func133 (by kernel_rfl) rfl #[.int .i64 a0_2, .int .i64 a1_2] (by rfl) rfl rfl z16_33 ?_
     with_reducible refine (spec_l05Least.calls a0_2 a1_2 t460 _ A5.out).mono ?_
     rintro e w' ⟨rfl, ⟨nd, rfl⟩⟩
     refine ⟨_, rfl, ?_⟩
     refine hK.out _ _ ⟨(blk_cell BK455.out 0).trans rfl, (blk_cell BK455.out 1).trans rfl, (blk_cell BK455.out 2).trans rfl, (blk_cell BK455.out 3).trans rfl, (blk_cell BK456.out 0).trans rfl, (blk_cell BK456.out 1).trans rfl, (blk_cell BK456.out 2).trans rfl, (blk_cell BK456.out 3).trans rfl⟩ (fun hHeld => ?_)
     clear hK K
     refine norm_ (a' := ?_) ?_ ?_
     rotate_left
     ·show Act.put _ (some 20) _ = _
      simp only [Act.put, List.setIfInBounds_toArray, List.set_cons_zero, List.set_cons_succ, i64_w, i32_w]
      rfl
     exact norm_ z16_32 (hJ4_9_14 () _ ⟨hHeld, (pkb BK455), (pkb BK456), (pkb BK457), z16_30⟩)
    skip
    refine box_step ?hg (N := 5) ?hd (cs := #[.int .i64 0, .int .i64 0, .int .i64 0, .int .i64 0]) (t := 63) ?hr ?_; (case hd => rfl); (case hg => rfl); (case hr => first | (go_simp; done) | (go_simp; rfl))
    intro gb462 hg w14 hbox hb
    have n0_ := mk0 (blk_belowB BK455 (pkb BK455) hb)
    have n1_ := mk0 (blk_belowB BK456 (pkb BK456) hb)
    have n2_ := mk0 (blk_belowB BK457 (pkb BK457) hb)
    have n3_ := mk0 (below_step z16_30 hb)
    have n4_ := mk0 (hbox)
    have n5_ := mk0 (ge_go (a := w.heap.size) hg (below_size z16_30))
    have n6_ := mk0 (ge_go (a := w.heap.size) hg (below_size z16_30))
    have n7_ := mk0 (nb_lt hg (blk_ltB BK455 (pkb BK455)))
    have n8_ := mk0 (nb_gt hg (blk_ltB BK455 (pkb BK455)))
    have n9_ := mk0 (nb_lt hg (blk_ltB BK456 (pkb BK456)))
    have n10_ := mk0 (nb_gt hg (blk_ltB BK456 (pkb BK456)))
    have n11_ := mk0 (nb_lt hg (blk_ltB BK457 (pkb BK457)))
    have n12_ := mk0 (nb_gt hg (blk_ltB BK457 (pkb BK457)))
    clear BK455 BK456 BK457 HB; have BK455 := n0_; have BK456 := n1_; have BK457 := n2_; have HB := n3_; have BK462 := n4_; have GW462 := n5_; have GE462 := n6_; have NB455_462 := n7_; have NB462_455 := n8_; have NB456_462 := n9_; have NB462_456 := n10_; have NB457_462 := n11_; have NB462_457 := n12_; clear n0_ n1_ n2_ n3_ n4_ n5_ n6_ n7_ n8_ n9_ n10_ n11_ n12_ hb hbox hg
    refine hK.out _ _ ⟨(blk_cell BK455.out 0).trans rfl, (blk_cell BK455.out 1).trans rfl, (blk_cell BK455.out 2).trans rfl, (blk_cell BK455.out 3).trans rfl, (blk_cell BK456.out 0).trans rfl, (blk_cell BK456.out 1).trans rfl, (blk_cell BK456.out 2).trans rfl, (blk_cell BK456.out 3).trans rfl⟩ (fun hHeld => ?_)
    clear hK K
    refine norm_ (a' := ?_) ?_ ?_
    rotate_left
    ·show Act.put _ (some 5) _ = _
     simp only [Act.put, List.setIfInBounds_toArray, List.set_cons_zero, List.set_cons_succ, i64_w, i32_w]
     rfl
    exact norm_ z16_32 (hJ4_9_21 (gb462) _ ⟨hHeld, (pkb BK455), (pkb BK456), (pkb BK457), (pkb BK462), GW462.out, GE462.out, NB455_462.out, NB462_455.out, NB456_462.out, NB462_456.out, NB457_462.out, NB462_457.out, z16_31⟩)
   intro hJ4_9
   refine join_ (σ := Nat) 5 y16_19 (fun s_ => [(10, .int .i64 t458), (5, .pointer (some ⟨s_, 0, none⟩))]) (fun s_ w' => (w'.cell? ⟨gb455, 0, none⟩ = some (.int .i64 a0_0) ∧ w'.cell? ⟨gb455, 1, none⟩ = some (.int .i64 a0_1) ∧ w'.cell? ⟨gb455, 2, none⟩ = some (.int .i64 a0_2) ∧ w'.cell? ⟨gb455, 3, none⟩ = some (.int .i64 a0_3) ∧ w'.cell? ⟨gb456, 0, none⟩ = some (.int .i64 a1_0) ∧ w'.cell? ⟨gb456, 1, none⟩ = some (.int .i64 a1_1) ∧ w'.cell? ⟨gb456, 2, none⟩ = some (.int .i64 a1_2) ∧ w'.cell? ⟨gb456, 3, none⟩ = some (.int .i64 a1_3)) ∧ (w'.heap[gb455]? = some (.cells #[.int .i64 a0_0, .int .i64 a0_1, .int .i64 a0_2, .int .i64 a0_3] 63 (0, 0))) ∧ (w'.heap[gb456]? = some (.cells #[.int .i64 a1_0, .int .i64 a1_1, .int .i64 a1_2, .int .i64 a1_3] 63 (0, 0))) ∧ (w'.heap[gb457]? = some (.cells #[.int .i64 0, .int .i64 0, .int .i64 0, .int .i64 0] 63 (0, 0))) ∧ (w'.heap[s_]? = some (.cells #[.int .i64 0, .int .i64 0, .int .i64 0, .int .i64 0] 63 (0, 0))) ∧ (w.heap.size ≤ s_) ∧ (w.heap.size ≤ s_) ∧ (gb455 ≠ s_) ∧ (s_ ≠ gb455) ∧ (gb456 ≠ s_) ∧ (s_ ≠ gb456) ∧ (gb457 ≠ s_) ∧ (s_ ≠ gb457) ∧ (Below w.heap.size w w')) ?_ ?_
   rotate_left
   rotate_left
   ·skip
    rintro gb462 w14 ⟨hS_, h0_, h1_, h2_, h3_, h4_, h5_, h6_, h7_, h8_, h9_, h10_, h11_, h12_⟩
    have n0_ : Aside0 (w14.heap[gb455]? = some (.cells #[.int .i64 a0_0, .int .i64 a0_1, .int .i64 a0_2, .int .i64 a0_3] 63 (0, 0))) := ⟨h0_⟩
    have n1_ : Aside0 (w14.heap[gb456]? = some (.cells #[.int .i64 a1_0, .int .i64 a1_1, .int .i64 a1_2, .int .i64 a1_3] 63 (0, 0))) := ⟨h1_⟩
    have n2_ : Aside0 (w14.heap[gb457]? = some (.cells #[.int .i64 0, .int .i64 0, .int .i64 0, .int .i64 0] 63 (0, 0))) := ⟨h2_⟩
    have n3_ : Aside0 (w14.heap[gb462]? = some (.cells #[.int .i64 0, .int .i64 0, .int .i64 0, .int .i64 0] 63 (0, 0))) := ⟨h3_⟩
    have n4_ : Aside0 (w.heap.size ≤ gb462) := ⟨h4_⟩
    have n5_ : Aside0 (w.heap.size ≤ gb462) := ⟨h5_⟩
    have n6_ : Aside0 (gb455 ≠ gb462) := ⟨h6_⟩
    have n7_ : Aside0 (gb462 ≠ gb455) := ⟨h7_⟩
    have n8_ : Aside0 (gb456 ≠ gb462) := ⟨h8_⟩
    have n9_ : Aside0 (gb462 ≠ gb456) := ⟨h9_⟩
    have n10_ : Aside0 (gb457 ≠ gb462) := ⟨h10_⟩
    have n11_ : Aside0 (gb462 ≠ gb457) := ⟨h11_⟩
    have n12_ : Aside0 (Below w.heap.size w w14) := ⟨h12_⟩
    clear BK455 BK456 BK457 HB h0_ h1_ h2_ h3_ h4_ h5_ h6_ h7_ h8_ h9_ h10_ h11_ h12_; have BK455 := n0_; have BK456 := n1_; have BK457 := n2_; have BK462 := n3_; have GW462 := n4_; have GE462 := n5_; have NB455_462 := n6_; have NB462_455 := n7_; have NB456_462 := n8_; have NB462_456 := n9_; have NB457_462 := n10_; have NB462_457 := n11_; have HB := n12_; clear n0_ n1_ n2_ n3_ n4_ n5_ n6_ n7_ n8_ n9_ n10_ n11_ n12_
    have hHeld : w14.cell? ⟨gb455, 0, none⟩ = some (.int .i64 a0_0) ∧ w14.cell? ⟨gb455, 1, none⟩ = some (.int .i64 a0_1) ∧ w14.cell? ⟨gb455, 2, none⟩ = some (.int .i64 a0_2) ∧ w14.cell? ⟨gb455, 3, none⟩ = some (.int .i64 a0_3) ∧ w14.cell? ⟨gb456, 0, none⟩ = some (.int .i64 a1_0) ∧ w14.cell? ⟨gb456, 1, none⟩ = some (.int .i64 a1_1) ∧ w14.cell? ⟨gb456, 2, none⟩ = some (.int .i64 a1_2) ∧ w14.cell? ⟨gb456, 3, none⟩ = some (.int .i64 a1_3) := hS_
    refine norm_ (a' := ?_) ?_ ?_
    rotate_left
    ·simp only [putAll, Act.put, List.setIfInBounds_toArray, List.set_cons_zero, List.set_cons_succ]
     rfl
    refine one_ (i := 9) (N := some 15) y16_21 rfl rfl (one_of HT_.out (by kernel_rfl)) (by decide) (fun K hK => ?_)
    refine goes_ Try.func132 (by kernel_rfl) rfl #[.int .i64 a0_1, .int .i64 a1_1] (by rfl) rfl rfl z16_33 ?_
    with_reducible refine (spec_l05Most.calls a0_1 a1_1 t459 _ A4.out).mono ?_
    rintro e w' ⟨rfl, ⟨nd, rfl⟩⟩
    refine ⟨_, rfl, ?_⟩
    refine hK.out _ _ ⟨(blk_cell BK455.out 0).trans rfl, (blk_cell BK455.out 1).trans rfl, (blk_cell BK455.out 2).trans rfl, (blk_cell BK455.out 3).trans rfl, (blk_cell BK456.out 0).trans rfl, (blk_cell BK456.out 1).trans rfl, (blk_cell BK456.out 2).trans rfl, (blk_cell BK456.out 3).trans rfl⟩ (fun hHeld => ?_)
    clear hK K
    refine norm_ (a' := ?_) ?_ ?_
    rotate_left
    ·show Act.put _ (some 15) _ = _
     simp only [Act.put, List.setIfInBounds_toArray, List.set_cons_zero, List.set_cons_succ, i64_w, i32_w]
     rfl
    exact norm_ z16_32 (hJ4_9_21 (gb462) _ ⟨hHeld, (pkb BK455), (pkb BK456), (pkb BK457), (pkb BK462), GW462.out, GE462.out, NB455_462.out, NB462_455.out, NB456_462.out, NB462_456.out, NB457_462.out, NB462_457.out, z16_31⟩)
   intro hJ4_21
   refine join_ (σ := Unit) 6 y16_18 (fun s_ => [(10, .int .i64 t458)]) (fun s_ w' => (w'.cell? ⟨gb455, 0, none⟩ = some (.int .i64 a0_0) ∧ w'.cell? ⟨gb455, 1, none⟩ = some (.int .i64 a0_1) ∧ w'.cell? ⟨gb455, 2, none⟩ = some (.int .i64 a0_2) ∧ w'.cell? ⟨gb455, 3, none⟩ = some (.int .i64 a0_3) ∧ w'.cell? ⟨gb456, 0, none⟩ = some (.int .i64 a1_0) ∧ w'.cell? ⟨gb456, 1, none⟩ = some (.int .i64 a1_1) ∧ w'.cell? ⟨gb456, 2, none⟩ = some (.int .i64 a1_2) ∧ w'.cell? ⟨gb456, 3, none⟩ = some (.int .i64 a1_3)) ∧ (w'.heap[gb455]? = some (.cells #[.int .i64 a0_0, .int .i64 a0_1, .int .i64 a0_2, .int .i64 a0_3] 63 (0, 0))) ∧ (w'.heap[gb456]? = some (.cells #[.int .i64 a1_0, .int .i64 a1_1, .int .i64 a1_2, .int .i64 a1_3] 63 (0, 0))) ∧ (w'.heap[gb457]? = some (.cells #[.int .i64 0, .int .i64 0, .int .i64 0, .int .i64 0] 63 (0, 0))) ∧ (Below w.heap.size w w')) ?_ ?_
   rotate_left
   rotate_left
   ·skip
    rintro _ w13 ⟨hS_, h0_, h1_, h2_, h3_⟩
    have n0_ : Aside0 (w13.heap[gb455]? = some (.cells #[.int .i64 a0_0, .int .i64 a0_1, .int .i64 a0_2, .int .i64 a0_3] 63 (0, 0))) := ⟨h0_⟩
    have n1_ : Aside0 (w13.heap[gb456]? = some (.cells #[.int .i64 a1_0, .int .i64 a1_1, .int .i64 a1_2, .int .i64 a1_3] 63 (0, 0))) := ⟨h1_⟩
    have n2_ : Aside0 (w13.heap[gb457]? = some (.cells #[.int .i64 0, .int .i64 0, .int .i64 0, .int .i64 0] 63 (0, 0))) := ⟨h2_⟩
    have n3_ : Aside0 (Below w.heap.size w w13) := ⟨h3_⟩
    clear BK455 BK456 BK457 HB h0_ h1_ h2_ h3_; have BK455 := n0_; have BK456 := n1_; have BK457 := n2_; have HB := n3_; clear n0_ n1_ n2_ n3_
    have hHeld : w13.cell? ⟨gb455, 0, none⟩ = some (.int .i64 a0_0) ∧ w13.cell? ⟨gb455, 1, none⟩ = some (.int .i64 a0_1) ∧ w13.cell? ⟨gb455, 2, none⟩ = some (.int .i64 a0_2) ∧ w13.cell? ⟨gb455, 3, none⟩ = some (.int .i64 a0_3) ∧ w13.cell? ⟨gb456, 0, none⟩ = some (.int .i64 a1_0) ∧ w13.cell? ⟨gb456, 1, none⟩ = some (.int .i64 a1_1) ∧ w13.cell? ⟨gb456, 2, none⟩ = some (.int .i64 a1_2) ∧ w13.cell? ⟨gb456, 3, none⟩ = some (.int .i64 a1_3) := hS_
    refine norm_ (a' := ?_) ?_ ?_
    rotate_left
    ·simp only [putAll, Act.put, List.setIfInBounds_toArray, List.set_cons_zero, List.set_cons_succ]
     rfl
    refine two_ (i := 9) (j := 21) (Ni := some 15) (Nj := some 5) y16_20 y16_19 rfl rfl rfl rfl (two_of HT_.out (by kernel_rfl)) (by decide) (by decide) (fun K hK => ?_) (fun K hK => ?_)
    ·skip
     refine goes_ Try.func132 (by kernel_rfl) rfl #[.int .i64 a0_1, .int .i64 a1_1] (by rfl) rfl rfl z16_33 ?_
     with_reducible refine (spec_l05Most.calls a0_1 a1_1 t459 _ A4.out).mono ?_
     rintro e w' ⟨rfl, ⟨nd, rfl⟩⟩
     refine ⟨_, rfl, ?_⟩
     refine hK.out _ _ ⟨(blk_cell BK455.out 0).trans rfl, (blk_cell BK455.out 1).trans rfl, (blk_cell BK455.out 2).trans rfl, (blk_cell BK455.out 3).trans rfl, (blk_cell BK456.out 0).trans rfl, (blk_cell BK456.out 1).trans rfl, (blk_cell BK456.out 2).trans rfl, (blk_cell BK456.out 3).trans rfl⟩ (fun hHeld => ?_)
     clear hK K
     refine norm_ (a' := ?_) ?_ ?_
     rotate_left
     ·show Act.put _ (some 15) _ = _
      simp only [Act.put, List.setIfInBounds_toArray, List.set_cons_zero, List.set_cons_succ, i64_w, i32_w]
      rfl
     exact norm_ z16_32 (hJ4_9 () _ ⟨hHeld, (pkb BK455), (pkb BK456), (pkb BK457), z16_30⟩)
    skip
    refine box_step ?hg (N := 5) ?hd (cs := #[.int .i64 0, .int .i64 0, .int .i64 0, .int .i64 0]) (t := 63) ?hr ?_; (case hd => rfl); (case hg => rfl); (case hr => first | (go_simp; done) | (go_simp; rfl))
    intro gb462 hg w14 hbox hb
    have n0_ := mk0 (blk_belowB BK455 (pkb BK455) hb)
    have n1_ := mk0 (blk_belowB BK456 (pkb BK456) hb)
    have n2_ := mk0 (blk_belowB BK457 (pkb BK457) hb)
    have n3_ := mk0 (below_step z16_30 hb)
    have n4_ := mk0 (hbox)
    have n5_ := mk0 (ge_go (a := w.heap.size) hg (below_size z16_30))
    have n6_ := mk0 (ge_go (a := w.heap.size) hg (below_size z16_30))
    have n7_ := mk0 (nb_lt hg (blk_ltB BK455 (pkb BK455)))
    have n8_ := mk0 (nb_gt hg (blk_ltB BK455 (pkb BK455)))
    have n9_ := mk0 (nb_lt hg (blk_ltB BK456 (pkb BK456)))
    have n10_ := mk0 (nb_gt hg (blk_ltB BK456 (pkb BK456)))
    have n11_ := mk0 (nb_lt hg (blk_ltB BK457 (pkb BK457)))
    have n12_ := mk0 (nb_gt hg (blk_ltB BK457 (pkb BK457)))
    clear BK455 BK456 BK457 HB; have BK455 := n0_; have BK456 := n1_; have BK457 := n2_; have HB := n3_; have BK462 := n4_; have GW462 := n5_; have GE462 := n6_; have NB455_462 := n7_; have NB462_455 := n8_; have NB456_462 := n9_; have NB462_456 := n10_; have NB457_462 := n11_; have NB462_457 := n12_; clear n0_ n1_ n2_ n3_ n4_ n5_ n6_ n7_ n8_ n9_ n10_ n11_ n12_ hb hbox hg
    refine hK.out _ _ ⟨(blk_cell BK455.out 0).trans rfl, (blk_cell BK455.out 1).trans rfl, (blk_cell BK455.out 2).trans rfl, (blk_cell BK455.out 3).trans rfl, (blk_cell BK456.out 0).trans rfl, (blk_cell BK456.out 1).trans rfl, (blk_cell BK456.out 2).trans rfl, (blk_cell BK456.out 3).trans rfl⟩ (fun hHeld => ?_)
    clear hK K
    refine norm_ (a' := ?_) ?_ ?_
    rotate_left
    ·show Act.put _ (some 5) _ = _
     simp only [Act.put, List.setIfInBounds_toArray, List.set_cons_zero, List.set_cons_succ, i64_w, i32_w]
     rfl
    exact norm_ z16_32 (hJ4_21 (gb462) _ ⟨hHeld, (pkb BK455), (pkb BK456), (pkb BK457), (pkb BK462), GW462.out, GE462.out, NB455_462.out, NB462_455.out, NB456_462.out, NB462_456.out, NB457_462.out, NB462_457.out, z16_31⟩)
   intro hJ4
   refine join_ (σ := Nat) 6 y16_17 (fun s_ => [(5, .pointer (some ⟨s_, 0, none⟩))]) (fun s_ w' => (w'.cell? ⟨gb455, 0, none⟩ = some (.int .i64 a0_0) ∧ w'.cell? ⟨gb455, 1, none⟩ = some (.int .i64 a0_1) ∧ w'.cell? ⟨gb455, 2, none⟩ = some (.int .i64 a0_2) ∧ w'.cell? ⟨gb455, 3, none⟩ = some (.int .i64 a0_3) ∧ w'.cell? ⟨gb456, 0, none⟩ = some (.int .i64 a1_0) ∧ w'.cell? ⟨gb456, 1, none⟩ = some (.int .i64 a1_1) ∧ w'.cell? ⟨gb456, 2, none⟩ = some (.int .i64 a1_2) ∧ w'.cell? ⟨gb456, 3, none⟩ = some (.int .i64 a1_3)) ∧ (w'.heap[gb455]? = some (.cells #[.int .i64 a0_0, .int .i64 a0_1, .int .i64 a0_2, .int .i64 a0_3] 63 (0, 0))) ∧ (w'.heap[gb456]? = some (.cells #[.int .i64 a1_0, .int .i64 a1_1, .int .i64 a1_2, .int .i64 a1_3] 63 (0, 0))) ∧ (w'.heap[gb457]? = some (.cells #[.int .i64 0, .int .i64 0, .int .i64 0, .int .i64 0] 63 (0, 0))) ∧ (w'.heap[s_]? = some (.cells #[.int .i64 0, .int .i64 0, .int .i64 0, .int .i64 0] 63 (0, 0))) ∧ (w.heap.size ≤ s_) ∧ (w.heap.size ≤ s_) ∧ (gb455 ≠ s_) ∧ (s_ ≠ gb455) ∧ (gb456 ≠ s_) ∧ (s_ ≠ gb456) ∧ (gb457 ≠ s_) ∧ (s_ ≠ gb457) ∧ (Below w.heap.size w w')) ?_ ?_
   rotate_left
   ·intro hJ21
    refine two_ (i := 4) (j := 21) (Ni := some 10) (Nj := some 5) y16_18 y16_17 rfl rfl rfl rfl (two_of HT_.out (by kernel_rfl)) (by decide) (by decide) (fun K hK => ?_) (fun K hK => ?_)
    ·skip
     refine goes_ Try.func132 (by kernel_rfl) rfl #[.int .i64 a0_0, .int .i64 a1_0] (by rfl) rfl rfl z16_33 ?_
     with_reducible refine (spec_l05Most.calls a0_0 a1_0 t458 _ A3.out).mono ?_
     rintro e w' ⟨rfl, ⟨nd, rfl⟩⟩
     refine ⟨_, rfl, ?_⟩
     refine hK.out _ _ ⟨(blk_cell BK455.out 0).trans rfl, (blk_cell BK455.out 1).trans rfl, (blk_cell BK455.out 2).trans rfl, (blk_cell BK455.out 3).trans rfl, (blk_cell BK456.out 0).trans rfl, (blk_cell BK456.out 1).trans rfl, (blk_cell BK456.out 2).trans rfl, (blk_cell BK456.out 3).trans rfl⟩ (fun hHeld => ?_)
     clear hK K
     refine norm_ (a' := ?_) ?_ ?_
     rotate_left
     ·show Act.put _ (some 10) _ = _
      simp only [Act.put, List.setIfInBounds_toArray, List.set_cons_zero, List.set_cons_succ, i64_w, i32_w]
      rfl
     exact norm_ z16_32 (hJ4 () _ ⟨hHeld, (pkb BK455), (pkb BK456), (pkb BK457), z16_30⟩)
    skip
    refine box_step ?hg (N := 5) ?hd (cs := #[.int .i64 0, .int .i64 0, .int .i64 0, .int .i64 0]) (t := 63) ?hr ?_; (case hd => rfl); (case hg => rfl); (case hr => first | (go_simp; done) | (go_simp; rfl))
    intro gb462 hg w13 hbox hb
    have n0_ := mk0 (blk_belowB BK455 (pkb BK455) hb)
    have n1_ := mk0 (blk_belowB BK456 (pkb BK456) hb)
    have n2_ := mk0 (blk_belowB BK457 (pkb BK457) hb)
    have n3_ := mk0 (below_step z16_30 hb)
    have n4_ := mk0 (hbox)
    have n5_ := mk0 (ge_go (a := w.heap.size) hg (below_size z16_30))
    have n6_ := mk0 (ge_go (a := w.heap.size) hg (below_size z16_30))
    have n7_ := mk0 (nb_lt hg (blk_ltB BK455 (pkb BK455)))
    have n8_ := mk0 (nb_gt hg (blk_ltB BK455 (pkb BK455)))
    have n9_ := mk0 (nb_lt hg (blk_ltB BK456 (pkb BK456)))
    have n10_ := mk0 (nb_gt hg (blk_ltB BK456 (pkb BK456)))
    have n11_ := mk0 (nb_lt hg (blk_ltB BK457 (pkb BK457)))
    have n12_ := mk0 (nb_gt hg (blk_ltB BK457 (pkb BK457)))
    clear BK455 BK456 BK457 HB; have BK455 := n0_; have BK456 := n1_; have BK457 := n2_; have HB := n3_; have BK462 := n4_; have GW462 := n5_; have GE462 := n6_; have NB455_462 := n7_; have NB462_455 := n8_; have NB456_462 := n9_; have NB462_456 := n10_; have NB457_462 := n11_; have NB462_457 := n12_; clear n0_ n1_ n2_ n3_ n4_ n5_ n6_ n7_ n8_ n9_ n10_ n11_ n12_ hb hbox hg
    refine hK.out _ _ ⟨(blk_cell BK455.out 0).trans rfl, (blk_cell BK455.out 1).trans rfl, (blk_cell BK455.out 2).trans rfl, (blk_cell BK455.out 3).trans rfl, (blk_cell BK456.out 0).trans rfl, (blk_cell BK456.out 1).trans rfl, (blk_cell BK456.out 2).trans rfl, (blk_cell BK456.out 3).trans rfl⟩ (fun hHeld => ?_)
    clear hK K
    refine norm_ (a' := ?_) ?_ ?_
    rotate_left
    ·show Act.put _ (some 5) _ = _
     simp only [Act.put, List.setIfInBounds_toArray, List.set_cons_zero, List.set_cons_succ, i64_w, i32_w]
     rfl
    exact norm_ z16_32 (hJ21 (gb462) _ ⟨hHeld, (pkb BK455), (pkb BK456), (pkb BK457), (pkb BK462), GW462.out, GE462.out, NB455_462.out, NB462_455.out, NB456_462.out, NB462_456.out, NB457_462.out, NB462_457.out, z16_31⟩)
   skip
   rintro gb462 w14 ⟨hS_, h0_, h1_, h2_, h3_, h4_, h5_, h6_, h7_, h8_, h9_, h10_, h11_, h12_⟩
   have n0_ : Aside0 (w14.heap[gb455]? = some (.cells #[.int .i64 a0_0, .int .i64 a0_1, .int .i64 a0_2, .int .i64 a0_3] 63 (0, 0))) := ⟨h0_⟩
   have n1_ : Aside0 (w14.heap[gb456]? = some (.cells #[.int .i64 a1_0, .int .i64 a1_1, .int .i64 a1_2, .int .i64 a1_3] 63 (0, 0))) := ⟨h1_⟩
   have n2_ : Aside0 (w14.heap[gb457]? = some (.cells #[.int .i64 0, .int .i64 0, .int .i64 0, .int .i64 0] 63 (0, 0))) := ⟨h2_⟩
   have n3_ : Aside0 (w14.heap[gb462]? = some (.cells #[.int .i64 0, .int .i64 0, .int .i64 0, .int .i64 0] 63 (0, 0))) := ⟨h3_⟩
   have n4_ : Aside0 (w.heap.size ≤ gb462) := ⟨h4_⟩
   have n5_ : Aside0 (w.heap.size ≤ gb462) := ⟨h5_⟩
   have n6_ : Aside0 (gb455 ≠ gb462) := ⟨h6_⟩
   have n7_ : Aside0 (gb462 ≠ gb455) := ⟨h7_⟩
   have n8_ : Aside0 (gb456 ≠ gb462) := ⟨h8_⟩
   have n9_ : Aside0 (gb462 ≠ gb456) := ⟨h9_⟩
   have n10_ : Aside0 (gb457 ≠ gb462) := ⟨h10_⟩
   have n11_ : Aside0 (gb462 ≠ gb457) := ⟨h11_⟩
   have n12_ : Aside0 (Below w.heap.size w w14) := ⟨h12_⟩
   clear BK455 BK456 BK457 HB h0_ h1_ h2_ h3_ h4_ h5_ h6_ h7_ h8_ h9_ h10_ h11_ h12_; have BK455 := n0_; have BK456 := n1_; have BK457 := n2_; have BK462 := n3_; have GW462 := n4_; have GE462 := n5_; have NB455_462 := n6_; have NB462_455 := n7_; have NB456_462 := n8_; have NB462_456 := n9_; have NB457_462 := n10_; have NB462_457 := n11_; have HB := n12_; clear n0_ n1_ n2_ n3_ n4_ n5_ n6_ n7_ n8_ n9_ n10_ n11_ n12_
   have hHeld : w14.cell? ⟨gb455, 0, none⟩ = some (.int .i64 a0_0) ∧ w14.cell? ⟨gb455, 1, none⟩ = some (.int .i64 a0_1) ∧ w14.cell? ⟨gb455, 2, none⟩ = some (.int .i64 a0_2) ∧ w14.cell? ⟨gb455, 3, none⟩ = some (.int .i64 a0_3) ∧ w14.cell? ⟨gb456, 0, none⟩ = some (.int .i64 a1_0) ∧ w14.cell? ⟨gb456, 1, none⟩ = some (.int .i64 a1_1) ∧ w14.cell? ⟨gb456, 2, none⟩ = some (.int .i64 a1_2) ∧ w14.cell? ⟨gb456, 3, none⟩ = some (.int .i64 a1_3) := hS_
   refine norm_ (a' := ?_) ?_ ?_
   rotate_left
   ·simp only [putAll, Act.put, List.setIfInBounds_toArray, List.set_cons_zero, List.set_cons_succ]
    rfl
   refine one_ (i := 4) (N := some 10) y16_19 rfl rfl (one_of HT_.out (by kernel_rfl)) (by decide) (fun K hK => ?_)
   refine goes_ Try.func132 (by kernel_rfl) rfl #[.int .i64 a0_0, .int .i64 a1_0] (by rfl) rfl rfl z16_33 ?_
   with_reducible refine (spec_l05Most.calls a0_0 a1_0 t458 _ A3.out).mono ?_
   rintro e w' ⟨rfl, ⟨nd, rfl⟩⟩
   refine ⟨_, rfl, ?_⟩
   refine hK.out _ _ ⟨(blk_cell BK455.out 0).trans rfl, (blk_cell BK455.out 1).trans rfl, (blk_cell BK455.out 2).trans rfl, (blk_cell BK455.out 3).trans rfl, (blk_cell BK456.out 0).trans rfl, (blk_cell BK456.out 1).trans rfl, (blk_cell BK456.out 2).trans rfl, (blk_cell BK456.out 3).trans rfl⟩ (fun hHeld => ?_)
   clear hK K
   refine norm_ (a' := ?_) ?_ ?_
   rotate_left
   ·show Act.put _ (some 10) _ = _
    simp only [Act.put, List.setIfInBounds_toArray, List.set_cons_zero, List.set_cons_succ, i64_w, i32_w]
    rfl
   exact norm_ z16_32 (hJ4_21 (gb462) _ ⟨hHeld, (pkb BK455), (pkb BK456), (pkb BK457), (pkb BK462), GW462.out, GE462.out, NB455_462.out, NB462_455.out, NB456_462.out, NB462_456.out, NB457_462.out, NB462_457.out, z16_31⟩)
  rintro gb462 w14 ⟨hS_, h0_, h1_, h2_, h3_, h4_, h5_, h6_, h7_, h8_, h9_, h10_, h11_, h12_⟩
  have n0_ : Aside0 (w14.heap[gb455]? = some (.cells #[.int .i64 a0_0, .int .i64 a0_1, .int .i64 a0_2, .int .i64 a0_3] 63 (0, 0))) := ⟨h0_⟩
  have n1_ : Aside0 (w14.heap[gb456]? = some (.cells #[.int .i64 a1_0, .int .i64 a1_1, .int .i64 a1_2, .int .i64 a1_3] 63 (0, 0))) := ⟨h1_⟩
  have n2_ : Aside0 (w14.heap[gb457]? = some (.cells #[.int .i64 0, .int .i64 0, .int .i64 0, .int .i64 0] 63 (0, 0))) := ⟨h2_⟩
  have n3_ : Aside0 (w14.heap[gb462]? = some (.cells #[.int .i64 0, .int .i64 0, .int .i64 0, .int .i64 0] 63 (0, 0))) := ⟨h3_⟩
  have n4_ : Aside0 (w.heap.size ≤ gb462) := ⟨h4_⟩
  have n5_ : Aside0 (w.heap.size ≤ gb462) := ⟨h5_⟩
  have n6_ : Aside0 (gb455 ≠ gb462) := ⟨h6_⟩
  have n7_ : Aside0 (gb462 ≠ gb455) := ⟨h7_⟩
  have n8_ : Aside0 (gb456 ≠ gb462) := ⟨h8_⟩
  have n9_ : Aside0 (gb462 ≠ gb456) := ⟨h9_⟩
  have n10_ : Aside0 (gb457 ≠ gb462) := ⟨h10_⟩
  have n11_ : Aside0 (gb462 ≠ gb457) := ⟨h11_⟩
  have n12_ : Aside0 (Below w.heap.size w w14) := ⟨h12_⟩
  clear BK455 BK456 BK457 HB h0_ h1_ h2_ h3_ h4_ h5_ h6_ h7_ h8_ h9_ h10_ h11_ h12_; have BK455 := n0_; have BK456 := n1_; have BK457 := n2_; have BK462 := n3_; have GW462 := n4_; have GE462 := n5_; have NB455_462 := n6_; have NB462_455 := n7_; have NB456_462 := n8_; have NB462_456 := n9_; have NB457_462 := n10_; have NB462_457 := n11_; have HB := n12_; clear n0_ n1_ n2_ n3_ n4_ n5_ n6_ n7_ n8_ n9_ n10_ n11_ n12_
  have hHeld : w14.cell? ⟨gb455, 0, none⟩ = some (.int .i64 a0_0) ∧ w14.cell? ⟨gb455, 1, none⟩ = some (.int .i64 a0_1) ∧ w14.cell? ⟨gb455, 2, none⟩ = some (.int .i64 a0_2) ∧ w14.cell? ⟨gb455, 3, none⟩ = some (.int .i64 a0_3) ∧ w14.cell? ⟨gb456, 0, none⟩ = some (.int .i64 a1_0) ∧ w14.cell? ⟨gb456, 1, none⟩ = some (.int .i64 a1_1) ∧ w14.cell? ⟨gb456, 2, none⟩ = some (.int .i64 a1_2) ∧ w14.cell? ⟨gb456, 3, none⟩ = some (.int .i64 a1_3) := hS_
  refine norm_ (a' := ?_) ?_ ?_
  rotate_left
  ·simp only [putAll, Act.put, List.setIfInBounds_toArray, List.set_cons_zero, List.set_cons_succ]
   rfl
  refine one_ (i := 22) (N := none) y16_28 rfl rfl (one_of HT_.out (by kernel_rfl)) (by decide) (fun K hK => ?_)
  have hs15 : w14.cell? ⟨gb462, 0, none⟩ = some (.int .i64 0) := (blk_cell BK462.out 0).trans rfl
  have hfs15 := blk_frozen BK462.out 0
  have hns15_0 := NB455_462.out; have hns15_1 := NB456_462.out; have hns15_2 := NB457_462.out; have hms15_0 := NB462_455.out; have hms15_1 := NB462_456.out; have hms15_2 := NB462_457.out
  have hs16 : w14.cell? ⟨gb462, 1, none⟩ = some (.int .i64 0) := (blk_cell BK462.out 1).trans rfl
  have hfs16 := blk_frozen BK462.out 1
  have hns16_0 := NB455_462.out; have hns16_1 := NB456_462.out; have hns16_2 := NB457_462.out; have hms16_0 := NB462_455.out; have hms16_1 := NB462_456.out; have hms16_2 := NB462_457.out
  have hs17 : w14.cell? ⟨gb462, 2, none⟩ = some (.int .i64 0) := (blk_cell BK462.out 2).trans rfl
  have hfs17 := blk_frozen BK462.out 2
  have hns17_0 := NB455_462.out; have hns17_1 := NB456_462.out; have hns17_2 := NB457_462.out; have hms17_0 := NB462_455.out; have hms17_1 := NB462_456.out; have hms17_2 := NB462_457.out
  have hs18 : w14.cell? ⟨gb462, 3, none⟩ = some (.int .i64 0) := (blk_cell BK462.out 3).trans rfl
  have hfs18 := blk_frozen BK462.out 3
  have hns18_0 := NB455_462.out; have hns18_1 := NB456_462.out; have hns18_2 := NB457_462.out; have hms18_0 := NB462_455.out; have hms18_1 := NB462_456.out; have hms18_2 := NB462_457.out
  refine skip_ (w1 := ?_) (by rfl) rfl ?_ ?_
  rotate_left
  ·go_simp
   rfl
  refine hK.out _ _ ⟨((cell_far (p := ⟨gb462, _, none⟩) NB455_462.out _).trans (((cell_far (p := ⟨gb462, _, none⟩) NB455_462.out _).trans (((cell_far (p := ⟨gb462, _, none⟩) NB455_462.out _).trans (((cell_far (p := ⟨gb462, _, none⟩) NB455_462.out _).trans (hHeld.1)))))))), ((cell_far (p := ⟨gb462, _, none⟩) NB455_462.out _).trans (((cell_far (p := ⟨gb462, _, none⟩) NB455_462.out _).trans (((cell_far (p := ⟨gb462, _, none⟩) NB455_462.out _).trans (((cell_far (p := ⟨gb462, _, none⟩) NB455_462.out _).trans (hHeld.2.1)))))))), ((cell_far (p := ⟨gb462, _, none⟩) NB455_462.out _).trans (((cell_far (p := ⟨gb462, _, none⟩) NB455_462.out _).trans (((cell_far (p := ⟨gb462, _, none⟩) NB455_462.out _).trans (((cell_far (p := ⟨gb462, _, none⟩) NB455_462.out _).trans (hHeld.2.2.1)))))))), ((cell_far (p := ⟨gb462, _, none⟩) NB455_462.out _).trans (((cell_far (p := ⟨gb462, _, none⟩) NB455_462.out _).trans (((cell_far (p := ⟨gb462, _, none⟩) NB455_462.out _).trans (((cell_far (p := ⟨gb462, _, none⟩) NB455_462.out _).trans (hHeld.2.2.2.1)))))))), ((cell_far (p := ⟨gb462, _, none⟩) NB456_462.out _).trans (((cell_far (p := ⟨gb462, _, none⟩) NB456_462.out _).trans (((cell_far (p := ⟨gb462, _, none⟩) NB456_462.out _).trans (((cell_far (p := ⟨gb462, _, none⟩) NB456_462.out _).trans (hHeld.2.2.2.2.1)))))))), ((cell_far (p := ⟨gb462, _, none⟩) NB456_462.out _).trans (((cell_far (p := ⟨gb462, _, none⟩) NB456_462.out _).trans (((cell_far (p := ⟨gb462, _, none⟩) NB456_462.out _).trans (((cell_far (p := ⟨gb462, _, none⟩) NB456_462.out _).trans (hHeld.2.2.2.2.2.1)))))))), ((cell_far (p := ⟨gb462, _, none⟩) NB456_462.out _).trans (((cell_far (p := ⟨gb462, _, none⟩) NB456_462.out _).trans (((cell_far (p := ⟨gb462, _, none⟩) NB456_462.out _).trans (((cell_far (p := ⟨gb462, _, none⟩) NB456_462.out _).trans (hHeld.2.2.2.2.2.2.1)))))))), ((cell_far (p := ⟨gb462, _, none⟩) NB456_462.out _).trans (((cell_far (p := ⟨gb462, _, none⟩) NB456_462.out _).trans (((cell_far (p := ⟨gb462, _, none⟩) NB456_462.out _).trans (((cell_far (p := ⟨gb462, _, none⟩) NB456_462.out _).trans (hHeld.2.2.2.2.2.2.2))))))))⟩ (fun hHeld => ?_)
  clear hK K
  refine done_ (done_of HT_.out (by kernel_rfl)) ?_
  have hnb19 := NB462_455.out; have hnc19 := NB455_462.out; have hnb20 := NB462_456.out; have hnc20 := NB456_462.out; have hnb21 := NB462_457.out; have hnc21 := NB457_462.out
  obtain ⟨_, _, _, _, _, _, _, _⟩ := be_4 BK462.out
  try go_wp2_with (first | ((with_reducible refine gate_callee (f := 134) rfl ?_); refine goesL_ (some 28) rfl rfl Try.func134 (by kernel_rfl) rfl #[.agg #[.int .i64 t458, .int .i64 t459, .int .i64 t460, .int .i64 t461]] rfl z16_33 ?_; (with_reducible refine (spec_Empty.calls t458 t459 t460 t461 true _ A7.out).mono ?_); rintro e w23 ⟨rfl, hb⟩; refine ⟨_, rfl, ?_⟩; have n0_ := mk0 (blk_belowB BK455 z16_37 hb); have n1_ := mk0 (blk_belowB BK456 z16_38 hb); have n2_ := mk0 (blk_belowB BK457 z16_39 hb); have n3_ := mk0 (blk_below (g := gb462) (o := .cells #[.int .i64 t458, .int .i64 t459, .int .i64 t460, .int .i64 t461] 63 (0, 0)) z16_40 hb); have n4_ := mk0 (below_step z16_31 hb); clear BK455 BK456 BK457 BK462 HB; have BK455 := n0_; have BK456 := n1_; have BK457 := n2_; have BK462 := n3_; have HB := n4_; clear n0_ n1_ n2_ n3_ n4_; (try clear hb); have hnb24 := NB457_455.out; have hnc24 := NB455_457.out; have hnb25 := NB457_456.out; have hnc25 := NB456_457.out; obtain ⟨_, _, _, _, _, _, _, _⟩ := be_4 BK457.out))
  refine bodyPost_ret (results_cell_row rfl _ _ gb457 63 #[.int .i64 0, .int .i64 0, .int .i64 0, .int .i64 0] (0, 0) _ rfl z16_41 Try.underlying63 rfl (by kernel_rfl)) rfl ?_
  exact ⟨(by first | rfl | (simp [errW_none, errW_some] <;> rfl) | (simp [*, errW_none, errW_some] <;> rfl)), z16_31⟩
 replace c8 := Bool.eq_false_iff.mpr c8
 subst c8
 rw [if_neg (show ¬ (false = true) by decide)] at H
 simp only [Option.some.injEq, Prod.mk.injEq] at H
 obtain ⟨rfl, rfl, rfl, rfl⟩ := H
 go_enter Try.func91, Try.ntmps91
 try go_wp2_with (first | ((with_reducible refine gate_dst (N := 2) rfl ?_); refine boxz (cs := #[.int .i64 a0_0, .int .i64 a0_1, .int .i64 a0_2, .int .i64 a0_3]) (t := 63) rfl ?_; intro gb455 hg w27 hbox hb; have n0_ := mk0 (below_step z16_36 hb); have n1_ := mk0 (hbox); have GW455 := mk0 (ge_go (a := w.heap.size) hg (below_size z16_36)); have GE455 := GW455; clear HB; have HB := n0_; have BK455 := n1_; clear n0_ n1_ ; clear hb hbox hg) | ((with_reducible refine gate_dst (N := 3) rfl ?_); refine boxz (cs := #[.int .i64 a1_0, .int .i64 a1_1, .int .i64 a1_2, .int .i64 a1_3]) (t := 63) rfl ?_; intro gb456 hg w28 hbox hb; have n0_ := mk0 (blk_belowB BK455 (pkb BK455) hb); have n1_ := mk0 (below_step z16_35 hb); have n2_ := mk0 (hbox); have GW456 := mk0 (ge_go (a := w.heap.size) hg (below_size z16_35)); have GE456 := GW456; have NB455_456 := mk0 (nb_lt hg (blk_ltB BK455 (pkb BK455))); have NB456_455 := mk0 (nb_gt hg (blk_ltB BK455 (pkb BK455))); clear BK455 HB; have BK455 := n0_; have HB := n1_; have BK456 := n2_; clear n0_ n1_ n2_ ; clear hb hbox hg) | ((with_reducible refine gate_dst (N := 4) rfl ?_); refine boxz (cs := #[.int .i64 0, .int .i64 0, .int .i64 0, .int .i64 0]) (t := 63) rfl ?_; intro gb457 hg w29 hbox hb; have n0_ := mk0 (blk_belowB BK455 (pkb BK455) hb); have n1_ := mk0 (blk_belowB BK456 (pkb BK456) hb); have n2_ := mk0 (below_step z16_34 hb); have n3_ := mk0 (hbox); have GW457 := mk0 (ge_go (a := w.heap.size) hg (below_size z16_34)); have GE457 := GW457; have NB455_457 := mk0 (nb_lt hg (blk_ltB BK455 (pkb BK455))); have NB457_455 := mk0 (nb_gt hg (blk_ltB BK455 (pkb BK455))); have NB456_457 := mk0 (nb_lt hg (blk_ltB BK456 (pkb BK456))); have NB457_456 := mk0 (nb_gt hg (blk_ltB BK456 (pkb BK456))); clear BK455 BK456 HB; have BK455 := n0_; have BK456 := n1_; have HB := n2_; have BK457 := n3_; clear n0_ n1_ n2_ n3_ ; clear hb hbox hg))
 have n0_ := mk0 (blk_drew BK455.out)
 have n1_ := mk0 (blk_drew BK456.out)
 have n2_ := mk0 (blk_drew BK457.out)
 have n3_ := mk0 (below_drew1 HB.out)
 clear BK455 BK456 BK457 HB; have BK455 := n0_; have BK456 := n1_; have BK457 := n2_; have HB := n3_; clear n0_ n1_ n2_ n3_
 refine start_ (n := 23) (S := fun w' => w'.cell? ⟨gb455, 0, none⟩ = some (.int .i64 a0_0) ∧ w'.cell? ⟨gb455, 1, none⟩ = some (.int .i64 a0_1) ∧ w'.cell? ⟨gb455, 2, none⟩ = some (.int .i64 a0_2) ∧ w'.cell? ⟨gb455, 3, none⟩ = some (.int .i64 a0_3) ∧ w'.cell? ⟨gb456, 0, none⟩ = some (.int .i64 a1_0) ∧ w'.cell? ⟨gb456, 1, none⟩ = some (.int .i64 a1_1) ∧ w'.cell? ⟨gb456, 2, none⟩ = some (.int .i64 a1_2) ∧ w'.cell? ⟨gb456, 3, none⟩ = some (.int .i64 a1_3)) (ds := []) y16_0 (by kernel_rfl) rfl rfl ⟨(blk_cell BK455.out 0).trans rfl, (blk_cell BK455.out 1).trans rfl, (blk_cell BK455.out 2).trans rfl, (blk_cell BK455.out 3).trans rfl, (blk_cell BK456.out 0).trans rfl, (blk_cell BK456.out 1).trans rfl, (blk_cell BK456.out 2).trans rfl, (blk_cell BK456.out 3).trans rfl⟩ (fun hHeld => ?_); refine with_tabW spec_MeetBox.tab1 spec_MeetBox.bits1 (fun HT_ HW_ => ?_)
 generalize w29.drew = w30 at BK455 BK456 BK457 HB hHeld ⊢
 refine pzv (i := 0) (N := 6) (v := ?_) (a' := ?_) y16_1 HT_ ?_ ?_ ?_
 rotate_left
 ·intro w'
  go_simp; with_reducible rfl
 rotate_left
 ·exact x16_put
 refine pzv (i := 2) (N := 8) (v := ?_) (a' := ?_) y16_2 HT_ ?_ ?_ ?_
 rotate_left
 ·intro w'
  go_simp; with_reducible rfl
 rotate_left
 ·exact x16_put
 refine pzv (i := 5) (N := 11) (v := ?_) (a' := ?_) y16_3 HT_ ?_ ?_ ?_
 rotate_left
 ·intro w'
  go_simp; with_reducible rfl
 rotate_left
 ·exact x16_put
 refine pzv (i := 7) (N := 13) (v := ?_) (a' := ?_) y16_4 HT_ ?_ ?_ ?_
 rotate_left
 ·intro w'
  go_simp; with_reducible rfl
 rotate_left
 ·exact x16_put
 refine pzv (i := 10) (N := 16) (v := ?_) (a' := ?_) y16_5 HT_ ?_ ?_ ?_
 rotate_left
 ·intro w'
  go_simp; with_reducible rfl
 rotate_left
 ·exact x16_put
 refine pzv (i := 12) (N := 18) (v := ?_) (a' := ?_) y16_6 HT_ ?_ ?_ ?_
 rotate_left
 ·intro w'
  go_simp; with_reducible rfl
 rotate_left
 ·exact x16_put
 refine pzv (i := 15) (N := 21) (v := ?_) (a' := ?_) y16_7 HT_ ?_ ?_ ?_
 rotate_left
 ·intro w'
  go_simp; with_reducible rfl
 rotate_left
 ·exact x16_put
 refine pzv (i := 17) (N := 23) (v := ?_) (a' := ?_) y16_8 HT_ ?_ ?_ ?_
 rotate_left
 ·intro w'
  go_simp; with_reducible rfl
 rotate_left
 ·exact x16_put
 refine take_ (i := 1) (N := some 7) (v := ?_) (a' := ?_) y16_9 rfl rfl (take_ofW HT_.out HW_.out (by kernel_rfl)) (fun _ _ _ h => h) (Or.inl ⟨by rfl, ?_⟩) hHeld ?_ ?_
 rotate_left
 ·rintro w' ⟨s0, s1, s2, s3, s4, s5, s6, s7⟩
  go_simp; with_reducible rfl
 rotate_left
 ·exact x16_put
 refine take_ (i := 3) (N := some 9) (v := ?_) (a' := ?_) y16_10 rfl rfl (take_ofW HT_.out HW_.out (by kernel_rfl)) (fun _ _ _ h => h) (Or.inl ⟨by rfl, ?_⟩) hHeld ?_ ?_
 rotate_left
 ·rintro w' ⟨s0, s1, s2, s3, s4, s5, s6, s7⟩
  go_simp; with_reducible rfl
 rotate_left
 ·exact x16_put
 refine take_ (i := 6) (N := some 12) (v := ?_) (a' := ?_) y16_11 rfl rfl (take_ofW HT_.out HW_.out (by kernel_rfl)) (fun _ _ _ h => h) (Or.inl ⟨by rfl, ?_⟩) hHeld ?_ ?_
 rotate_left
 ·rintro w' ⟨s0, s1, s2, s3, s4, s5, s6, s7⟩
  go_simp; with_reducible rfl
 rotate_left
 ·exact x16_put
 refine take_ (i := 8) (N := some 14) (v := ?_) (a' := ?_) y16_12 rfl rfl (take_ofW HT_.out HW_.out (by kernel_rfl)) (fun _ _ _ h => h) (Or.inl ⟨by rfl, ?_⟩) hHeld ?_ ?_
 rotate_left
 ·rintro w' ⟨s0, s1, s2, s3, s4, s5, s6, s7⟩
  go_simp; with_reducible rfl
 rotate_left
 ·exact x16_put
 refine take_ (i := 11) (N := some 17) (v := ?_) (a' := ?_) y16_13 rfl rfl (take_ofW HT_.out HW_.out (by kernel_rfl)) (fun _ _ _ h => h) (Or.inl ⟨by rfl, ?_⟩) hHeld ?_ ?_
 rotate_left
 ·rintro w' ⟨s0, s1, s2, s3, s4, s5, s6, s7⟩
  go_simp; with_reducible rfl
 rotate_left
 ·exact x16_put
 refine take_ (i := 13) (N := some 19) (v := ?_) (a' := ?_) y16_14 rfl rfl (take_ofW HT_.out HW_.out (by kernel_rfl)) (fun _ _ _ h => h) (Or.inl ⟨by rfl, ?_⟩) hHeld ?_ ?_
 rotate_left
 ·rintro w' ⟨s0, s1, s2, s3, s4, s5, s6, s7⟩
  go_simp; with_reducible rfl
 rotate_left
 ·exact x16_put
 refine take_ (i := 16) (N := some 22) (v := ?_) (a' := ?_) y16_15 rfl rfl (take_ofW HT_.out HW_.out (by kernel_rfl)) (fun _ _ _ h => h) (Or.inl ⟨by rfl, ?_⟩) hHeld ?_ ?_
 rotate_left
 ·rintro w' ⟨s0, s1, s2, s3, s4, s5, s6, s7⟩
  go_simp; with_reducible rfl
 rotate_left
 ·exact x16_put
 refine take_ (i := 18) (N := some 24) (v := ?_) (a' := ?_) y16_16 rfl rfl (take_ofW HT_.out HW_.out (by kernel_rfl)) (fun _ _ _ h => h) (Or.inl ⟨by rfl, ?_⟩) hHeld ?_ ?_
 rotate_left
 ·rintro w' ⟨s0, s1, s2, s3, s4, s5, s6, s7⟩
  go_simp; with_reducible rfl
 rotate_left
 ·exact x16_put
 refine join_ (σ := Nat) 1 y16_27 (fun s_ => [(10, .int .i64 t458), (15, .int .i64 t459), (20, .int .i64 t460), (25, .int .i64 t461), (5, .pointer (some ⟨s_, 0, none⟩)), (26, .agg #[.int .i64 t458, .int .i64 t459, .int .i64 t460, .int .i64 t461])]) (fun s_ w' => (w'.cell? ⟨gb455, 0, none⟩ = some (.int .i64 a0_0) ∧ w'.cell? ⟨gb455, 1, none⟩ = some (.int .i64 a0_1) ∧ w'.cell? ⟨gb455, 2, none⟩ = some (.int .i64 a0_2) ∧ w'.cell? ⟨gb455, 3, none⟩ = some (.int .i64 a0_3) ∧ w'.cell? ⟨gb456, 0, none⟩ = some (.int .i64 a1_0) ∧ w'.cell? ⟨gb456, 1, none⟩ = some (.int .i64 a1_1) ∧ w'.cell? ⟨gb456, 2, none⟩ = some (.int .i64 a1_2) ∧ w'.cell? ⟨gb456, 3, none⟩ = some (.int .i64 a1_3)) ∧ (w'.heap[gb455]? = some (.cells #[.int .i64 a0_0, .int .i64 a0_1, .int .i64 a0_2, .int .i64 a0_3] 63 (0, 0))) ∧ (w'.heap[gb456]? = some (.cells #[.int .i64 a1_0, .int .i64 a1_1, .int .i64 a1_2, .int .i64 a1_3] 63 (0, 0))) ∧ (w'.heap[gb457]? = some (.cells #[.int .i64 0, .int .i64 0, .int .i64 0, .int .i64 0] 63 (0, 0))) ∧ (w'.heap[s_]? = some (.cells #[.int .i64 0, .int .i64 0, .int .i64 0, .int .i64 0] 63 (0, 0))) ∧ (w.heap.size ≤ s_) ∧ (w.heap.size ≤ s_) ∧ (gb455 ≠ s_) ∧ (s_ ≠ gb455) ∧ (gb456 ≠ s_) ∧ (s_ ≠ gb456) ∧ (gb457 ≠ s_) ∧ (s_ ≠ gb457) ∧ (Below w.heap.size w w')) ?_ ?_
 rotate_left
 ·intro hJ4_9_14_19_21
  refine join_ (σ := Unit) 2 y16_26 (fun s_ => [(10, .int .i64 t458), (15, .int .i64 t459), (20, .int .i64 t460), (25, .int .i64 t461), (26, .agg #[.int .i64 t458, .int .i64 t459, .int .i64 t460, .int .i64 t461])]) (fun s_ w' => (w'.cell? ⟨gb455, 0, none⟩ = some (.int .i64 a0_0) ∧ w'.cell? ⟨gb455, 1, none⟩ = some (.int .i64 a0_1) ∧ w'.cell? ⟨gb455, 2, none⟩ = some (.int .i64 a0_2) ∧ w'.cell? ⟨gb455, 3, none⟩ = some (.int .i64 a0_3) ∧ w'.cell? ⟨gb456, 0, none⟩ = some (.int .i64 a1_0) ∧ w'.cell? ⟨gb456, 1, none⟩ = some (.int .i64 a1_1) ∧ w'.cell? ⟨gb456, 2, none⟩ = some (.int .i64 a1_2) ∧ w'.cell? ⟨gb456, 3, none⟩ = some (.int .i64 a1_3)) ∧ (w'.heap[gb455]? = some (.cells #[.int .i64 a0_0, .int .i64 a0_1, .int .i64 a0_2, .int .i64 a0_3] 63 (0, 0))) ∧ (w'.heap[gb456]? = some (.cells #[.int .i64 a1_0, .int .i64 a1_1, .int .i64 a1_2, .int .i64 a1_3] 63 (0, 0))) ∧ (w'.heap[gb457]? = some (.cells #[.int .i64 0, .int .i64 0, .int .i64 0, .int .i64 0] 63 (0, 0))) ∧ (Below w.heap.size w w')) ?_ ?_
  rotate_left
  rotate_left
  ·skip
   rintro _ w31 ⟨hS_, h0_, h1_, h2_, h3_⟩
   have n0_ : Aside0 (w31.heap[gb455]? = some (.cells #[.int .i64 a0_0, .int .i64 a0_1, .int .i64 a0_2, .int .i64 a0_3] 63 (0, 0))) := ⟨h0_⟩
   have n1_ : Aside0 (w31.heap[gb456]? = some (.cells #[.int .i64 a1_0, .int .i64 a1_1, .int .i64 a1_2, .int .i64 a1_3] 63 (0, 0))) := ⟨h1_⟩
   have n2_ : Aside0 (w31.heap[gb457]? = some (.cells #[.int .i64 0, .int .i64 0, .int .i64 0, .int .i64 0] 63 (0, 0))) := ⟨h2_⟩
   have n3_ : Aside0 (Below w.heap.size w w31) := ⟨h3_⟩
   clear BK455 BK456 BK457 HB h0_ h1_ h2_ h3_; have BK455 := n0_; have BK456 := n1_; have BK457 := n2_; have HB := n3_; clear n0_ n1_ n2_ n3_
   have hHeld : w31.cell? ⟨gb455, 0, none⟩ = some (.int .i64 a0_0) ∧ w31.cell? ⟨gb455, 1, none⟩ = some (.int .i64 a0_1) ∧ w31.cell? ⟨gb455, 2, none⟩ = some (.int .i64 a0_2) ∧ w31.cell? ⟨gb455, 3, none⟩ = some (.int .i64 a0_3) ∧ w31.cell? ⟨gb456, 0, none⟩ = some (.int .i64 a1_0) ∧ w31.cell? ⟨gb456, 1, none⟩ = some (.int .i64 a1_1) ∧ w31.cell? ⟨gb456, 2, none⟩ = some (.int .i64 a1_2) ∧ w31.cell? ⟨gb456, 3, none⟩ = some (.int .i64 a1_3) := hS_
   refine norm_ (a' := ?_) ?_ ?_
   rotate_left
   ·simp only [putAll, Act.put, List.setIfInBounds_toArray, List.set_cons_zero, List.set_cons_succ]
    rfl
   refine one_ (i := 21) (N := some 5) y16_27 rfl rfl (one_of HT_.out (by kernel_rfl)) (by decide) (fun K hK => ?_)
   refine box_step ?hg (N := 5) ?hd (cs := #[.int .i64 0, .int .i64 0, .int .i64 0, .int .i64 0]) (t := 63) ?hr ?_; (case hd => rfl); (case hg => rfl); (case hr => first | (go_simp; done) | (go_simp; rfl))
   intro gb462 hg w32 hbox hb
   have n0_ := mk0 (blk_belowB BK455 (pkb BK455) hb)
   have n1_ := mk0 (blk_belowB BK456 (pkb BK456) hb)
   have n2_ := mk0 (blk_belowB BK457 (pkb BK457) hb)
   have n3_ := mk0 (below_step z16_30 hb)
   have n4_ := mk0 (hbox)
   have n5_ := mk0 (ge_go (a := w.heap.size) hg (below_size z16_30))
   have n6_ := mk0 (ge_go (a := w.heap.size) hg (below_size z16_30))
   have n7_ := mk0 (nb_lt hg (blk_ltB BK455 (pkb BK455)))
   have n8_ := mk0 (nb_gt hg (blk_ltB BK455 (pkb BK455)))
   have n9_ := mk0 (nb_lt hg (blk_ltB BK456 (pkb BK456)))
   have n10_ := mk0 (nb_gt hg (blk_ltB BK456 (pkb BK456)))
   have n11_ := mk0 (nb_lt hg (blk_ltB BK457 (pkb BK457)))
   have n12_ := mk0 (nb_gt hg (blk_ltB BK457 (pkb BK457)))
   clear BK455 BK456 BK457 HB; have BK455 := n0_; have BK456 := n1_; have BK457 := n2_; have HB := n3_; have BK462 := n4_; have GW462 := n5_; have GE462 := n6_; have NB455_462 := n7_; have NB462_455 := n8_; have NB456_462 := n9_; have NB462_456 := n10_; have NB457_462 := n11_; have NB462_457 := n12_; clear n0_ n1_ n2_ n3_ n4_ n5_ n6_ n7_ n8_ n9_ n10_ n11_ n12_ hb hbox hg
   refine hK.out _ _ ⟨(blk_cell BK455.out 0).trans rfl, (blk_cell BK455.out 1).trans rfl, (blk_cell BK455.out 2).trans rfl, (blk_cell BK455.out 3).trans rfl, (blk_cell BK456.out 0).trans rfl, (blk_cell BK456.out 1).trans rfl, (blk_cell BK456.out 2).trans rfl, (blk_cell BK456.out 3).trans rfl⟩ (fun hHeld => ?_)
   clear hK K
   refine norm_ (a' := ?_) ?_ ?_
   rotate_left
   ·show Act.put _ (some 5) _ = _
    simp only [Act.put, List.setIfInBounds_toArray, List.set_cons_zero, List.set_cons_succ, i64_w, i32_w]
    rfl
   exact norm_ z16_32 (hJ4_9_14_19_21 (gb462) _ ⟨hHeld, (pkb BK455), (pkb BK456), (pkb BK457), (pkb BK462), GW462.out, GE462.out, NB455_462.out, NB462_455.out, NB456_462.out, NB462_456.out, NB457_462.out, NB462_457.out, z16_31⟩)
  intro hJ4_9_14_19
  refine join_ (σ := Nat) 3 y16_23 (fun s_ => [(10, .int .i64 t458), (15, .int .i64 t459), (20, .int .i64 t460), (5, .pointer (some ⟨s_, 0, none⟩))]) (fun s_ w' => (w'.cell? ⟨gb455, 0, none⟩ = some (.int .i64 a0_0) ∧ w'.cell? ⟨gb455, 1, none⟩ = some (.int .i64 a0_1) ∧ w'.cell? ⟨gb455, 2, none⟩ = some (.int .i64 a0_2) ∧ w'.cell? ⟨gb455, 3, none⟩ = some (.int .i64 a0_3) ∧ w'.cell? ⟨gb456, 0, none⟩ = some (.int .i64 a1_0) ∧ w'.cell? ⟨gb456, 1, none⟩ = some (.int .i64 a1_1) ∧ w'.cell? ⟨gb456, 2, none⟩ = some (.int .i64 a1_2) ∧ w'.cell? ⟨gb456, 3, none⟩ = some (.int .i64 a1_3)) ∧ (w'.heap[gb455]? = some (.cells #[.int .i64 a0_0, .int .i64 a0_1, .int .i64 a0_2, .int .i64 a0_3] 63 (0, 0))) ∧ (w'.heap[gb456]? = some (.cells #[.int .i64 a1_0, .int .i64 a1_1, .int .i64 a1_2, .int .i64 a1_3] 63 (0, 0))) ∧ (w'.heap[gb457]? = some (.cells #[.int .i64 0, .int .i64 0, .int .i64 0, .int .i64 0] 63 (0, 0))) ∧ (w'.heap[s_]? = some (.cells #[.int .i64 0, .int .i64 0, .int .i64 0, .int .i64 0] 63 (0, 0))) ∧ (w.heap.size ≤ s_) ∧ (w.heap.size ≤ s_) ∧ (gb455 ≠ s_) ∧ (s_ ≠ gb455) ∧ (gb456 ≠ s_) ∧ (s_ ≠ gb456) ∧ (gb457 ≠ s_) ∧ (s_ ≠ gb457) ∧ (Below w.heap.size w w')) ?_ ?_
  rotate_left
  rotate_left
  ·skip
   rintro gb462 w32 ⟨hS_, h0_, h1_, h2_, h3_, h4_, h5_, h6_, h7_, h8_, h9_, h10_, h11_, h12_⟩
   have n0_ : Aside0 (w32.heap[gb455]? = some (.cells #[.int .i64 a0_0, .int .i64 a0_1, .int .i64 a0_2, .int .i64 a0_3] 63 (0, 0))) := ⟨h0_⟩
   have n1_ : Aside0 (w32.heap[gb456]? = some (.cells #[.int .i64 a1_0, .int .i64 a1_1, .int .i64 a1_2, .int .i64 a1_3] 63 (0, 0))) := ⟨h1_⟩
   have n2_ : Aside0 (w32.heap[gb457]? = some (.cells #[.int .i64 0, .int .i64 0, .int .i64 0, .int .i64 0] 63 (0, 0))) := ⟨h2_⟩
   have n3_ : Aside0 (w32.heap[gb462]? = some (.cells #[.int .i64 0, .int .i64 0, .int .i64 0, .int .i64 0] 63 (0, 0))) := ⟨h3_⟩
   have n4_ : Aside0 (w.heap.size ≤ gb462) := ⟨h4_⟩
   have n5_ : Aside0 (w.heap.size ≤ gb462) := ⟨h5_⟩
   have n6_ : Aside0 (gb455 ≠ gb462) := ⟨h6_⟩
   have n7_ : Aside0 (gb462 ≠ gb455) := ⟨h7_⟩
   have n8_ : Aside0 (gb456 ≠ gb462) := ⟨h8_⟩
   have n9_ : Aside0 (gb462 ≠ gb456) := ⟨h9_⟩
   have n10_ : Aside0 (gb457 ≠ gb462) := ⟨h10_⟩
   have n11_ : Aside0 (gb462 ≠ gb457) := ⟨h11_⟩
   have n12_ : Aside0 (Below w.heap.size w w32) := ⟨h12_⟩
   clear BK455 BK456 BK457 HB h0_ h1_ h2_ h3_ h4_ h5_ h6_ h7_ h8_ h9_ h10_ h11_ h12_; have BK455 := n0_; have BK456 := n1_; have BK457 := n2_; have BK462 := n3_; have GW462 := n4_; have GE462 := n5_; have NB455_462 := n6_; have NB462_455 := n7_; have NB456_462 := n8_; have NB462_456 := n9_; have NB457_462 := n10_; have NB462_457 := n11_; have HB := n12_; clear n0_ n1_ n2_ n3_ n4_ n5_ n6_ n7_ n8_ n9_ n10_ n11_ n12_
   have hHeld : w32.cell? ⟨gb455, 0, none⟩ = some (.int .i64 a0_0) ∧ w32.cell? ⟨gb455, 1, none⟩ = some (.int .i64 a0_1) ∧ w32.cell? ⟨gb455, 2, none⟩ = some (.int .i64 a0_2) ∧ w32.cell? ⟨gb455, 3, none⟩ = some (.int .i64 a0_3) ∧ w32.cell? ⟨gb456, 0, none⟩ = some (.int .i64 a1_0) ∧ w32.cell? ⟨gb456, 1, none⟩ = some (.int .i64 a1_1) ∧ w32.cell? ⟨gb456, 2, none⟩ = some (.int .i64 a1_2) ∧ w32.cell? ⟨gb456, 3, none⟩ = some (.int .i64 a1_3) := hS_
   refine norm_ (a' := ?_) ?_ ?_
   rotate_left
   ·simp only [putAll, Act.put, List.setIfInBounds_toArray, List.set_cons_zero, List.set_cons_succ]
    rfl
   refine one_ (i := 19) (N := some 25) y16_25 rfl rfl (one_of HT_.out (by kernel_rfl)) (by decide) (fun K hK => ?_)
   refine goes_ Try.func133 (by kernel_rfl) rfl #[.int .i64 a0_3, .int .i64 a1_3] (by rfl) rfl rfl z16_33 ?_
   with_reducible refine (spec_l05Least.calls a0_3 a1_3 t461 _ A6.out).mono ?_
   rintro e w' ⟨rfl, ⟨nd, rfl⟩⟩
   refine ⟨_, rfl, ?_⟩
   refine hK.out _ _ ⟨(blk_cell BK455.out 0).trans rfl, (blk_cell BK455.out 1).trans rfl, (blk_cell BK455.out 2).trans rfl, (blk_cell BK455.out 3).trans rfl, (blk_cell BK456.out 0).trans rfl, (blk_cell BK456.out 1).trans rfl, (blk_cell BK456.out 2).trans rfl, (blk_cell BK456.out 3).trans rfl⟩ (fun hHeld => ?_)
   clear hK K
   refine norm_ (a' := ?_) ?_ ?_
   rotate_left
   ·show Act.put _ (some 25) _ = _
    simp only [Act.put, List.setIfInBounds_toArray, List.set_cons_zero, List.set_cons_succ, i64_w, i32_w]
    rfl
   refine pzv (i := 20) (N := 26) (v := ?_) (a' := ?_) y16_27 HT_ ?_ ?_ ?_
   rotate_left
   ·intro w'
    go_simp; with_reducible rfl
   rotate_left
   ·exact x16_put
   exact norm_ z16_32 (hJ4_9_14_19_21 (gb462) _ ⟨hHeld, (pkb BK455), (pkb BK456), (pkb BK457), (pkb BK462), GW462.out, GE462.out, NB455_462.out, NB462_455.out, NB456_462.out, NB462_456.out, NB457_462.out, NB462_457.out, z16_31⟩)
  intro hJ4_9_14_21
  refine join_ (σ := Unit) 4 y16_22 (fun s_ => [(10, .int .i64 t458), (15, .int .i64 t459), (20, .int .i64 t460)]) (fun s_ w' => (w'.cell? ⟨gb455, 0, none⟩ = some (.int .i64 a0_0) ∧ w'.cell? ⟨gb455, 1, none⟩ = some (.int .i64 a0_1) ∧ w'.cell? ⟨gb455, 2, none⟩ = some (.int .i64 a0_2) ∧ w'.cell? ⟨gb455, 3, none⟩ = some (.int .i64 a0_3) ∧ w'.cell? ⟨gb456, 0, none⟩ = some (.int .i64 a1_0) ∧ w'.cell? ⟨gb456, 1, none⟩ = some (.int .i64 a1_1) ∧ w'.cell? ⟨gb456, 2, none⟩ = some (.int .i64 a1_2) ∧ w'.cell? ⟨gb456, 3, none⟩ = some (.int .i64 a1_3)) ∧ (w'.heap[gb455]? = some (.cells #[.int .i64 a0_0, .int .i64 a0_1, .int .i64 a0_2, .int .i64 a0_3] 63 (0, 0))) ∧ (w'.heap[gb456]? = some (.cells #[.int .i64 a1_0, .int .i64 a1_1, .int .i64 a1_2, .int .i64 a1_3] 63 (0, 0))) ∧ (w'.heap[gb457]? = some (.cells #[.int .i64 0, .int .i64 0, .int .i64 0, .int .i64 0] 63 (0, 0))) ∧ (Below w.heap.size w w')) ?_ ?_
  rotate_left
  rotate_left
  ·skip
   rintro _ w31 ⟨hS_, h0_, h1_, h2_, h3_⟩
   have n0_ : Aside0 (w31.heap[gb455]? = some (.cells #[.int .i64 a0_0, .int .i64 a0_1, .int .i64 a0_2, .int .i64 a0_3] 63 (0, 0))) := ⟨h0_⟩
   have n1_ : Aside0 (w31.heap[gb456]? = some (.cells #[.int .i64 a1_0, .int .i64 a1_1, .int .i64 a1_2, .int .i64 a1_3] 63 (0, 0))) := ⟨h1_⟩
   have n2_ : Aside0 (w31.heap[gb457]? = some (.cells #[.int .i64 0, .int .i64 0, .int .i64 0, .int .i64 0] 63 (0, 0))) := ⟨h2_⟩
   have n3_ : Aside0 (Below w.heap.size w w31) := ⟨h3_⟩
   clear BK455 BK456 BK457 HB h0_ h1_ h2_ h3_; have BK455 := n0_; have BK456 := n1_; have BK457 := n2_; have HB := n3_; clear n0_ n1_ n2_ n3_
   have hHeld : w31.cell? ⟨gb455, 0, none⟩ = some (.int .i64 a0_0) ∧ w31.cell? ⟨gb455, 1, none⟩ = some (.int .i64 a0_1) ∧ w31.cell? ⟨gb455, 2, none⟩ = some (.int .i64 a0_2) ∧ w31.cell? ⟨gb455, 3, none⟩ = some (.int .i64 a0_3) ∧ w31.cell? ⟨gb456, 0, none⟩ = some (.int .i64 a1_0) ∧ w31.cell? ⟨gb456, 1, none⟩ = some (.int .i64 a1_1) ∧ w31.cell? ⟨gb456, 2, none⟩ = some (.int .i64 a1_2) ∧ w31.cell? ⟨gb456, 3, none⟩ = some (.int .i64 a1_3) := hS_
   refine norm_ (a' := ?_) ?_ ?_
   rotate_left
   ·simp only [putAll, Act.put, List.setIfInBounds_toArray, List.set_cons_zero, List.set_cons_succ]
    rfl
   refine two_ (i := 19) (j := 21) (Ni := some 25) (Nj := some 5) y16_24 y16_23 rfl rfl rfl rfl (two_of HT_.out (by kernel_rfl)) (by decide) (by decide) (fun K hK => ?_) (fun K hK => ?_)
   ·skip
    refine goes_ Try.func133 (by kernel_rfl) rfl #[.int .i64 a0_3, .int .i64 a1_3] (by rfl) rfl rfl z16_33 ?_
    with_reducible refine (spec_l05Least.calls a0_3 a1_3 t461 _ A6.out).mono ?_
    rintro e w' ⟨rfl, ⟨nd, rfl⟩⟩
    refine ⟨_, rfl, ?_⟩
    refine hK.out _ _ ⟨(blk_cell BK455.out 0).trans rfl, (blk_cell BK455.out 1).trans rfl, (blk_cell BK455.out 2).trans rfl, (blk_cell BK455.out 3).trans rfl, (blk_cell BK456.out 0).trans rfl, (blk_cell BK456.out 1).trans rfl, (blk_cell BK456.out 2).trans rfl, (blk_cell BK456.out 3).trans rfl⟩ (fun hHeld => ?_)
    clear hK K
    refine norm_ (a' := ?_) ?_ ?_
    rotate_left
    ·show Act.put _ (some 25) _ = _
     simp only [Act.put, List.setIfInBounds_toArray, List.set_cons_zero, List.set_cons_succ, i64_w, i32_w]
     rfl
    refine pzv (i := 20) (N := 26) (v := ?_) (a' := ?_) y16_26 HT_ ?_ ?_ ?_
    rotate_left
    ·intro w'
     go_simp; with_reducible rfl
    rotate_left
    ·exact x16_put
    exact norm_ z16_32 (hJ4_9_14_19 () _ ⟨hHeld, (pkb BK455), (pkb BK456), (pkb BK457), z16_30⟩)
   skip
   refine box_step ?hg (N := 5) ?hd (cs := #[.int .i64 0, .int .i64 0, .int .i64 0, .int .i64 0]) (t := 63) ?hr ?_; (case hd => rfl); (case hg => rfl); (case hr => first | (go_simp; done) | (go_simp; rfl))
   intro gb462 hg w32 hbox hb
   have n0_ := mk0 (blk_belowB BK455 (pkb BK455) hb)
   have n1_ := mk0 (blk_belowB BK456 (pkb BK456) hb)
   have n2_ := mk0 (blk_belowB BK457 (pkb BK457) hb)
   have n3_ := mk0 (below_step z16_30 hb)
   have n4_ := mk0 (hbox)
   have n5_ := mk0 (ge_go (a := w.heap.size) hg (below_size z16_30))
   have n6_ := mk0 (ge_go (a := w.heap.size) hg (below_size z16_30))
   have n7_ := mk0 (nb_lt hg (blk_ltB BK455 (pkb BK455)))
   have n8_ := mk0 (nb_gt hg (blk_ltB BK455 (pkb BK455)))
   have n9_ := mk0 (nb_lt hg (blk_ltB BK456 (pkb BK456)))
   have n10_ := mk0 (nb_gt hg (blk_ltB BK456 (pkb BK456)))
   have n11_ := mk0 (nb_lt hg (blk_ltB BK457 (pkb BK457)))
   have n12_ := mk0 (nb_gt hg (blk_ltB BK457 (pkb BK457)))
   clear BK455 BK456 BK457 HB; have BK455 := n0_; have BK456 := n1_; have BK457 := n2_; have HB := n3_; have BK462 := n4_; have GW462 := n5_; have GE462 := n6_; have NB455_462 := n7_; have NB462_455 := n8_; have NB456_462 := n9_; have NB462_456 := n10_; have NB457_462 := n11_; have NB462_457 := n12_; clear n0_ n1_ n2_ n3_ n4_ n5_ n6_ n7_ n8_ n9_ n10_ n11_ n12_ hb hbox hg
   refine hK.out _ _ ⟨(blk_cell BK455.out 0).trans rfl, (blk_cell BK455.out 1).trans rfl, (blk_cell BK455.out 2).trans rfl, (blk_cell BK455.out 3).trans rfl, (blk_cell BK456.out 0).trans rfl, (blk_cell BK456.out 1).trans rfl, (blk_cell BK456.out 2).trans rfl, (blk_cell BK456.out 3).trans rfl⟩ (fun hHeld => ?_)
   clear hK K
   refine norm_ (a' := ?_) ?_ ?_
   rotate_left
   ·show Act.put _ (some 5) _ = _
    simp only [Act.put, List.setIfInBounds_toArray, List.set_cons_zero, List.set_cons_succ, i64_w, i32_w]
    rfl
   exact norm_ z16_32 (hJ4_9_14_21 (gb462) _ ⟨hHeld, (pkb BK455), (pkb BK456), (pkb BK457), (pkb BK462), GW462.out, GE462.out, NB455_462.out, NB462_455.out, NB456_462.out, NB462_456.out, NB457_462.out, NB462_457.out, z16_31⟩)
  intro hJ4_9_14
  refine join_ (σ := Nat) 4 y16_21 (fun s_ => [(10, .int .i64 t458), (15, .int .i64 t459), (5, .pointer (some ⟨s_, 0, none⟩))]) (fun s_ w' => (w'.cell? ⟨gb455, 0, none⟩ = some (.int .i64 a0_0) ∧ w'.cell? ⟨gb455, 1, none⟩ = some (.int .i64 a0_1) ∧ w'.cell? ⟨gb455, 2, none⟩ = some (.int .i64 a0_2) ∧ w'.cell? ⟨gb455, 3, none⟩ = some (.int .i64 a0_3) ∧ w'.cell? ⟨gb456, 0, none⟩ = some (.int .i64 a1_0) ∧ w'.cell? ⟨gb456, 1, none⟩ = some (.int .i64 a1_1) ∧ w'.cell? ⟨gb456, 2, none⟩ = some (.int .i64 a1_2) ∧ w'.cell? ⟨gb456, 3, none⟩ = some (.int .i64 a1_3)) ∧ (w'.heap[gb455]? = some (.cells #[.int .i64 a0_0, .int .i64 a0_1, .int .i64 a0_2, .int .i64 a0_3] 63 (0, 0))) ∧ (w'.heap[gb456]? = some (.cells #[.int .i64 a1_0, .int .i64 a1_1, .int .i64 a1_2, .int .i64 a1_3] 63 (0, 0))) ∧ (w'.heap[gb457]? = some (.cells #[.int .i64 0, .int .i64 0, .int .i64 0, .int .i64 0] 63 (0, 0))) ∧ (w'.heap[s_]? = some (.cells #[.int .i64 0, .int .i64 0, .int .i64 0, .int .i64 0] 63 (0, 0))) ∧ (w.heap.size ≤ s_) ∧ (w.heap.size ≤ s_) ∧ (gb455 ≠ s_) ∧ (s_ ≠ gb455) ∧ (gb456 ≠ s_) ∧ (s_ ≠ gb456) ∧ (gb457 ≠ s_) ∧ (s_ ≠ gb457) ∧ (Below w.heap.size w w')) ?_ ?_
  rotate_left
  rotate_left
  ·skip
   rintro gb462 w32 ⟨hS_, h0_, h1_, h2_, h3_, h4_, h5_, h6_, h7_, h8_, h9_, h10_, h11_, h12_⟩
   have n0_ : Aside0 (w32.heap[gb455]? = some (.cells #[.int .i64 a0_0, .int .i64 a0_1, .int .i64 a0_2, .int .i64 a0_3] 63 (0, 0))) := ⟨h0_⟩
   have n1_ : Aside0 (w32.heap[gb456]? = some (.cells #[.int .i64 a1_0, .int .i64 a1_1, .int .i64 a1_2, .int .i64 a1_3] 63 (0, 0))) := ⟨h1_⟩
   have n2_ : Aside0 (w32.heap[gb457]? = some (.cells #[.int .i64 0, .int .i64 0, .int .i64 0, .int .i64 0] 63 (0, 0))) := ⟨h2_⟩
   have n3_ : Aside0 (w32.heap[gb462]? = some (.cells #[.int .i64 0, .int .i64 0, .int .i64 0, .int .i64 0] 63 (0, 0))) := ⟨h3_⟩
   have n4_ : Aside0 (w.heap.size ≤ gb462) := ⟨h4_⟩
   have n5_ : Aside0 (w.heap.size ≤ gb462) := ⟨h5_⟩
   have n6_ : Aside0 (gb455 ≠ gb462) := ⟨h6_⟩
   have n7_ : Aside0 (gb462 ≠ gb455) := ⟨h7_⟩
   have n8_ : Aside0 (gb456 ≠ gb462) := ⟨h8_⟩
   have n9_ : Aside0 (gb462 ≠ gb456) := ⟨h9_⟩
   have n10_ : Aside0 (gb457 ≠ gb462) := ⟨h10_⟩
   have n11_ : Aside0 (gb462 ≠ gb457) := ⟨h11_⟩
   have n12_ : Aside0 (Below w.heap.size w w32) := ⟨h12_⟩
   clear BK455 BK456 BK457 HB h0_ h1_ h2_ h3_ h4_ h5_ h6_ h7_ h8_ h9_ h10_ h11_ h12_; have BK455 := n0_; have BK456 := n1_; have BK457 := n2_; have BK462 := n3_; have GW462 := n4_; have GE462 := n5_; have NB455_462 := n6_; have NB462_455 := n7_; have NB456_462 := n8_; have NB462_456 := n9_; have NB457_462 := n10_; have NB462_457 := n11_; have HB := n12_; clear n0_ n1_ n2_ n3_ n4_ n5_ n6_ n7_ n8_ n9_ n10_ n11_ n12_
   have hHeld : w32.cell? ⟨gb455, 0, none⟩ = some (.int .i64 a0_0) ∧ w32.cell? ⟨gb455, 1, none⟩ = some (.int .i64 a0_1) ∧ w32.cell? ⟨gb455, 2, none⟩ = some (.int .i64 a0_2) ∧ w32.cell? ⟨gb455, 3, none⟩ = some (.int .i64 a0_3) ∧ w32.cell? ⟨gb456, 0, none⟩ = some (.int .i64 a1_0) ∧ w32.cell? ⟨gb456, 1, none⟩ = some (.int .i64 a1_1) ∧ w32.cell? ⟨gb456, 2, none⟩ = some (.int .i64 a1_2) ∧ w32.cell? ⟨gb456, 3, none⟩ = some (.int .i64 a1_3) := hS_
   refine norm_ (a' := ?_) ?_ ?_
   rotate_left
   ·simp only [putAll, Act.put, List.setIfInBounds_toArray, List.set_cons_zero, List.set_cons_succ]
    rfl
   refine one_ (i := 14) (N := some 20) y16_23 rfl rfl (one_of HT_.out (by kernel_rfl)) (by decide) (fun K hK => ?_)
   refine goes_ Try.func133 (by kernel_rfl) rfl #[.int .i64 a0_2, .int .i64 a1_2] (by rfl) rfl rfl z16_33 ?_
   with_reducible refine (spec_l05Least.calls a0_2 a1_2 t460 _ A5.out).mono ?_
   rintro e w' ⟨rfl, ⟨nd, rfl⟩⟩
   refine ⟨_, rfl, ?_⟩
   refine hK.out _ _ ⟨(blk_cell BK455.out 0).trans rfl, (blk_cell BK455.out 1).trans rfl, (blk_cell BK455.out 2).trans rfl, (blk_cell BK455.out 3).trans rfl, (blk_cell BK456.out 0).trans rfl, (blk_cell BK456.out 1).trans rfl, (blk_cell BK456.out 2).trans rfl, (blk_cell BK456.out 3).trans rfl⟩ (fun hHeld => ?_)
   clear hK K
   refine norm_ (a' := ?_) ?_ ?_
   rotate_left
   ·show Act.put _ (some 20) _ = _
    simp only [Act.put, List.setIfInBounds_toArray, List.set_cons_zero, List.set_cons_succ, i64_w, i32_w]
    rfl
   exact norm_ z16_32 (hJ4_9_14_21 (gb462) _ ⟨hHeld, (pkb BK455), (pkb BK456), (pkb BK457), (pkb BK462), GW462.out, GE462.out, NB455_462.out, NB462_455.out, NB456_462.out, NB462_456.out, NB457_462.out, NB462_457.out, z16_31⟩)
  intro hJ4_9_21
  refine join_ (σ := Unit) 5 y16_20 (fun s_ => [(10, .int .i64 t458), (15, .int .i64 t459)]) (fun s_ w' => (w'.cell? ⟨gb455, 0, none⟩ = some (.int .i64 a0_0) ∧ w'.cell? ⟨gb455, 1, none⟩ = some (.int .i64 a0_1) ∧ w'.cell? ⟨gb455, 2, none⟩ = some (.int .i64 a0_2) ∧ w'.cell? ⟨gb455, 3, none⟩ = some (.int .i64 a0_3) ∧ w'.cell? ⟨gb456, 0, none⟩ = some (.int .i64 a1_0) ∧ w'.cell? ⟨gb456, 1, none⟩ = some (.int .i64 a1_1) ∧ w'.cell? ⟨gb456, 2, none⟩ = some (.int .i64 a1_2) ∧ w'.cell? ⟨gb456, 3, none⟩ = some (.int .i64 a1_3)) ∧ (w'.heap[gb455]? = some (.cells #[.int .i64 a0_0, .int .i64 a0_1, .int .i64 a0_2, .int .i64 a0_3] 63 (0, 0))) ∧ (w'.heap[gb456]? = some (.cells #[.int .i64 a1_0, .int .i64 a1_1, .int .i64 a1_2, .int .i64 a1_3] 63 (0, 0))) ∧ (w'.heap[gb457]? = some (.cells #[.int .i64 0, .int .i64 0, .int .i64 0, .int .i64 0] 63 (0, 0))) ∧ (Below w.heap.size w w')) ?_ ?_
  rotate_left
  rotate_left
  ·skip
   rintro _ w31 ⟨hS_, h0_, h1_, h2_, h3_⟩
   have n0_ : Aside0 (w31.heap[gb455]? = some (.cells #[.int .i64 a0_0, .int .i64 a0_1, .int .i64 a0_2, .int .i64 a0_3] 63 (0, 0))) := ⟨h0_⟩
   have n1_ : Aside0 (w31.heap[gb456]? = some (.cells #[.int .i64 a1_0, .int .i64 a1_1, .int .i64 a1_2, .int .i64 a1_3] 63 (0, 0))) := ⟨h1_⟩
   have n2_ : Aside0 (w31.heap[gb457]? = some (.cells #[.int .i64 0, .int .i64 0, .int .i64 0, .int .i64 0] 63 (0, 0))) := ⟨h2_⟩
   have n3_ : Aside0 (Below w.heap.size w w31) := ⟨h3_⟩
   clear BK455 BK456 BK457 HB h0_ h1_ h2_ h3_; have BK455 := n0_; have BK456 := n1_; have BK457 := n2_; have HB := n3_; clear n0_ n1_ n2_ n3_
   have hHeld : w31.cell? ⟨gb455, 0, none⟩ = some (.int .i64 a0_0) ∧ w31.cell? ⟨gb455, 1, none⟩ = some (.int .i64 a0_1) ∧ w31.cell? ⟨gb455, 2, none⟩ = some (.int .i64 a0_2) ∧ w31.cell? ⟨gb455, 3, none⟩ = some (.int .i64 a0_3) ∧ w31.cell? ⟨gb456, 0, none⟩ = some (.int .i64 a1_0) ∧ w31.cell? ⟨gb456, 1, none⟩ = some (.int .i64 a1_1) ∧ w31.cell? ⟨gb456, 2, none⟩ = some (.int .i64 a1_2) ∧ w31.cell? ⟨gb456, 3, none⟩ = some (.int .i64 a1_3) := hS_
   refine norm_ (a' := ?_) ?_ ?_
   rotate_left
   ·simp only [putAll, Act.put, List.setIfInBounds_toArray, List.set_cons_zero, List.set_cons_succ]
    rfl
   refine two_ (i := 14) (j := 21) (Ni := some 20) (Nj := some 5) y16_22 y16_21 rfl rfl rfl rfl (two_of HT_.out (by kernel_rfl)) (by decide) (by decide) (fun K hK => ?_) (fun K hK => ?_)
   ·skip
    refine goes_ Try.func133 (by kernel_rfl) rfl #[.int .i64 a0_2, .int .i64 a1_2] (by rfl) rfl rfl z16_33 ?_
    with_reducible refine (spec_l05Least.calls a0_2 a1_2 t460 _ A5.out).mono ?_
    rintro e w' ⟨rfl, ⟨nd, rfl⟩⟩
    refine ⟨_, rfl, ?_⟩
    refine hK.out _ _ ⟨(blk_cell BK455.out 0).trans rfl, (blk_cell BK455.out 1).trans rfl, (blk_cell BK455.out 2).trans rfl, (blk_cell BK455.out 3).trans rfl, (blk_cell BK456.out 0).trans rfl, (blk_cell BK456.out 1).trans rfl, (blk_cell BK456.out 2).trans rfl, (blk_cell BK456.out 3).trans rfl⟩ (fun hHeld => ?_)
    clear hK K
    refine norm_ (a' := ?_) ?_ ?_
    rotate_left
    ·show Act.put _ (some 20) _ = _
     simp only [Act.put, List.setIfInBounds_toArray, List.set_cons_zero, List.set_cons_succ, i64_w, i32_w]
     rfl
    exact norm_ z16_32 (hJ4_9_14 () _ ⟨hHeld, (pkb BK455), (pkb BK456), (pkb BK457), z16_30⟩)
   skip
   refine box_step ?hg (N := 5) ?hd (cs := #[.int .i64 0, .int .i64 0, .int .i64 0, .int .i64 0]) (t := 63) ?hr ?_; (case hd => rfl); (case hg => rfl); (case hr => first | (go_simp; done) | (go_simp; rfl))
   intro gb462 hg w32 hbox hb
   have n0_ := mk0 (blk_belowB BK455 (pkb BK455) hb)
   have n1_ := mk0 (blk_belowB BK456 (pkb BK456) hb)
   have n2_ := mk0 (blk_belowB BK457 (pkb BK457) hb)
   have n3_ := mk0 (below_step z16_30 hb)
   have n4_ := mk0 (hbox)
   have n5_ := mk0 (ge_go (a := w.heap.size) hg (below_size z16_30))
   have n6_ := mk0 (ge_go (a := w.heap.size) hg (below_size z16_30))
   have n7_ := mk0 (nb_lt hg (blk_ltB BK455 (pkb BK455)))
   have n8_ := mk0 (nb_gt hg (blk_ltB BK455 (pkb BK455)))
   have n9_ := mk0 (nb_lt hg (blk_ltB BK456 (pkb BK456)))
   have n10_ := mk0 (nb_gt hg (blk_ltB BK456 (pkb BK456)))
   have n11_ := mk0 (nb_lt hg (blk_ltB BK457 (pkb BK457)))
   have n12_ := mk0 (nb_gt hg (blk_ltB BK457 (pkb BK457)))
   clear BK455 BK456 BK457 HB; have BK455 := n0_; have BK456 := n1_; have BK457 := n2_; have HB := n3_; have BK462 := n4_; have GW462 := n5_; have GE462 := n6_; have NB455_462 := n7_; have NB462_455 := n8_; have NB456_462 := n9_; have NB462_456 := n10_; have NB457_462 := n11_; have NB462_457 := n12_; clear n0_ n1_ n2_ n3_ n4_ n5_ n6_ n7_ n8_ n9_ n10_ n11_ n12_ hb hbox hg
   refine hK.out _ _ ⟨(blk_cell BK455.out 0).trans rfl, (blk_cell BK455.out 1).trans rfl, (blk_cell BK455.out 2).trans rfl, (blk_cell BK455.out 3).trans rfl, (blk_cell BK456.out 0).trans rfl, (blk_cell BK456.out 1).trans rfl, (blk_cell BK456.out 2).trans rfl, (blk_cell BK456.out 3).trans rfl⟩ (fun hHeld => ?_)
   clear hK K
   refine norm_ (a' := ?_) ?_ ?_
   rotate_left
   ·show Act.put _ (some 5) _ = _
    simp only [Act.put, List.setIfInBounds_toArray, List.set_cons_zero, List.set_cons_succ, i64_w, i32_w]
    rfl
   exact norm_ z16_32 (hJ4_9_21 (gb462) _ ⟨hHeld, (pkb BK455), (pkb BK456), (pkb BK457), (pkb BK462), GW462.out, GE462.out, NB455_462.out, NB462_455.out, NB456_462.out, NB462_456.out, NB457_462.out, NB462_457.out, z16_31⟩)
  intro hJ4_9
  refine join_ (σ := Nat) 5 y16_19 (fun s_ => [(10, .int .i64 t458), (5, .pointer (some ⟨s_, 0, none⟩))]) (fun s_ w' => (w'.cell? ⟨gb455, 0, none⟩ = some (.int .i64 a0_0) ∧ w'.cell? ⟨gb455, 1, none⟩ = some (.int .i64 a0_1) ∧ w'.cell? ⟨gb455, 2, none⟩ = some (.int .i64 a0_2) ∧ w'.cell? ⟨gb455, 3, none⟩ = some (.int .i64 a0_3) ∧ w'.cell? ⟨gb456, 0, none⟩ = some (.int .i64 a1_0) ∧ w'.cell? ⟨gb456, 1, none⟩ = some (.int .i64 a1_1) ∧ w'.cell? ⟨gb456, 2, none⟩ = some (.int .i64 a1_2) ∧ w'.cell? ⟨gb456, 3, none⟩ = some (.int .i64 a1_3)) ∧ (w'.heap[gb455]? = some (.cells #[.int .i64 a0_0, .int .i64 a0_1, .int .i64 a0_2, .int .i64 a0_3] 63 (0, 0))) ∧ (w'.heap[gb456]? = some (.cells #[.int .i64 a1_0, .int .i64 a1_1, .int .i64 a1_2, .int .i64 a1_3] 63 (0, 0))) ∧ (w'.heap[gb457]? = some (.cells #[.int .i64 0, .int .i64 0, .int .i64 0, .int .i64 0] 63 (0, 0))) ∧ (w'.heap[s_]? = some (.cells #[.int .i64 0, .int .i64 0, .int .i64 0, .int .i64 0] 63 (0, 0))) ∧ (w.heap.size ≤ s_) ∧ (w.heap.size ≤ s_) ∧ (gb455 ≠ s_) ∧ (s_ ≠ gb455) ∧ (gb456 ≠ s_) ∧ (s_ ≠ gb456) ∧ (gb457 ≠ s_) ∧ (s_ ≠ gb457) ∧ (Below w.heap.size w w')) ?_ ?_
  rotate_left
  rotate_left
  ·skip
   rintro gb462 w32 ⟨hS_, h0_, h1_, h2_, h3_, h4_, h5_, h6_, h7_, h8_, h9_, h10_, h11_, h12_⟩
   have n0_ : Aside0 (w32.heap[gb455]? = some (.cells #[.int .i64 a0_0, .int .i64 a0_1, .int .i64 a0_2, .int .i64 a0_3] 63 (0, 0))) := ⟨h0_⟩
   have n1_ : Aside0 (w32.heap[gb456]? = some (.cells #[.int .i64 a1_0, .int .i64 a1_1, .int .i64 a1_2, .int .i64 a1_3] 63 (0, 0))) := ⟨h1_⟩
   have n2_ : Aside0 (w32.heap[gb457]? = some (.cells #[.int .i64 0, .int .i64 0, .int .i64 0, .int .i64 0] 63 (0, 0))) := ⟨h2_⟩
   have n3_ : Aside0 (w32.heap[gb462]? = some (.cells #[.int .i64 0, .int .i64 0, .int .i64 0, .int .i64 0] 63 (0, 0))) := ⟨h3_⟩
   have n4_ : Aside0 (w.heap.size ≤ gb462) := ⟨h4_⟩
   have n5_ : Aside0 (w.heap.size ≤ gb462) := ⟨h5_⟩
   have n6_ : Aside0 (gb455 ≠ gb462) := ⟨h6_⟩
   have n7_ : Aside0 (gb462 ≠ gb455) := ⟨h7_⟩
   have n8_ : Aside0 (gb456 ≠ gb462) := ⟨h8_⟩
   have n9_ : Aside0 (gb462 ≠ gb456) := ⟨h9_⟩
   have n10_ : Aside0 (gb457 ≠ gb462) := ⟨h10_⟩
   have n11_ : Aside0 (gb462 ≠ gb457) := ⟨h11_⟩
   have n12_ : Aside0 (Below w.heap.size w w32) := ⟨h12_⟩
   clear BK455 BK456 BK457 HB h0_ h1_ h2_ h3_ h4_ h5_ h6_ h7_ h8_ h9_ h10_ h11_ h12_; have BK455 := n0_; have BK456 := n1_; have BK457 := n2_; have BK462 := n3_; have GW462 := n4_; have GE462 := n5_; have NB455_462 := n6_; have NB462_455 := n7_; have NB456_462 := n8_; have NB462_456 := n9_; have NB457_462 := n10_; have NB462_457 := n11_; have HB := n12_; clear n0_ n1_ n2_ n3_ n4_ n5_ n6_ n7_ n8_ n9_ n10_ n11_ n12_
   have hHeld : w32.cell? ⟨gb455, 0, none⟩ = some (.int .i64 a0_0) ∧ w32.cell? ⟨gb455, 1, none⟩ = some (.int .i64 a0_1) ∧ w32.cell? ⟨gb455, 2, none⟩ = some (.int .i64 a0_2) ∧ w32.cell? ⟨gb455, 3, none⟩ = some (.int .i64 a0_3) ∧ w32.cell? ⟨gb456, 0, none⟩ = some (.int .i64 a1_0) ∧ w32.cell? ⟨gb456, 1, none⟩ = some (.int .i64 a1_1) ∧ w32.cell? ⟨gb456, 2, none⟩ = some (.int .i64 a1_2) ∧ w32.cell? ⟨gb456, 3, none⟩ = some (.int .i64 a1_3) := hS_
   refine norm_ (a' := ?_) ?_ ?_
   rotate_left
   ·simp only [putAll, Act.put, List.setIfInBounds_toArray, List.set_cons_zero, List.set_cons_succ]
    rfl
   refine one_ (i := 9) (N := some 15) y16_21 rfl rfl (one_of HT_.out (by kernel_rfl)) (by decide) (fun K hK => ?_)
   refine goes_ Try.func132 (by kernel_rfl) rfl #[.int .i64 a0_1, .int .i64 a1_1] (by rfl) rfl rfl z16_33 ?_
   with_reducible refine (spec_l05Most.calls a0_1 a1_1 t459 _ A4.out).mono ?_
   rintro e w' ⟨rfl, ⟨nd, rfl⟩⟩
   refine ⟨_, rfl, ?_⟩
   refine hK.out _ _ ⟨(blk_cell BK455.out 0).trans rfl, (blk_cell BK455.out 1).trans rfl, (blk_cell BK455.out 2).trans rfl, (blk_cell BK455.out 3).trans rfl, (blk_cell BK456.out 0).trans rfl, (blk_cell BK456.out 1).trans rfl, (blk_cell BK456.out 2).trans rfl, (blk_cell BK456.out 3).trans rfl⟩ (fun hHeld => ?_)
   clear hK K
   refine norm_ (a' := ?_) ?_ ?_
   rotate_left
   ·show Act.put _ (some 15) _ = _
    simp only [Act.put, List.setIfInBounds_toArray, List.set_cons_zero, List.set_cons_succ, i64_w, i32_w]
    rfl
   exact norm_ z16_32 (hJ4_9_21 (gb462) _ ⟨hHeld, (pkb BK455), (pkb BK456), (pkb BK457), (pkb BK462), GW462.out, GE462.out, NB455_462.out, NB462_455.out, NB456_462.out, NB462_456.out, NB457_462.out, NB462_457.out, z16_31⟩)
  intro hJ4_21
  refine join_ (σ := Unit) 6 y16_18 (fun s_ => [(10, .int .i64 t458)]) (fun s_ w' => (w'.cell? ⟨gb455, 0, none⟩ = some (.int .i64 a0_0) ∧ w'.cell? ⟨gb455, 1, none⟩ = some (.int .i64 a0_1) ∧ w'.cell? ⟨gb455, 2, none⟩ = some (.int .i64 a0_2) ∧ w'.cell? ⟨gb455, 3, none⟩ = some (.int .i64 a0_3) ∧ w'.cell? ⟨gb456, 0, none⟩ = some (.int .i64 a1_0) ∧ w'.cell? ⟨gb456, 1, none⟩ = some (.int .i64 a1_1) ∧ w'.cell? ⟨gb456, 2, none⟩ = some (.int .i64 a1_2) ∧ w'.cell? ⟨gb456, 3, none⟩ = some (.int .i64 a1_3)) ∧ (w'.heap[gb455]? = some (.cells #[.int .i64 a0_0, .int .i64 a0_1, .int .i64 a0_2, .int .i64 a0_3] 63 (0, 0))) ∧ (w'.heap[gb456]? = some (.cells #[.int .i64 a1_0, .int .i64 a1_1, .int .i64 a1_2, .int .i64 a1_3] 63 (0, 0))) ∧ (w'.heap[gb457]? = some (.cells #[.int .i64 0, .int .i64 0, .int .i64 0, .int .i64 0] 63 (0, 0))) ∧ (Below w.heap.size w w')) ?_ ?_
  rotate_left
  rotate_left
  ·skip
   rintro _ w31 ⟨hS_, h0_, h1_, h2_, h3_⟩
   have n0_ : Aside0 (w31.heap[gb455]? = some (.cells #[.int .i64 a0_0, .int .i64 a0_1, .int .i64 a0_2, .int .i64 a0_3] 63 (0, 0))) := ⟨h0_⟩
   have n1_ : Aside0 (w31.heap[gb456]? = some (.cells #[.int .i64 a1_0, .int .i64 a1_1, .int .i64 a1_2, .int .i64 a1_3] 63 (0, 0))) := ⟨h1_⟩
   have n2_ : Aside0 (w31.heap[gb457]? = some (.cells #[.int .i64 0, .int .i64 0, .int .i64 0, .int .i64 0] 63 (0, 0))) := ⟨h2_⟩
   have n3_ : Aside0 (Below w.heap.size w w31) := ⟨h3_⟩
   clear BK455 BK456 BK457 HB h0_ h1_ h2_ h3_; have BK455 := n0_; have BK456 := n1_; have BK457 := n2_; have HB := n3_; clear n0_ n1_ n2_ n3_
   have hHeld : w31.cell? ⟨gb455, 0, none⟩ = some (.int .i64 a0_0) ∧ w31.cell? ⟨gb455, 1, none⟩ = some (.int .i64 a0_1) ∧ w31.cell? ⟨gb455, 2, none⟩ = some (.int .i64 a0_2) ∧ w31.cell? ⟨gb455, 3, none⟩ = some (.int .i64 a0_3) ∧ w31.cell? ⟨gb456, 0, none⟩ = some (.int .i64 a1_0) ∧ w31.cell? ⟨gb456, 1, none⟩ = some (.int .i64 a1_1) ∧ w31.cell? ⟨gb456, 2, none⟩ = some (.int .i64 a1_2) ∧ w31.cell? ⟨gb456, 3, none⟩ = some (.int .i64 a1_3) := hS_
   refine norm_ (a' := ?_) ?_ ?_
   rotate_left
   ·simp only [putAll, Act.put, List.setIfInBounds_toArray, List.set_cons_zero, List.set_cons_succ]
    rfl
   refine two_ (i := 9) (j := 21) (Ni := some 15) (Nj := some 5) y16_20 y16_19 rfl rfl rfl rfl (two_of HT_.out (by kernel_rfl)) (by decide) (by decide) (fun K hK => ?_) (fun K hK => ?_)
   ·skip
    refine goes_ Try.func132 (by kernel_rfl) rfl #[.int .i64 a0_1, .int .i64 a1_1] (by rfl) rfl rfl z16_33 ?_
    with_reducible refine (spec_l05Most.calls a0_1 a1_1 t459 _ A4.out).mono ?_
    rintro e w' ⟨rfl, ⟨nd, rfl⟩⟩
    refine ⟨_, rfl, ?_⟩
    refine hK.out _ _ ⟨(blk_cell BK455.out 0).trans rfl, (blk_cell BK455.out 1).trans rfl, (blk_cell BK455.out 2).trans rfl, (blk_cell BK455.out 3).trans rfl, (blk_cell BK456.out 0).trans rfl, (blk_cell BK456.out 1).trans rfl, (blk_cell BK456.out 2).trans rfl, (blk_cell BK456.out 3).trans rfl⟩ (fun hHeld => ?_)
    clear hK K
    refine norm_ (a' := ?_) ?_ ?_
    rotate_left
    ·show Act.put _ (some 15) _ = _
     simp only [Act.put, List.setIfInBounds_toArray, List.set_cons_zero, List.set_cons_succ, i64_w, i32_w]
     rfl
    exact norm_ z16_32 (hJ4_9 () _ ⟨hHeld, (pkb BK455), (pkb BK456), (pkb BK457), z16_30⟩)
   skip
   refine box_step ?hg (N := 5) ?hd (cs := #[.int .i64 0, .int .i64 0, .int .i64 0, .int .i64 0]) (t := 63) ?hr ?_; (case hd => rfl); (case hg => rfl); (case hr => first | (go_simp; done) | (go_simp; rfl))
   intro gb462 hg w32 hbox hb
   have n0_ := mk0 (blk_belowB BK455 (pkb BK455) hb)
   have n1_ := mk0 (blk_belowB BK456 (pkb BK456) hb)
   have n2_ := mk0 (blk_belowB BK457 (pkb BK457) hb)
   have n3_ := mk0 (below_step z16_30 hb)
   have n4_ := mk0 (hbox)
   have n5_ := mk0 (ge_go (a := w.heap.size) hg (below_size z16_30))
   have n6_ := mk0 (ge_go (a := w.heap.size) hg (below_size z16_30))
   have n7_ := mk0 (nb_lt hg (blk_ltB BK455 (pkb BK455)))
   have n8_ := mk0 (nb_gt hg (blk_ltB BK455 (pkb BK455)))
   have n9_ := mk0 (nb_lt hg (blk_ltB BK456 (pkb BK456)))
   have n10_ := mk0 (nb_gt hg (blk_ltB BK456 (pkb BK456)))
   have n11_ := mk0 (nb_lt hg (blk_ltB BK457 (pkb BK457)))
   have n12_ := mk0 (nb_gt hg (blk_ltB BK457 (pkb BK457)))
   clear BK455 BK456 BK457 HB; have BK455 := n0_; have BK456 := n1_; have BK457 := n2_; have HB := n3_; have BK462 := n4_; have GW462 := n5_; have GE462 := n6_; have NB455_462 := n7_; have NB462_455 := n8_; have NB456_462 := n9_; have NB462_456 := n10_; have NB457_462 := n11_; have NB462_457 := n12_; clear n0_ n1_ n2_ n3_ n4_ n5_ n6_ n7_ n8_ n9_ n10_ n11_ n12_ hb hbox hg
   refine hK.out _ _ ⟨(blk_cell BK455.out 0).trans rfl, (blk_cell BK455.out 1).trans rfl, (blk_cell BK455.out 2).trans rfl, (blk_cell BK455.out 3).trans rfl, (blk_cell BK456.out 0).trans rfl, (blk_cell BK456.out 1).trans rfl, (blk_cell BK456.out 2).trans rfl, (blk_cell BK456.out 3).trans rfl⟩ (fun hHeld => ?_)
   clear hK K
   refine norm_ (a' := ?_) ?_ ?_
   rotate_left
   ·show Act.put _ (some 5) _ = _
    simp only [Act.put, List.setIfInBounds_toArray, List.set_cons_zero, List.set_cons_succ, i64_w, i32_w]
    rfl
   exact norm_ z16_32 (hJ4_21 (gb462) _ ⟨hHeld, (pkb BK455), (pkb BK456), (pkb BK457), (pkb BK462), GW462.out, GE462.out, NB455_462.out, NB462_455.out, NB456_462.out, NB462_456.out, NB457_462.out, NB462_457.out, z16_31⟩)
  intro hJ4
  refine join_ (σ := Nat) 6 y16_17 (fun s_ => [(5, .pointer (some ⟨s_, 0, none⟩))]) (fun s_ w' => (w'.cell? ⟨gb455, 0, none⟩ = some (.int .i64 a0_0) ∧ w'.cell? ⟨gb455, 1, none⟩ = some (.int .i64 a0_1) ∧ w'.cell? ⟨gb455, 2, none⟩ = some (.int .i64 a0_2) ∧ w'.cell? ⟨gb455, 3, none⟩ = some (.int .i64 a0_3) ∧ w'.cell? ⟨gb456, 0, none⟩ = some (.int .i64 a1_0) ∧ w'.cell? ⟨gb456, 1, none⟩ = some (.int .i64 a1_1) ∧ w'.cell? ⟨gb456, 2, none⟩ = some (.int .i64 a1_2) ∧ w'.cell? ⟨gb456, 3, none⟩ = some (.int .i64 a1_3)) ∧ (w'.heap[gb455]? = some (.cells #[.int .i64 a0_0, .int .i64 a0_1, .int .i64 a0_2, .int .i64 a0_3] 63 (0, 0))) ∧ (w'.heap[gb456]? = some (.cells #[.int .i64 a1_0, .int .i64 a1_1, .int .i64 a1_2, .int .i64 a1_3] 63 (0, 0))) ∧ (w'.heap[gb457]? = some (.cells #[.int .i64 0, .int .i64 0, .int .i64 0, .int .i64 0] 63 (0, 0))) ∧ (w'.heap[s_]? = some (.cells #[.int .i64 0, .int .i64 0, .int .i64 0, .int .i64 0] 63 (0, 0))) ∧ (w.heap.size ≤ s_) ∧ (w.heap.size ≤ s_) ∧ (gb455 ≠ s_) ∧ (s_ ≠ gb455) ∧ (gb456 ≠ s_) ∧ (s_ ≠ gb456) ∧ (gb457 ≠ s_) ∧ (s_ ≠ gb457) ∧ (Below w.heap.size w w')) ?_ ?_
  rotate_left
  ·intro hJ21
   refine two_ (i := 4) (j := 21) (Ni := some 10) (Nj := some 5) y16_18 y16_17 rfl rfl rfl rfl (two_of HT_.out (by kernel_rfl)) (by decide) (by decide) (fun K hK => ?_) (fun K hK => ?_)
   ·skip
    refine goes_ Try.func132 (by kernel_rfl) rfl #[.int .i64 a0_0, .int .i64 a1_0] (by rfl) rfl rfl z16_33 ?_
    with_reducible refine (spec_l05Most.calls a0_0 a1_0 t458 _ A3.out).mono ?_
    rintro e w' ⟨rfl, ⟨nd, rfl⟩⟩
    refine ⟨_, rfl, ?_⟩
    refine hK.out _ _ ⟨(blk_cell BK455.out 0).trans rfl, (blk_cell BK455.out 1).trans rfl, (blk_cell BK455.out 2).trans rfl, (blk_cell BK455.out 3).trans rfl, (blk_cell BK456.out 0).trans rfl, (blk_cell BK456.out 1).trans rfl, (blk_cell BK456.out 2).trans rfl, (blk_cell BK456.out 3).trans rfl⟩ (fun hHeld => ?_)
    clear hK K
    refine norm_ (a' := ?_) ?_ ?_
    rotate_left
    ·show Act.put _ (some 10) _ = _
     simp only [Act.put, List.setIfInBounds_toArray, List.set_cons_zero, List.set_cons_succ, i64_w, i32_w]
     rfl
    exact norm_ z16_32 (hJ4 () _ ⟨hHeld, (pkb BK455), (pkb BK456), (pkb BK457), z16_30⟩)
   skip
   refine box_step ?hg (N := 5) ?hd (cs := #[.int .i64 0, .int .i64 0, .int .i64 0, .int .i64 0]) (t := 63) ?hr ?_; (case hd => rfl); (case hg => rfl); (case hr => first | (go_simp; done) | (go_simp; rfl))
   intro gb462 hg w31 hbox hb
   have n0_ := mk0 (blk_belowB BK455 (pkb BK455) hb)
   have n1_ := mk0 (blk_belowB BK456 (pkb BK456) hb)
   have n2_ := mk0 (blk_belowB BK457 (pkb BK457) hb)
   have n3_ := mk0 (below_step z16_30 hb)
   have n4_ := mk0 (hbox)
   have n5_ := mk0 (ge_go (a := w.heap.size) hg (below_size z16_30))
   have n6_ := mk0 (ge_go (a := w.heap.size) hg (below_size z16_30))
   have n7_ := mk0 (nb_lt hg (blk_ltB BK455 (pkb BK455)))
   have n8_ := mk0 (nb_gt hg (blk_ltB BK455 (pkb BK455)))
   have n9_ := mk0 (nb_lt hg (blk_ltB BK456 (pkb BK456)))
   have n10_ := mk0 (nb_gt hg (blk_ltB BK456 (pkb BK456)))
   have n11_ := mk0 (nb_lt hg (blk_ltB BK457 (pkb BK457)))
   have n12_ := mk0 (nb_gt hg (blk_ltB BK457 (pkb BK457)))
   clear BK455 BK456 BK457 HB; have BK455 := n0_; have BK456 := n1_; have BK457 := n2_; have HB := n3_; have BK462 := n4_; have GW462 := n5_; have GE462 := n6_; have NB455_462 := n7_; have NB462_455 := n8_; have NB456_462 := n9_; have NB462_456 := n10_; have NB457_462 := n11_; have NB462_457 := n12_; clear n0_ n1_ n2_ n3_ n4_ n5_ n6_ n7_ n8_ n9_ n10_ n11_ n12_ hb hbox hg
   refine hK.out _ _ ⟨(blk_cell BK455.out 0).trans rfl, (blk_cell BK455.out 1).trans rfl, (blk_cell BK455.out 2).trans rfl, (blk_cell BK455.out 3).trans rfl, (blk_cell BK456.out 0).trans rfl, (blk_cell BK456.out 1).trans rfl, (blk_cell BK456.out 2).trans rfl, (blk_cell BK456.out 3).trans rfl⟩ (fun hHeld => ?_)
   clear hK K
   refine norm_ (a' := ?_) ?_ ?_
   rotate_left
   ·show Act.put _ (some 5) _ = _
    simp only [Act.put, List.setIfInBounds_toArray, List.set_cons_zero, List.set_cons_succ, i64_w, i32_w]
    rfl
   exact norm_ z16_32 (hJ21 (gb462) _ ⟨hHeld, (pkb BK455), (pkb BK456), (pkb BK457), (pkb BK462), GW462.out, GE462.out, NB455_462.out, NB462_455.out, NB456_462.out, NB462_456.out, NB457_462.out, NB462_457.out, z16_31⟩)
  skip
  rintro gb462 w32 ⟨hS_, h0_, h1_, h2_, h3_, h4_, h5_, h6_, h7_, h8_, h9_, h10_, h11_, h12_⟩
  have n0_ : Aside0 (w32.heap[gb455]? = some (.cells #[.int .i64 a0_0, .int .i64 a0_1, .int .i64 a0_2, .int .i64 a0_3] 63 (0, 0))) := ⟨h0_⟩
  have n1_ : Aside0 (w32.heap[gb456]? = some (.cells #[.int .i64 a1_0, .int .i64 a1_1, .int .i64 a1_2, .int .i64 a1_3] 63 (0, 0))) := ⟨h1_⟩
  have n2_ : Aside0 (w32.heap[gb457]? = some (.cells #[.int .i64 0, .int .i64 0, .int .i64 0, .int .i64 0] 63 (0, 0))) := ⟨h2_⟩
  have n3_ : Aside0 (w32.heap[gb462]? = some (.cells #[.int .i64 0, .int .i64 0, .int .i64 0, .int .i64 0] 63 (0, 0))) := ⟨h3_⟩
  have n4_ : Aside0 (w.heap.size ≤ gb462) := ⟨h4_⟩
  have n5_ : Aside0 (w.heap.size ≤ gb462) := ⟨h5_⟩
  have n6_ : Aside0 (gb455 ≠ gb462) := ⟨h6_⟩
  have n7_ : Aside0 (gb462 ≠ gb455) := ⟨h7_⟩
  have n8_ : Aside0 (gb456 ≠ gb462) := ⟨h8_⟩
  have n9_ : Aside0 (gb462 ≠ gb456) := ⟨h9_⟩
  have n10_ : Aside0 (gb457 ≠ gb462) := ⟨h10_⟩
  have n11_ : Aside0 (gb462 ≠ gb457) := ⟨h11_⟩
  have n12_ : Aside0 (Below w.heap.size w w32) := ⟨h12_⟩
  clear BK455 BK456 BK457 HB h0_ h1_ h2_ h3_ h4_ h5_ h6_ h7_ h8_ h9_ h10_ h11_ h12_; have BK455 := n0_; have BK456 := n1_; have BK457 := n2_; have BK462 := n3_; have GW462 := n4_; have GE462 := n5_; have NB455_462 := n6_; have NB462_455 := n7_; have NB456_462 := n8_; have NB462_456 := n9_; have NB457_462 := n10_; have NB462_457 := n11_; have HB := n12_; clear n0_ n1_ n2_ n3_ n4_ n5_ n6_ n7_ n8_ n9_ n10_ n11_ n12_
  have hHeld : w32.cell? ⟨gb455, 0, none⟩ = some (.int .i64 a0_0) ∧ w32.cell? ⟨gb455, 1, none⟩ = some (.int .i64 a0_1) ∧ w32.cell? ⟨gb455, 2, none⟩ = some (.int .i64 a0_2) ∧ w32.cell? ⟨gb455, 3, none⟩ = some (.int .i64 a0_3) ∧ w32.cell? ⟨gb456, 0, none⟩ = some (.int .i64 a1_0) ∧ w32.cell? ⟨gb456, 1, none⟩ = some (.int .i64 a1_1) ∧ w32.cell? ⟨gb456, 2, none⟩ = some (.int .i64 a1_2) ∧ w32.cell? ⟨gb456, 3, none⟩ = some (.int .i64 a1_3) := hS_
  refine norm_ (a' := ?_) ?_ ?_
  rotate_left
  ·simp only [putAll, Act.put, List.setIfInBounds_toArray, List.set_cons_zero, List.set_cons_succ]
   rfl
  refine one_ (i := 4) (N := some 10) y16_19 rfl rfl (one_of HT_.out (by kernel_rfl)) (by decide) (fun K hK => ?_)
  refine goes_ Try.func132 (by kernel_rfl) rfl #[.int .i64 a0_0, .int .i64 a1_0] (by rfl) rfl rfl z16_33 ?_
  with_reducible refine (spec_l05Most.calls a0_0 a1_0 t458 _ A3.out).mono ?_
  rintro e w' ⟨rfl, ⟨nd, rfl⟩⟩
  refine ⟨_, rfl, ?_⟩
  refine hK.out _ _ ⟨(blk_cell BK455.out 0).trans rfl, (blk_cell BK455.out 1).trans rfl, (blk_cell BK455.out 2).trans rfl, (blk_cell BK455.out 3).trans rfl, (blk_cell BK456.out 0).trans rfl, (blk_cell BK456.out 1).trans rfl, (blk_cell BK456.out 2).trans rfl, (blk_cell BK456.out 3).trans rfl⟩ (fun hHeld => ?_)
  clear hK K
  refine norm_ (a' := ?_) ?_ ?_
  rotate_left
  ·show Act.put _ (some 10) _ = _
   simp only [Act.put, List.setIfInBounds_toArray, List.set_cons_zero, List.set_cons_succ, i64_w, i32_w]
   rfl
  exact norm_ z16_32 (hJ4_21 (gb462) _ ⟨hHeld, (pkb BK455), (pkb BK456), (pkb BK457), (pkb BK462), GW462.out, GE462.out, NB455_462.out, NB462_455.out, NB456_462.out, NB462_456.out, NB457_462.out, NB462_457.out, z16_31⟩)
 rintro gb462 w32 ⟨hS_, h0_, h1_, h2_, h3_, h4_, h5_, h6_, h7_, h8_, h9_, h10_, h11_, h12_⟩
 have n0_ : Aside0 (w32.heap[gb455]? = some (.cells #[.int .i64 a0_0, .int .i64 a0_1, .int .i64 a0_2, .int .i64 a0_3] 63 (0, 0))) := ⟨h0_⟩
 have n1_ : Aside0 (w32.heap[gb456]? = some (.cells #[.int .i64 a1_0, .int .i64 a1_1, .int .i64 a1_2, .int .i64 a1_3] 63 (0, 0))) := ⟨h1_⟩
 have n2_ : Aside0 (w32.heap[gb457]? = some (.cells #[.int .i64 0, .int .i64 0, .int .i64 0, .int .i64 0] 63 (0, 0))) := ⟨h2_⟩
 have n3_ : Aside0 (w32.heap[gb462]? = some (.cells #[.int .i64 0, .int .i64 0, .int .i64 0, .int .i64 0] 63 (0, 0))) := ⟨h3_⟩
 have n4_ : Aside0 (w.heap.size ≤ gb462) := ⟨h4_⟩
 have n5_ : Aside0 (w.heap.size ≤ gb462) := ⟨h5_⟩
 have n6_ : Aside0 (gb455 ≠ gb462) := ⟨h6_⟩
 have n7_ : Aside0 (gb462 ≠ gb455) := ⟨h7_⟩
 have n8_ : Aside0 (gb456 ≠ gb462) := ⟨h8_⟩
 have n9_ : Aside0 (gb462 ≠ gb456) := ⟨h9_⟩
 have n10_ : Aside0 (gb457 ≠ gb462) := ⟨h10_⟩
 have n11_ : Aside0 (gb462 ≠ gb457) := ⟨h11_⟩
 have n12_ : Aside0 (Below w.heap.size w w32) := ⟨h12_⟩
 clear BK455 BK456 BK457 HB h0_ h1_ h2_ h3_ h4_ h5_ h6_ h7_ h8_ h9_ h10_ h11_ h12_; have BK455 := n0_; have BK456 := n1_; have BK457 := n2_; have BK462 := n3_; have GW462 := n4_; have GE462 := n5_; have NB455_462 := n6_; have NB462_455 := n7_; have NB456_462 := n8_; have NB462_456 := n9_; have NB457_462 := n10_; have NB462_457 := n11_; have HB := n12_; clear n0_ n1_ n2_ n3_ n4_ n5_ n6_ n7_ n8_ n9_ n10_ n11_ n12_
 have hHeld : w32.cell? ⟨gb455, 0, none⟩ = some (.int .i64 a0_0) ∧ w32.cell? ⟨gb455, 1, none⟩ = some (.int .i64 a0_1) ∧ w32.cell? ⟨gb455, 2, none⟩ = some (.int .i64 a0_2) ∧ w32.cell? ⟨gb455, 3, none⟩ = some (.int .i64 a0_3) ∧ w32.cell? ⟨gb456, 0, none⟩ = some (.int .i64 a1_0) ∧ w32.cell? ⟨gb456, 1, none⟩ = some (.int .i64 a1_1) ∧ w32.cell? ⟨gb456, 2, none⟩ = some (.int .i64 a1_2) ∧ w32.cell? ⟨gb456, 3, none⟩ = some (.int .i64 a1_3) := hS_
 refine norm_ (a' := ?_) ?_ ?_
 rotate_left
 ·simp only [putAll, Act.put, List.setIfInBounds_toArray, List.set_cons_zero, List.set_cons_succ]
  rfl
 refine one_ (i := 22) (N := none) y16_28 rfl rfl (one_of HT_.out (by kernel_rfl)) (by decide) (fun K hK => ?_)
 have hs33 : w32.cell? ⟨gb462, 0, none⟩ = some (.int .i64 0) := (blk_cell BK462.out 0).trans rfl
 have hfs33 := blk_frozen BK462.out 0
 have hns33_0 := NB455_462.out; have hns33_1 := NB456_462.out; have hns33_2 := NB457_462.out; have hms33_0 := NB462_455.out; have hms33_1 := NB462_456.out; have hms33_2 := NB462_457.out
 have hs34 : w32.cell? ⟨gb462, 1, none⟩ = some (.int .i64 0) := (blk_cell BK462.out 1).trans rfl
 have hfs34 := blk_frozen BK462.out 1
 have hns34_0 := NB455_462.out; have hns34_1 := NB456_462.out; have hns34_2 := NB457_462.out; have hms34_0 := NB462_455.out; have hms34_1 := NB462_456.out; have hms34_2 := NB462_457.out
 have hs35 : w32.cell? ⟨gb462, 2, none⟩ = some (.int .i64 0) := (blk_cell BK462.out 2).trans rfl
 have hfs35 := blk_frozen BK462.out 2
 have hns35_0 := NB455_462.out; have hns35_1 := NB456_462.out; have hns35_2 := NB457_462.out; have hms35_0 := NB462_455.out; have hms35_1 := NB462_456.out; have hms35_2 := NB462_457.out
 have hs36 : w32.cell? ⟨gb462, 3, none⟩ = some (.int .i64 0) := (blk_cell BK462.out 3).trans rfl
 have hfs36 := blk_frozen BK462.out 3
 have hns36_0 := NB455_462.out; have hns36_1 := NB456_462.out; have hns36_2 := NB457_462.out; have hms36_0 := NB462_455.out; have hms36_1 := NB462_456.out; have hms36_2 := NB462_457.out
 refine skip_ (w1 := ?_) (by rfl) rfl ?_ ?_
 rotate_left
 ·go_simp
  rfl
 refine hK.out _ _ ⟨((cell_far (p := ⟨gb462, _, none⟩) NB455_462.out _).trans (((cell_far (p := ⟨gb462, _, none⟩) NB455_462.out _).trans (((cell_far (p := ⟨gb462, _, none⟩) NB455_462.out _).trans (((cell_far (p := ⟨gb462, _, none⟩) NB455_462.out _).trans (hHeld.1)))))))), ((cell_far (p := ⟨gb462, _, none⟩) NB455_462.out _).trans (((cell_far (p := ⟨gb462, _, none⟩) NB455_462.out _).trans (((cell_far (p := ⟨gb462, _, none⟩) NB455_462.out _).trans (((cell_far (p := ⟨gb462, _, none⟩) NB455_462.out _).trans (hHeld.2.1)))))))), ((cell_far (p := ⟨gb462, _, none⟩) NB455_462.out _).trans (((cell_far (p := ⟨gb462, _, none⟩) NB455_462.out _).trans (((cell_far (p := ⟨gb462, _, none⟩) NB455_462.out _).trans (((cell_far (p := ⟨gb462, _, none⟩) NB455_462.out _).trans (hHeld.2.2.1)))))))), ((cell_far (p := ⟨gb462, _, none⟩) NB455_462.out _).trans (((cell_far (p := ⟨gb462, _, none⟩) NB455_462.out _).trans (((cell_far (p := ⟨gb462, _, none⟩) NB455_462.out _).trans (((cell_far (p := ⟨gb462, _, none⟩) NB455_462.out _).trans (hHeld.2.2.2.1)))))))), ((cell_far (p := ⟨gb462, _, none⟩) NB456_462.out _).trans (((cell_far (p := ⟨gb462, _, none⟩) NB456_462.out _).trans (((cell_far (p := ⟨gb462, _, none⟩) NB456_462.out _).trans (((cell_far (p := ⟨gb462, _, none⟩) NB456_462.out _).trans (hHeld.2.2.2.2.1)))))))), ((cell_far (p := ⟨gb462, _, none⟩) NB456_462.out _).trans (((cell_far (p := ⟨gb462, _, none⟩) NB456_462.out _).trans (((cell_far (p := ⟨gb462, _, none⟩) NB456_462.out _).trans (((cell_far (p := ⟨gb462, _, none⟩) NB456_462.out _).trans (hHeld.2.2.2.2.2.1)))))))), ((cell_far (p := ⟨gb462, _, none⟩) NB456_462.out _).trans (((cell_far (p := ⟨gb462, _, none⟩) NB456_462.out _).trans (((cell_far (p := ⟨gb462, _, none⟩) NB456_462.out _).trans (((cell_far (p := ⟨gb462, _, none⟩) NB456_462.out _).trans (hHeld.2.2.2.2.2.2.1)))))))), ((cell_far (p := ⟨gb462, _, none⟩) NB456_462.out _).trans (((cell_far (p := ⟨gb462, _, none⟩) NB456_462.out _).trans (((cell_far (p := ⟨gb462, _, none⟩) NB456_462.out _).trans (((cell_far (p := ⟨gb462, _, none⟩) NB456_462.out _).trans (hHeld.2.2.2.2.2.2.2))))))))⟩ (fun hHeld => ?_)
 clear hK K
 refine done_ (done_of HT_.out (by kernel_rfl)) ?_
 have hnb37 := NB462_455.out; have hnc37 := NB455_462.out; have hnb38 := NB462_456.out; have hnc38 := NB456_462.out; have hnb39 := NB462_457.out; have hnc39 := NB457_462.out
 obtain ⟨_, _, _, _, _, _, _, _⟩ := be_4 BK462.out
 try go_wp2_with (first | ((with_reducible refine gate_callee (f := 134) rfl ?_); refine goesL_ (some 28) rfl rfl Try.func134 (by kernel_rfl) rfl #[.agg #[.int .i64 t458, .int .i64 t459, .int .i64 t460, .int .i64 t461]] rfl z16_33 ?_; (with_reducible refine (spec_Empty.calls t458 t459 t460 t461 false _ A7.out).mono ?_); rintro e w41 ⟨rfl, hb⟩; refine ⟨_, rfl, ?_⟩; have n0_ := mk0 (blk_belowB BK455 z16_37 hb); have n1_ := mk0 (blk_belowB BK456 z16_38 hb); have n2_ := mk0 (blk_belowB BK457 z16_39 hb); have n3_ := mk0 (blk_below (g := gb462) (o := .cells #[.int .i64 t458, .int .i64 t459, .int .i64 t460, .int .i64 t461] 63 (0, 0)) z16_40 hb); have n4_ := mk0 (below_step z16_31 hb); clear BK455 BK456 BK457 BK462 HB; have BK455 := n0_; have BK456 := n1_; have BK457 := n2_; have BK462 := n3_; have HB := n4_; clear n0_ n1_ n2_ n3_ n4_; (try clear hb); obtain ⟨_, _, _, _, _, _, _, _⟩ := be_4 BK462.out; have hnb43 := NB457_455.out; have hnc43 := NB455_457.out; have hnb44 := NB457_456.out; have hnc44 := NB456_457.out; obtain ⟨_, _, _, _, _, _, _, _⟩ := be_4 BK457.out))
 refine bodyPost_ret (results_cell_row rfl _ _ gb457 63 #[.int .i64 t458, .int .i64 t459, .int .i64 t460, .int .i64 t461] (0, 0) _ rfl z16_41 Try.underlying63 rfl (by kernel_rfl)) rfl ?_
 exact ⟨(by first | rfl | (simp [errW_none, errW_some] <;> rfl) | (simp [*, errW_none, errW_some] <;> rfl)), z16_31⟩

end Go.Proofs.Ytghbenapnhcllaa.MFnMeets
