/- Functions of the program as Lean functions, and the proof that a call comes to just these: machine text of this session's own program (myprint.py). -/
import Derived.Test.YtghbenapnhcllaaMFnExactSceneOkx0
import Derived.Test.YtghbenapnhcllaaMFnExactSceneOkx6
namespace Go.Proofs.Ytghbenapnhcllaa.MFnExactSceneOk
open Go.RowKit Go.Proofs.YtghbenapnhcllaaW.PrintWords Go.Proofs.YtghbenapnhcllaaW.PrintLast Go.Proofs.YtghbenapnhcllaaW.PrintMore
attribute [local go_sem] max2_int min2_int max_two min_two max_three min_three max_four min_four   -- for this text's walks alone
set_option linter.unusedVariables false
set_option linter.unusedSimpArgs false

theorem x7_put {P : Prop} (h : P := by simp only [Act.put, List.setIfInBounds_toArray, List.set_cons_zero, List.set_cons_succ, i64_w, i32_w]; rfl) : P := h
theorem z7_1 {P : Prop} (h : P := by repeat (first | (with_reducible first | exact HB.out | apply below_alloc | apply pw_below_drewN | apply below_drew1 | refine below_set ?_ GE261.out | refine below_set ?_ GE262.out) | exact HB.out)) : P := h
theorem z7_2 {P : Prop} (h : P := by (with_reducible repeat (first | refine blk_drewN ?_ _ | refine blk_drew ?_ | refine blk_alloc ?_ _)); exact BK261.out) : P := h
theorem z7_3 {P : Prop} (h : P := by repeat (first | (with_reducible first | exact HB.out | apply below_alloc | apply pw_below_drewN | apply below_drew1) | exact HB.out)) : P := h
theorem z7_4 {P : Prop} (h : P := by (try simp only [List.map_toArray, List.map_cons, List.map_nil]); first | done | rfl | (simp only [List.length_drop, List.length_take]; rfl)) : P := h
theorem z7_5 {P : Prop} (h : P := by repeat (first | (with_reducible first | exact HB.out | apply below_alloc | apply pw_below_drewN | apply below_drew1 | refine below_set ?_ GE261.out) | exact HB.out)) : P := h
theorem z7_6 {P : Prop} (h : P := by (with_reducible repeat (first | refine blk_drewN ?_ _ | refine blk_drew ?_ | refine blk_alloc ?_ _)); exact BK262.out) : P := h
theorem z7_7 {P : Prop} (h : P := by repeat (first | (with_reducible first | exact HB.out | apply below_alloc | apply pw_below_drewN | apply below_drew1 | refine below_set ?_ GE267.out | refine below_set ?_ GE268.out) | exact HB.out)) : P := h
theorem z7_8 {P : Prop} (h : P := by first | rfl | (simp [errW_none, errW_some] <;> rfl) | (simp [*, errW_none, errW_some] <;> rfl)) : P := h
theorem z7_9 {P : Prop} (h : P := by (with_reducible repeat (first | refine blk_drewN ?_ _ | refine blk_drew ?_ | refine blk_alloc ?_ _)); exact BK267.out) : P := h
theorem z7_10 {P : Prop} (h : P := by (with_reducible repeat (first | refine blk_drewN ?_ _ | refine blk_drew ?_ | refine blk_alloc ?_ _)); exact BK268.out) : P := h
theorem z7_11 {P : Prop} (h : P := by (with_reducible repeat (first | refine blk_drewN ?_ _ | refine blk_drew ?_ | refine blk_alloc ?_ _)); exact BK277.out) : P := h
theorem z7_12 {P : Prop} (h : P := by repeat (first | (with_reducible first | exact HB.out | apply below_alloc | apply pw_below_drewN | apply below_drew1 | refine below_set ?_ GE267.out) | exact HB.out)) : P := h
theorem z7_13 {P : Prop} (h : P := by repeat (first | (with_reducible first | exact HB.out | apply below_alloc | apply pw_below_drewN | apply below_drew1 | refine below_set ?_ GE277.out) | exact HB.out)) : P := h
theorem z7_14 {P : Prop} (h : P := by repeat (first | (with_reducible first | exact HB.out | apply below_alloc | apply pw_below_drewN | apply below_drew1 | refine below_set ?_ GE277.out | refine below_set ?_ GE278.out) | exact HB.out)) : P := h
/-! ### laws_eqPaint: function 80 -/
def laws_eqPaint.f (a0_0 : Int) (a0_1 : Int) (a0_2 : Int) (a0_3 : Int) (a0_4 : Int) (a0_5 : Int) (a0_6 : Int) (a0_7 : Int) (a0_8 : Int) (a0_9 : Int) (a0_10 : Int) (a0_11 : Int) (a0_12 : Int) (a1_0 : Int) (a1_1 : Int) (a1_2 : Int) (a1_3 : Int) (a1_4 : Int) (a1_5 : Int) (a1_6 : Int) (a1_7 : Int) (a1_8 : Int) (a1_9 : Int) (a1_10 : Int) (a1_11 : Int) (a1_12 : Int) : Option (Bool) := if a0_0 = a1_0 then ((laws_eqColor.f a0_1 a0_2 a0_3 a0_4 a1_1 a1_2 a1_3 a1_4).bind fun t263 => (if t263 = true then ((laws_eqColor.f a0_5 a0_6 a0_7 a0_8 a1_5 a1_6 a1_7 a1_8).bind fun t264 => (if t264 = true then ((laws_eqPoint.f a0_9 a0_10 a1_9 a1_10).bind fun t265 => (if t265 = true then ((laws_eqPoint.f a0_11 a0_12 a1_11 a1_12).bind fun t266 => (if t266 = true then (some true) else (some false))) else (some false))) else (some false))) else (some false))) else (some false)
set_option maxHeartbeats 8000000 in
set_option maxRecDepth 100000 in
theorem laws_eqPaint.calls (a0_0 : Int) (a0_1 : Int) (a0_2 : Int) (a0_3 : Int) (a0_4 : Int) (a0_5 : Int) (a0_6 : Int) (a0_7 : Int) (a0_8 : Int) (a0_9 : Int) (a0_10 : Int) (a0_11 : Int) (a0_12 : Int) (a1_0 : Int) (a1_1 : Int) (a1_2 : Int) (a1_3 : Int) (a1_4 : Int) (a1_5 : Int) (a1_6 : Int) (a1_7 : Int) (a1_8 : Int) (a1_9 : Int) (a1_10 : Int) (a1_11 : Int) (a1_12 : Int) (r : Bool) (w : World) (h : laws_eqPaint.f a0_0 a0_1 a0_2 a0_3 a0_4 a0_5 a0_6 a0_7 a0_8 a0_9 a0_10 a0_11 a0_12 a1_0 a1_1 a1_2 a1_3 a1_4 a1_5 a1_6 a1_7 a1_8 a1_9 a1_10 a1_11 a1_12 = some r) :
  Calls Try.prog 80 #[.agg #[.int .i64 a0_0, .int .i64 a0_1, .int .i64 a0_2, .int .i64 a0_3, .int .i64 a0_4, .int .i64 a0_5, .int .i64 a0_6, .int .i64 a0_7, .int .i64 a0_8, .int .i64 a0_9, .int .i64 a0_10, .int .i64 a0_11, .int .i64 a0_12], .agg #[.int .i64 a1_0, .int .i64 a1_1, .int .i64 a1_2, .int .i64 a1_3, .int .i64 a1_4, .int .i64 a1_5, .int .i64 a1_6, .int .i64 a1_7, .int .i64 a1_8, .int .i64 a1_9, .int .i64 a1_10, .int .i64 a1_11, .int .i64 a1_12]] w fun e w' => e = .returned (.bool r) ∧ Below w.heap.size w w' := by
 have hu54 := Try.underlying54
 have hu51 := Try.underlying51
 have hu52 := Try.underlying52
 have HB := Aside0.mk (Below.refl w.heap.size w)
 have H : (if a0_0 = a1_0 then ((laws_eqColor.f a0_1 a0_2 a0_3 a0_4 a1_1 a1_2 a1_3 a1_4).bind fun t263 => (if t263 = true then ((laws_eqColor.f a0_5 a0_6 a0_7 a0_8 a1_5 a1_6 a1_7 a1_8).bind fun t264 => (if t264 = true then ((laws_eqPoint.f a0_9 a0_10 a1_9 a1_10).bind fun t265 => (if t265 = true then ((laws_eqPoint.f a0_11 a0_12 a1_11 a1_12).bind fun t266 => (if t266 = true then (some true) else (some false))) else (some false))) else (some false))) else (some false))) else (some false)) = some r := h
 clear h
 by_cases c3 : a0_0 = a1_0
 ·rw [if_pos c3] at H
  have c3b0 : (a0_0 == a1_0) = true := beq_iff_eq.mpr c3
  have c3b1 : (a0_0 != a1_0) = false := bne_eq_false_iff_eq.mpr c3
  clear c3
  replace H := Option.bind_eq_some_iff.mp H
  obtain ⟨t263, A40, H⟩ := H
  try dsimp only at H
  have A4 := Aside0.mk A40
  clear A40
  by_cases c5 : t263 = true
  ·subst c5
   have H1 : ((laws_eqColor.f a0_5 a0_6 a0_7 a0_8 a1_5 a1_6 a1_7 a1_8).bind fun t264 => (if t264 = true then ((laws_eqPoint.f a0_9 a0_10 a1_9 a1_10).bind fun t265 => (if t265 = true then ((laws_eqPoint.f a0_11 a0_12 a1_11 a1_12).bind fun t266 => (if t266 = true then (some true) else (some false))) else (some false))) else (some false))) = some r := by rw [if_pos rfl] at H; exact H
   clear H; have H := H1; clear H1
   replace H := Option.bind_eq_some_iff.mp H
   obtain ⟨t264, A60, H⟩ := H
   try dsimp only at H
   have A6 := Aside0.mk A60
   clear A60
   by_cases c7 : t264 = true
   ·subst c7
    have H1 : ((laws_eqPoint.f a0_9 a0_10 a1_9 a1_10).bind fun t265 => (if t265 = true then ((laws_eqPoint.f a0_11 a0_12 a1_11 a1_12).bind fun t266 => (if t266 = true then (some true) else (some false))) else (some false))) = some r := by rw [if_pos rfl] at H; exact H
    clear H; have H := H1; clear H1
    replace H := Option.bind_eq_some_iff.mp H
    obtain ⟨t265, A80, H⟩ := H
    try dsimp only at H
    have A8 := Aside0.mk A80
    clear A80
    by_cases c9 : t265 = true
    ·subst c9
     have H1 : ((laws_eqPoint.f a0_11 a0_12 a1_11 a1_12).bind fun t266 => (if t266 = true then (some true) else (some false))) = some r := by rw [if_pos rfl] at H; exact H
     clear H; have H := H1; clear H1
     replace H := Option.bind_eq_some_iff.mp H
     obtain ⟨t266, A100, H⟩ := H
     try dsimp only at H
     have A10 := Aside0.mk A100
     clear A100
     by_cases c11 : t266 = true
     ·subst c11
      have H1 : (some true) = some r := by rw [if_pos rfl] at H; exact H
      clear H; have H := H1; clear H1
      obtain rfl := Option.some.inj H
      simp only [Option.some.injEq, Prod.mk.injEq] at H
      obtain ⟨rfl⟩ := H
      go_enter Try.func80, Try.ntmps80
      go_wp2_with (first | ((with_reducible refine gate_dst (N := 2) rfl ?_); refine boxz (cs := #[.int .i64 a0_0, .int .i64 a0_1, .int .i64 a0_2, .int .i64 a0_3, .int .i64 a0_4, .int .i64 a0_5, .int .i64 a0_6, .int .i64 a0_7, .int .i64 a0_8, .int .i64 a0_9, .int .i64 a0_10, .int .i64 a0_11, .int .i64 a0_12]) (t := 54) rfl ?_; intro gb261 hg w12 hbox hb; have n0_ := Aside0.mk (below_step z7_3 hb); have n1_ := Aside0.mk (hbox); have n2_ := Aside0.mk (ge_go (a := w.heap.size) hg (below_size z7_3)); have n3_ := Aside0.mk (ge_go (a := w.heap.size) hg (below_size z7_3)); clear HB; have HB := n0_; have BK261 := n1_; have GW261 := n2_; have GE261 := n3_; clear n0_ n1_ n2_ n3_; clear hb hbox hg) | ((with_reducible refine gate_dst (N := 3) rfl ?_); refine boxz (cs := #[.int .i64 a1_0, .int .i64 a1_1, .int .i64 a1_2, .int .i64 a1_3, .int .i64 a1_4, .int .i64 a1_5, .int .i64 a1_6, .int .i64 a1_7, .int .i64 a1_8, .int .i64 a1_9, .int .i64 a1_10, .int .i64 a1_11, .int .i64 a1_12]) (t := 54) rfl ?_; intro gb262 hg w13 hbox hb; have n0_ := Aside0.mk (blk_belowB BK261 z7_2 hb); have n1_ := Aside0.mk (below_step z7_5 hb); have n2_ := Aside0.mk (hbox); have n3_ := Aside0.mk (ge_go (a := w.heap.size) hg (below_size z7_5)); have n4_ := Aside0.mk (ge_go (a := w.heap.size) hg (below_size z7_5)); have n5_ := Aside0.mk (nb_lt hg (blk_ltB BK261 z7_2)); have n6_ := Aside0.mk (nb_gt hg (blk_ltB BK261 z7_2)); clear BK261; clear HB; have BK261 := n0_; have HB := n1_; have BK262 := n2_; have GW262 := n3_; have GE262 := n4_; have NB261_262 := n5_; have NB262_261 := n6_; clear n0_ n1_ n2_ n3_ n4_ n5_ n6_; clear hb hbox hg; have hnb14 := NB261_262.out; have hnc14 := NB262_261.out; obtain ⟨_, _, _, _, _, _, _, _, _, _, _, _, _, _, _, _, _, _, _, _, _, _, _, _, _, _⟩ := be_13 BK261.out; obtain ⟨_, _, _, _, _, _, _, _, _, _, _, _, _, _, _, _, _, _, _, _, _, _, _, _, _, _⟩ := be_13 BK262.out) | ((with_reducible refine gate_callee (f := 130) rfl ?_); refine goesL_ (some 14) rfl rfl Try.func130 (by kernel_rfl) rfl #[.agg #[.int .i64 a0_1, .int .i64 a0_2, .int .i64 a0_3, .int .i64 a0_4], .agg #[.int .i64 a1_1, .int .i64 a1_2, .int .i64 a1_3, .int .i64 a1_4]] rfl z7_4 ?_; (with_reducible refine (laws_eqColor.calls a0_1 a0_2 a0_3 a0_4 a1_1 a1_2 a1_3 a1_4 true _ A4.out).mono ?_); rintro e w17 ⟨rfl, hb⟩; refine ⟨_, rfl, ?_⟩; have n0_ := Aside0.mk (blk_belowB BK261 z7_2 hb); have n1_ := Aside0.mk (blk_belowB BK262 z7_6 hb); have n2_ := Aside0.mk (below_step z7_1 hb); clear BK261; clear BK262; clear HB; have BK261 := n0_; have BK262 := n1_; have HB := n2_; clear n0_ n1_ n2_; (try clear hb); obtain ⟨_, _, _, _, _, _, _, _, _, _, _, _, _, _, _, _, _, _, _, _, _, _, _, _, _, _⟩ := be_13 BK261.out; obtain ⟨_, _, _, _, _, _, _, _, _, _, _, _, _, _, _, _, _, _, _, _, _, _, _, _, _, _⟩ := be_13 BK262.out) | ((with_reducible refine gate_callee (f := 130) rfl ?_); refine goesL_ (some 20) rfl rfl Try.func130 (by kernel_rfl) rfl #[.agg #[.int .i64 a0_5, .int .i64 a0_6, .int .i64 a0_7, .int .i64 a0_8], .agg #[.int .i64 a1_5, .int .i64 a1_6, .int .i64 a1_7, .int .i64 a1_8]] rfl z7_4 ?_; (with_reducible refine (laws_eqColor.calls a0_5 a0_6 a0_7 a0_8 a1_5 a1_6 a1_7 a1_8 true _ A6.out).mono ?_); rintro e w20 ⟨rfl, hb⟩; refine ⟨_, rfl, ?_⟩; have n0_ := Aside0.mk (blk_belowB BK261 z7_2 hb); have n1_ := Aside0.mk (blk_belowB BK262 z7_6 hb); have n2_ := Aside0.mk (below_step z7_1 hb); clear BK261; clear BK262; clear HB; have BK261 := n0_; have BK262 := n1_; have HB := n2_; clear n0_ n1_ n2_; (try clear hb); obtain ⟨_, _, _, _, _, _, _, _, _, _, _, _, _, _, _, _, _, _, _, _, _, _, _, _, _, _⟩ := be_13 BK261.out; obtain ⟨_, _, _, _, _, _, _, _, _, _, _, _, _, _, _, _, _, _, _, _, _, _, _, _, _, _⟩ := be_13 BK262.out) | ((with_reducible refine gate_callee (f := 124) rfl ?_); refine goesL_ (some 26) rfl rfl Try.func124 (by kernel_rfl) rfl #[.agg #[.int .i64 a0_9, .int .i64 a0_10], .agg #[.int .i64 a1_9, .int .i64 a1_10]] rfl z7_4 ?_; (with_reducible refine (laws_eqPoint.calls a0_9 a0_10 a1_9 a1_10 true _ A8.out).mono ?_); rintro e w23 ⟨rfl, hb⟩; refine ⟨_, rfl, ?_⟩; have n0_ := Aside0.mk (blk_belowB BK261 z7_2 hb); have n1_ := Aside0.mk (blk_belowB BK262 z7_6 hb); have n2_ := Aside0.mk (below_step z7_1 hb); clear BK261; clear BK262; clear HB; have BK261 := n0_; have BK262 := n1_; have HB := n2_; clear n0_ n1_ n2_; (try clear hb); obtain ⟨_, _, _, _, _, _, _, _, _, _, _, _, _, _, _, _, _, _, _, _, _, _, _, _, _, _⟩ := be_13 BK261.out; obtain ⟨_, _, _, _, _, _, _, _, _, _, _, _, _, _, _, _, _, _, _, _, _, _, _, _, _, _⟩ := be_13 BK262.out) | ((with_reducible refine gate_callee (f := 124) rfl ?_); refine goesL_ (some 32) rfl rfl Try.func124 (by kernel_rfl) rfl #[.agg #[.int .i64 a0_11, .int .i64 a0_12], .agg #[.int .i64 a1_11, .int .i64 a1_12]] rfl z7_4 ?_; (with_reducible refine (laws_eqPoint.calls a0_11 a0_12 a1_11 a1_12 true _ A10.out).mono ?_); rintro e w26 ⟨rfl, hb⟩; refine ⟨_, rfl, ?_⟩; have n0_ := Aside0.mk (blk_belowB BK261 z7_2 hb); have n1_ := Aside0.mk (blk_belowB BK262 z7_6 hb); have n2_ := Aside0.mk (below_step z7_1 hb); clear BK261; clear BK262; clear HB; have BK261 := n0_; have BK262 := n1_; have HB := n2_; clear n0_ n1_ n2_; (try clear hb)))
      go_ret
      exact ⟨z7_8, z7_1⟩
     ·replace c11 := Bool.eq_false_iff.mpr c11
      subst c11
      have H1 : (some false) = some r := by rw [if_neg (show ¬ (false = true) by decide)] at H; exact H
      clear H; have H := H1; clear H1
      obtain rfl := Option.some.inj H
      simp only [Option.some.injEq, Prod.mk.injEq] at H
      obtain ⟨rfl⟩ := H
      go_enter Try.func80, Try.ntmps80
      go_wp2_with (first | ((with_reducible refine gate_dst (N := 2) rfl ?_); refine boxz (cs := #[.int .i64 a0_0, .int .i64 a0_1, .int .i64 a0_2, .int .i64 a0_3, .int .i64 a0_4, .int .i64 a0_5, .int .i64 a0_6, .int .i64 a0_7, .int .i64 a0_8, .int .i64 a0_9, .int .i64 a0_10, .int .i64 a0_11, .int .i64 a0_12]) (t := 54) rfl ?_; intro gb261 hg w27 hbox hb; have n0_ := Aside0.mk (below_step z7_3 hb); have n1_ := Aside0.mk (hbox); have n2_ := Aside0.mk (ge_go (a := w.heap.size) hg (below_size z7_3)); have n3_ := Aside0.mk (ge_go (a := w.heap.size) hg (below_size z7_3)); clear HB; have HB := n0_; have BK261 := n1_; have GW261 := n2_; have GE261 := n3_; clear n0_ n1_ n2_ n3_; clear hb hbox hg) | ((with_reducible refine gate_dst (N := 3) rfl ?_); refine boxz (cs := #[.int .i64 a1_0, .int .i64 a1_1, .int .i64 a1_2, .int .i64 a1_3, .int .i64 a1_4, .int .i64 a1_5, .int .i64 a1_6, .int .i64 a1_7, .int .i64 a1_8, .int .i64 a1_9, .int .i64 a1_10, .int .i64 a1_11, .int .i64 a1_12]) (t := 54) rfl ?_; intro gb262 hg w28 hbox hb; have n0_ := Aside0.mk (blk_belowB BK261 z7_2 hb); have n1_ := Aside0.mk (below_step z7_5 hb); have n2_ := Aside0.mk (hbox); have n3_ := Aside0.mk (ge_go (a := w.heap.size) hg (below_size z7_5)); have n4_ := Aside0.mk (ge_go (a := w.heap.size) hg (below_size z7_5)); have n5_ := Aside0.mk (nb_lt hg (blk_ltB BK261 z7_2)); have n6_ := Aside0.mk (nb_gt hg (blk_ltB BK261 z7_2)); clear BK261; clear HB; have BK261 := n0_; have HB := n1_; have BK262 := n2_; have GW262 := n3_; have GE262 := n4_; have NB261_262 := n5_; have NB262_261 := n6_; clear n0_ n1_ n2_ n3_ n4_ n5_ n6_; clear hb hbox hg; have hnb29 := NB261_262.out; have hnc29 := NB262_261.out; obtain ⟨_, _, _, _, _, _, _, _, _, _, _, _, _, _, _, _, _, _, _, _, _, _, _, _, _, _⟩ := be_13 BK261.out; obtain ⟨_, _, _, _, _, _, _, _, _, _, _, _, _, _, _, _, _, _, _, _, _, _, _, _, _, _⟩ := be_13 BK262.out) | ((with_reducible refine gate_callee (f := 130) rfl ?_); refine goesL_ (some 14) rfl rfl Try.func130 (by kernel_rfl) rfl #[.agg #[.int .i64 a0_1, .int .i64 a0_2, .int .i64 a0_3, .int .i64 a0_4], .agg #[.int .i64 a1_1, .int .i64 a1_2, .int .i64 a1_3, .int .i64 a1_4]] rfl z7_4 ?_; (with_reducible refine (laws_eqColor.calls a0_1 a0_2 a0_3 a0_4 a1_1 a1_2 a1_3 a1_4 true _ A4.out).mono ?_); rintro e w32 ⟨rfl, hb⟩; refine ⟨_, rfl, ?_⟩; have n0_ := Aside0.mk (blk_belowB BK261 z7_2 hb); have n1_ := Aside0.mk (blk_belowB BK262 z7_6 hb); have n2_ := Aside0.mk (below_step z7_1 hb); clear BK261; clear BK262; clear HB; have BK261 := n0_; have BK262 := n1_; have HB := n2_; clear n0_ n1_ n2_; (try clear hb); obtain ⟨_, _, _, _, _, _, _, _, _, _, _, _, _, _, _, _, _, _, _, _, _, _, _, _, _, _⟩ := be_13 BK261.out; obtain ⟨_, _, _, _, _, _, _, _, _, _, _, _, _, _, _, _, _, _, _, _, _, _, _, _, _, _⟩ := be_13 BK262.out) | ((with_reducible refine gate_callee (f := 130) rfl ?_); refine goesL_ (some 20) rfl rfl Try.func130 (by kernel_rfl) rfl #[.agg #[.int .i64 a0_5, .int .i64 a0_6, .int .i64 a0_7, .int .i64 a0_8], .agg #[.int .i64 a1_5, .int .i64 a1_6, .int .i64 a1_7, .int .i64 a1_8]] rfl z7_4 ?_; (with_reducible refine (laws_eqColor.calls a0_5 a0_6 a0_7 a0_8 a1_5 a1_6 a1_7 a1_8 true _ A6.out).mono ?_); rintro e w35 ⟨rfl, hb⟩; refine ⟨_, rfl, ?_⟩; have n0_ := Aside0.mk (blk_belowB BK261 z7_2 hb); have n1_ := Aside0.mk (blk_belowB BK262 z7_6 hb); have n2_ := Aside0.mk (below_step z7_1 hb); clear BK261; clear BK262; clear HB; have BK261 := n0_; have BK262 := n1_; have HB := n2_; clear n0_ n1_ n2_; (try clear hb); obtain ⟨_, _, _, _, _, _, _, _, _, _, _, _, _, _, _, _, _, _, _, _, _, _, _, _, _, _⟩ := be_13 BK261.out; obtain ⟨_, _, _, _, _, _, _, _, _, _, _, _, _, _, _, _, _, _, _, _, _, _, _, _, _, _⟩ := be_13 BK262.out) | ((with_reducible refine gate_callee (f := 124) rfl ?_); refine goesL_ (some 26) rfl rfl Try.func124 (by kernel_rfl) rfl #[.agg #[.int .i64 a0_9, .int .i64 a0_10], .agg #[.int .i64 a1_9, .int .i64 a1_10]] rfl z7_4 ?_; (with_reducible refine (laws_eqPoint.calls a0_9 a0_10 a1_9 a1_10 true _ A8.out).mono ?_); rintro e w38 ⟨rfl, hb⟩; refine ⟨_, rfl, ?_⟩; have n0_ := Aside0.mk (blk_belowB BK261 z7_2 hb); have n1_ := Aside0.mk (blk_belowB BK262 z7_6 hb); have n2_ := Aside0.mk (below_step z7_1 hb); clear BK261; clear BK262; clear HB; have BK261 := n0_; have BK262 := n1_; have HB := n2_; clear n0_ n1_ n2_; (try clear hb); obtain ⟨_, _, _, _, _, _, _, _, _, _, _, _, _, _, _, _, _, _, _, _, _, _, _, _, _, _⟩ := be_13 BK261.out; obtain ⟨_, _, _, _, _, _, _, _, _, _, _, _, _, _, _, _, _, _, _, _, _, _, _, _, _, _⟩ := be_13 BK262.out) | ((with_reducible refine gate_callee (f := 124) rfl ?_); refine goesL_ (some 32) rfl rfl Try.func124 (by kernel_rfl) rfl #[.agg #[.int .i64 a0_11, .int .i64 a0_12], .agg #[.int .i64 a1_11, .int .i64 a1_12]] rfl z7_4 ?_; (with_reducible refine (laws_eqPoint.calls a0_11 a0_12 a1_11 a1_12 false _ A10.out).mono ?_); rintro e w41 ⟨rfl, hb⟩; refine ⟨_, rfl, ?_⟩; have n0_ := Aside0.mk (blk_belowB BK261 z7_2 hb); have n1_ := Aside0.mk (blk_belowB BK262 z7_6 hb); have n2_ := Aside0.mk (below_step z7_1 hb); clear BK261; clear BK262; clear HB; have BK261 := n0_; have BK262 := n1_; have HB := n2_; clear n0_ n1_ n2_; (try clear hb)))
      go_ret
      exact ⟨z7_8, z7_1⟩
    ·replace c9 := Bool.eq_false_iff.mpr c9
     subst c9
     have H1 : (some false) = some r := by rw [if_neg (show ¬ (false = true) by decide)] at H; exact H
     clear H; have H := H1; clear H1
     obtain rfl := Option.some.inj H
     simp only [Option.some.injEq, Prod.mk.injEq] at H
     obtain ⟨rfl⟩ := H
     go_enter Try.func80, Try.ntmps80
     go_wp2_with (first | ((with_reducible refine gate_dst (N := 2) rfl ?_); refine boxz (cs := #[.int .i64 a0_0, .int .i64 a0_1, .int .i64 a0_2, .int .i64 a0_3, .int .i64 a0_4, .int .i64 a0_5, .int .i64 a0_6, .int .i64 a0_7, .int .i64 a0_8, .int .i64 a0_9, .int .i64 a0_10, .int .i64 a0_11, .int .i64 a0_12]) (t := 54) rfl ?_; intro gb261 hg w42 hbox hb; have n0_ := Aside0.mk (below_step z7_3 hb); have n1_ := Aside0.mk (hbox); have n2_ := Aside0.mk (ge_go (a := w.heap.size) hg (below_size z7_3)); have n3_ := Aside0.mk (ge_go (a := w.heap.size) hg (below_size z7_3)); clear HB; have HB := n0_; have BK261 := n1_; have GW261 := n2_; have GE261 := n3_; clear n0_ n1_ n2_ n3_; clear hb hbox hg) | ((with_reducible refine gate_dst (N := 3) rfl ?_); refine boxz (cs := #[.int .i64 a1_0, .int .i64 a1_1, .int .i64 a1_2, .int .i64 a1_3, .int .i64 a1_4, .int .i64 a1_5, .int .i64 a1_6, .int .i64 a1_7, .int .i64 a1_8, .int .i64 a1_9, .int .i64 a1_10, .int .i64 a1_11, .int .i64 a1_12]) (t := 54) rfl ?_; intro gb262 hg w43 hbox hb; have n0_ := Aside0.mk (blk_belowB BK261 z7_2 hb); have n1_ := Aside0.mk (below_step z7_5 hb); have n2_ := Aside0.mk (hbox); have n3_ := Aside0.mk (ge_go (a := w.heap.size) hg (below_size z7_5)); have n4_ := Aside0.mk (ge_go (a := w.heap.size) hg (below_size z7_5)); have n5_ := Aside0.mk (nb_lt hg (blk_ltB BK261 z7_2)); have n6_ := Aside0.mk (nb_gt hg (blk_ltB BK261 z7_2)); clear BK261; clear HB; have BK261 := n0_; have HB := n1_; have BK262 := n2_; have GW262 := n3_; have GE262 := n4_; have NB261_262 := n5_; have NB262_261 := n6_; clear n0_ n1_ n2_ n3_ n4_ n5_ n6_; clear hb hbox hg; have hnb44 := NB261_262.out; have hnc44 := NB262_261.out; obtain ⟨_, _, _, _, _, _, _, _, _, _, _, _, _, _, _, _, _, _, _, _, _, _, _, _, _, _⟩ := be_13 BK261.out; obtain ⟨_, _, _, _, _, _, _, _, _, _, _, _, _, _, _, _, _, _, _, _, _, _, _, _, _, _⟩ := be_13 BK262.out) | ((with_reducible refine gate_callee (f := 130) rfl ?_); refine goesL_ (some 14) rfl rfl Try.func130 (by kernel_rfl) rfl #[.agg #[.int .i64 a0_1, .int .i64 a0_2, .int .i64 a0_3, .int .i64 a0_4], .agg #[.int .i64 a1_1, .int .i64 a1_2, .int .i64 a1_3, .int .i64 a1_4]] rfl z7_4 ?_; (with_reducible refine (laws_eqColor.calls a0_1 a0_2 a0_3 a0_4 a1_1 a1_2 a1_3 a1_4 true _ A4.out).mono ?_); rintro e w47 ⟨rfl, hb⟩; refine ⟨_, rfl, ?_⟩; have n0_ := Aside0.mk (blk_belowB BK261 z7_2 hb); have n1_ := Aside0.mk (blk_belowB BK262 z7_6 hb); have n2_ := Aside0.mk (below_step z7_1 hb); clear BK261; clear BK262; clear HB; have BK261 := n0_; have BK262 := n1_; have HB := n2_; clear n0_ n1_ n2_; (try clear hb); obtain ⟨_, _, _, _, _, _, _, _, _, _, _, _, _, _, _, _, _, _, _, _, _, _, _, _, _, _⟩ := be_13 BK261.out; obtain ⟨_, _, _, _, _, _, _, _, _, _, _, _, _, _, _, _, _, _, _, _, _, _, _, _, _, _⟩ := be_13 BK262.out) | ((with_reducible refine gate_callee (f := 130) rfl ?_); refine goesL_ (some 20) rfl rfl Try.func130 (by kernel_rfl) rfl #[.agg #[.int .i64 a0_5, .int .i64 a0_6, .int .i64 a0_7, .int .i64 a0_8], .agg #[.int .i64 a1_5, .int .i64 a1_6, .int .i64 a1_7, .int .i64 a1_8]] rfl z7_4 ?_; (with_reducible refine (laws_eqColor.calls a0_5 a0_6 a0_7 a0_8 a1_5 a1_6 a1_7 a1_8 true _ A6.out).mono ?_); rintro e w50 ⟨rfl, hb⟩; refine ⟨_, rfl, ?_⟩; have n0_ := Aside0.mk (blk_belowB BK261 z7_2 hb); have n1_ := Aside0.mk (blk_belowB BK262 z7_6 hb); have n2_ := Aside0.mk (below_step z7_1 hb); clear BK261; clear BK262; clear HB; have BK261 := n0_; have BK262 := n1_; have HB := n2_; clear n0_ n1_ n2_; (try clear hb); obtain ⟨_, _, _, _, _, _, _, _, _, _, _, _, _, _, _, _, _, _, _, _, _, _, _, _, _, _⟩ := be_13 BK261.out; obtain ⟨_, _, _, _, _, _, _, _, _, _, _, _, _, _, _, _, _, _, _, _, _, _, _, _, _, _⟩ := be_13 BK262.out) | ((with_reducible refine gate_callee (f := 124) rfl ?_); refine goesL_ (some 26) rfl rfl Try.func124 (by kernel_rfl) rfl #[.agg #[.int .i64 a0_9, .int .i64 a0_10], .agg #[.int .i64 a1_9, .int .i64 a1_10]] rfl z7_4 ?_; (with_reducible refine (laws_eqPoint.calls a0_9 a0_10 a1_9 a1_10 false _ A8.out).mono ?_); rintro e w53 ⟨rfl, hb⟩; refine ⟨_, rfl, ?_⟩; have n0_ := Aside0.mk (blk_belowB BK261 z7_2 hb); have n1_ := Aside0.mk (blk_belowB BK262 z7_6 hb); have n2_ := Aside0.mk (below_step z7_1 hb); clear BK261; clear BK262; clear HB; have BK261 := n0_; have BK262 := n1_; have HB := n2_; clear n0_ n1_ n2_; (try clear hb)))
     go_ret
     exact ⟨z7_8, z7_1⟩
   ·replace c7 := Bool.eq_false_iff.mpr c7
    subst c7
    have H1 : (some false) = some r := by rw [if_neg (show ¬ (false = true) by decide)] at H; exact H
    clear H; have H := H1; clear H1
    obtain rfl := Option.some.inj H
    simp only [Option.some.injEq, Prod.mk.injEq] at H
    obtain ⟨rfl⟩ := H
    go_enter Try.func80, Try.ntmps80
    go_wp2_with (first | ((with_reducible refine gate_dst (N := 2) rfl ?_); refine boxz (cs := #[.int .i64 a0_0, .int .i64 a0_1, .int .i64 a0_2, .int .i64 a0_3, .int .i64 a0_4, .int .i64 a0_5, .int .i64 a0_6, .int .i64 a0_7, .int .i64 a0_8, .int .i64 a0_9, .int .i64 a0_10, .int .i64 a0_11, .int .i64 a0_12]) (t := 54) rfl ?_; intro gb261 hg w54 hbox hb; have n0_ := Aside0.mk (below_step z7_3 hb); have n1_ := Aside0.mk (hbox); have n2_ := Aside0.mk (ge_go (a := w.heap.size) hg (below_size z7_3)); have n3_ := Aside0.mk (ge_go (a := w.heap.size) hg (below_size z7_3)); clear HB; have HB := n0_; have BK261 := n1_; have GW261 := n2_; have GE261 := n3_; clear n0_ n1_ n2_ n3_; clear hb hbox hg) | ((with_reducible refine gate_dst (N := 3) rfl ?_); refine boxz (cs := #[.int .i64 a1_0, .int .i64 a1_1, .int .i64 a1_2, .int .i64 a1_3, .int .i64 a1_4, .int .i64 a1_5, .int .i64 a1_6, .int .i64 a1_7, .int .i64 a1_8, .int .i64 a1_9, .int .i64 a1_10, .int .i64 a1_11, .int .i64 a1_12]) (t := 54) rfl ?_; intro gb262 hg w55 hbox hb; have n0_ := Aside0.mk (blk_belowB BK261 z7_2 hb); have n1_ := Aside0.mk (below_step z7_5 hb); have n2_ := Aside0.mk (hbox); have n3_ := Aside0.mk (ge_go (a := w.heap.size) hg (below_size z7_5)); have n4_ := Aside0.mk (ge_go (a := w.heap.size) hg (below_size z7_5)); have n5_ := Aside0.mk (nb_lt hg (blk_ltB BK261 z7_2)); have n6_ := Aside0.mk (nb_gt hg (blk_ltB BK261 z7_2)); clear BK261; clear HB; have BK261 := n0_; have HB := n1_; have BK262 := n2_; have GW262 := n3_; have GE262 := n4_; have NB261_262 := n5_; have NB262_261 := n6_; clear n0_ n1_ n2_ n3_ n4_ n5_ n6_; clear hb hbox hg; have hnb56 := NB261_262.out; have hnc56 := NB262_261.out; obtain ⟨_, _, _, _, _, _, _, _, _, _, _, _, _, _, _, _, _, _, _, _, _, _, _, _, _, _⟩ := be_13 BK261.out; obtain ⟨_, _, _, _, _, _, _, _, _, _, _, _, _, _, _, _, _, _, _, _, _, _, _, _, _, _⟩ := be_13 BK262.out) | ((with_reducible refine gate_callee (f := 130) rfl ?_); refine goesL_ (some 14) rfl rfl Try.func130 (by kernel_rfl) rfl #[.agg #[.int .i64 a0_1, .int .i64 a0_2, .int .i64 a0_3, .int .i64 a0_4], .agg #[.int .i64 a1_1, .int .i64 a1_2, .int .i64 a1_3, .int .i64 a1_4]] rfl z7_4 ?_; (with_reducible refine (laws_eqColor.calls a0_1 a0_2 a0_3 a0_4 a1_1 a1_2 a1_3 a1_4 true _ A4.out).mono ?_); rintro e w59 ⟨rfl, hb⟩; refine ⟨_, rfl, ?_⟩; have n0_ := Aside0.mk (blk_belowB BK261 z7_2 hb); have n1_ := Aside0.mk (blk_belowB BK262 z7_6 hb); have n2_ := Aside0.mk (below_step z7_1 hb); clear BK261; clear BK262; clear HB; have BK261 := n0_; have BK262 := n1_; have HB := n2_; clear n0_ n1_ n2_; (try clear hb); obtain ⟨_, _, _, _, _, _, _, _, _, _, _, _, _, _, _, _, _, _, _, _, _, _, _, _, _, _⟩ := be_13 BK261.out; obtain ⟨_, _, _, _, _, _, _, _, _, _, _, _, _, _, _, _, _, _, _, _, _, _, _, _, _, _⟩ := be_13 BK262.out) | ((with_reducible refine gate_callee (f := 130) rfl ?_); refine goesL_ (some 20) rfl rfl Try.func130 (by kernel_rfl) rfl #[.agg #[.int .i64 a0_5, .int .i64 a0_6, .int .i64 a0_7, .int .i64 a0_8], .agg #[.int .i64 a1_5, .int .i64 a1_6, .int .i64 a1_7, .int .i64 a1_8]] rfl z7_4 ?_; (with_reducible refine (laws_eqColor.calls a0_5 a0_6 a0_7 a0_8 a1_5 a1_6 a1_7 a1_8 false _ A6.out).mono ?_); rintro e w62 ⟨rfl, hb⟩; refine ⟨_, rfl, ?_⟩; have n0_ := Aside0.mk (blk_belowB BK261 z7_2 hb); have n1_ := Aside0.mk (blk_belowB BK262 z7_6 hb); have n2_ := Aside0.mk (below_step z7_1 hb); clear BK261; clear BK262; clear HB; have BK261 := n0_; have BK262 := n1_; have HB := n2_; clear n0_ n1_ n2_; (try clear hb)))
    go_ret
    exact ⟨z7_8, z7_1⟩
  ·replace c5 := Bool.eq_false_iff.mpr c5
   subst c5
   have H1 : (some false) = some r := by rw [if_neg (show ¬ (false = true) by decide)] at H; exact H
   clear H; have H := H1; clear H1
   obtain rfl := Option.some.inj H
   simp only [Option.some.injEq, Prod.mk.injEq] at H
   obtain ⟨rfl⟩ := H
   go_enter Try.func80, Try.ntmps80
   go_wp2_with (first | ((with_reducible refine gate_dst (N := 2) rfl ?_); refine boxz (cs := #[.int .i64 a0_0, .int .i64 a0_1, .int .i64 a0_2, .int .i64 a0_3, .int .i64 a0_4, .int .i64 a0_5, .int .i64 a0_6, .int .i64 a0_7, .int .i64 a0_8, .int .i64 a0_9, .int .i64 a0_10, .int .i64 a0_11, .int .i64 a0_12]) (t := 54) rfl ?_; intro gb261 hg w63 hbox hb; have n0_ := Aside0.mk (below_step z7_3 hb); have n1_ := Aside0.mk (hbox); have n2_ := Aside0.mk (ge_go (a := w.heap.size) hg (below_size z7_3)); have n3_ := Aside0.mk (ge_go (a := w.heap.size) hg (below_size z7_3)); clear HB; have HB := n0_; have BK261 := n1_; have GW261 := n2_; have GE261 := n3_; clear n0_ n1_ n2_ n3_; clear hb hbox hg) | ((with_reducible refine gate_dst (N := 3) rfl ?_); refine boxz (cs := #[.int .i64 a1_0, .int .i64 a1_1, .int .i64 a1_2, .int .i64 a1_3, .int .i64 a1_4, .int .i64 a1_5, .int .i64 a1_6, .int .i64 a1_7, .int .i64 a1_8, .int .i64 a1_9, .int .i64 a1_10, .int .i64 a1_11, .int .i64 a1_12]) (t := 54) rfl ?_; intro gb262 hg w64 hbox hb; have n0_ := Aside0.mk (blk_belowB BK261 z7_2 hb); have n1_ := Aside0.mk (below_step z7_5 hb); have n2_ := Aside0.mk (hbox); have n3_ := Aside0.mk (ge_go (a := w.heap.size) hg (below_size z7_5)); have n4_ := Aside0.mk (ge_go (a := w.heap.size) hg (below_size z7_5)); have n5_ := Aside0.mk (nb_lt hg (blk_ltB BK261 z7_2)); have n6_ := Aside0.mk (nb_gt hg (blk_ltB BK261 z7_2)); clear BK261; clear HB; have BK261 := n0_; have HB := n1_; have BK262 := n2_; have GW262 := n3_; have GE262 := n4_; have NB261_262 := n5_; have NB262_261 := n6_; clear n0_ n1_ n2_ n3_ n4_ n5_ n6_; clear hb hbox hg; have hnb65 := NB261_262.out; have hnc65 := NB262_261.out; obtain ⟨_, _, _, _, _, _, _, _, _, _, _, _, _, _, _, _, _, _, _, _, _, _, _, _, _, _⟩ := be_13 BK261.out; obtain ⟨_, _, _, _, _, _, _, _, _, _, _, _, _, _, _, _, _, _, _, _, _, _, _, _, _, _⟩ := be_13 BK262.out) | ((with_reducible refine gate_callee (f := 130) rfl ?_); refine goesL_ (some 14) rfl rfl Try.func130 (by kernel_rfl) rfl #[.agg #[.int .i64 a0_1, .int .i64 a0_2, .int .i64 a0_3, .int .i64 a0_4], .agg #[.int .i64 a1_1, .int .i64 a1_2, .int .i64 a1_3, .int .i64 a1_4]] rfl z7_4 ?_; (with_reducible refine (laws_eqColor.calls a0_1 a0_2 a0_3 a0_4 a1_1 a1_2 a1_3 a1_4 false _ A4.out).mono ?_); rintro e w68 ⟨rfl, hb⟩; refine ⟨_, rfl, ?_⟩; have n0_ := Aside0.mk (blk_belowB BK261 z7_2 hb); have n1_ := Aside0.mk (blk_belowB BK262 z7_6 hb); have n2_ := Aside0.mk (below_step z7_1 hb); clear BK261; clear BK262; clear HB; have BK261 := n0_; have BK262 := n1_; have HB := n2_; clear n0_ n1_ n2_; (try clear hb)))
   go_ret
   exact ⟨z7_8, z7_1⟩
 ·rw [if_neg c3] at H
  have c3b0 : (a0_0 == a1_0) = false := beq_eq_false_iff_ne.mpr c3
  have c3b1 : (a0_0 != a1_0) = true := bne_iff_ne.mpr c3
  obtain rfl := Option.some.inj H
  simp only [Option.some.injEq, Prod.mk.injEq] at H
  obtain ⟨rfl⟩ := H
  go_enter Try.func80, Try.ntmps80
  go_wp2_with (first | ((with_reducible refine gate_dst (N := 2) rfl ?_); refine boxz (cs := #[.int .i64 a0_0, .int .i64 a0_1, .int .i64 a0_2, .int .i64 a0_3, .int .i64 a0_4, .int .i64 a0_5, .int .i64 a0_6, .int .i64 a0_7, .int .i64 a0_8, .int .i64 a0_9, .int .i64 a0_10, .int .i64 a0_11, .int .i64 a0_12]) (t := 54) rfl ?_; intro gb261 hg w69 hbox hb; have n0_ := Aside0.mk (below_step z7_3 hb); have n1_ := Aside0.mk (hbox); have n2_ := Aside0.mk (ge_go (a := w.heap.size) hg (below_size z7_3)); have n3_ := Aside0.mk (ge_go (a := w.heap.size) hg (below_size z7_3)); clear HB; have HB := n0_; have BK261 := n1_; have GW261 := n2_; have GE261 := n3_; clear n0_ n1_ n2_ n3_; clear hb hbox hg) | ((with_reducible refine gate_dst (N := 3) rfl ?_); refine boxz (cs := #[.int .i64 a1_0, .int .i64 a1_1, .int .i64 a1_2, .int .i64 a1_3, .int .i64 a1_4, .int .i64 a1_5, .int .i64 a1_6, .int .i64 a1_7, .int .i64 a1_8, .int .i64 a1_9, .int .i64 a1_10, .int .i64 a1_11, .int .i64 a1_12]) (t := 54) rfl ?_; intro gb262 hg w70 hbox hb; have n0_ := Aside0.mk (blk_belowB BK261 z7_2 hb); have n1_ := Aside0.mk (below_step z7_5 hb); have n2_ := Aside0.mk (hbox); have n3_ := Aside0.mk (ge_go (a := w.heap.size) hg (below_size z7_5)); have n4_ := Aside0.mk (ge_go (a := w.heap.size) hg (below_size z7_5)); have n5_ := Aside0.mk (nb_lt hg (blk_ltB BK261 z7_2)); have n6_ := Aside0.mk (nb_gt hg (blk_ltB BK261 z7_2)); clear BK261; clear HB; have BK261 := n0_; have HB := n1_; have BK262 := n2_; have GW262 := n3_; have GE262 := n4_; have NB261_262 := n5_; have NB262_261 := n6_; clear n0_ n1_ n2_ n3_ n4_ n5_ n6_; clear hb hbox hg; have hnb71 := NB261_262.out; have hnc71 := NB262_261.out; obtain ⟨_, _, _, _, _, _, _, _, _, _, _, _, _, _, _, _, _, _, _, _, _, _, _, _, _, _⟩ := be_13 BK261.out; obtain ⟨_, _, _, _, _, _, _, _, _, _, _, _, _, _, _, _, _, _, _, _, _, _, _, _, _, _⟩ := be_13 BK262.out))
  go_ret
  exact ⟨z7_8, z7_1⟩

/-! ### laws_eqNode: function 23 -/
def laws_eqNode.f (k : Nat) (a0_0 : Int) (a0_1 : Int) (a0_2 : Bool) (a0_3 : Int) (a0_4 : Int) (a0_5 : Int) (a0_6 : Int) (a0_7 : Int) (a0_8 : Int) (l0_9 : List Int) (l0_10 : List (S52)) (a0_11 : Bool) (a0_12 : Int) (l0_13 : List Int) (a0_14 : Int) (a0_15 : Int) (a0_16 : Int) (a0_17 : Int) (a0_18 : Int) (a0_19 : Int) (a0_20 : Int) (a0_21 : Int) (a0_22 : Int) (a0_23 : Int) (a0_24 : Int) (a0_25 : Int) (a0_26 : Int) (a0_27 : Int) (a0_28 : Int) (l0_29 : List Int) (l0_30 : List (S52)) (a1_0 : Int) (a1_1 : Int) (a1_2 : Bool) (a1_3 : Int) (a1_4 : Int) (a1_5 : Int) (a1_6 : Int) (a1_7 : Int) (a1_8 : Int) (l1_9 : List Int) (l1_10 : List (S52)) (a1_11 : Bool) (a1_12 : Int) (l1_13 : List Int) (a1_14 : Int) (a1_15 : Int) (a1_16 : Int) (a1_17 : Int) (a1_18 : Int) (a1_19 : Int) (a1_20 : Int) (a1_21 : Int) (a1_22 : Int) (a1_23 : Int) (a1_24 : Int) (a1_25 : Int) (a1_26 : Int) (a1_27 : Int) (a1_28 : Int) (l1_29 : List Int) (l1_30 : List (S52)) : Option (Bool) := if a0_0 = a1_0 then (if a0_1 = a1_1 then (if (a0_2 != a1_2) = true then (some false) else ((laws_eqMat.f a0_3 a0_4 a0_5 a0_6 a0_7 a0_8 a1_3 a1_4 a1_5 a1_6 a1_7 a1_8).bind fun t269 => (if t269 = true then ((laws_eqPath.f k l0_9 l0_10 l1_9 l1_10).bind fun t270 => (if t270 = true then (if (a0_11 != a1_11) = true then (some false) else (if a0_12 = a1_12 then ((laws_eqIntS.f k l0_13 l1_13).bind fun t271 => (if t271 = true then ((laws_eqPaint.f a0_14 a0_15 a0_16 a0_17 a0_18 a0_19 a0_20 a0_21 a0_22 a0_23 a0_24 a0_25 a0_26 a1_14 a1_15 a1_16 a1_17 a1_18 a1_19 a1_20 a1_21 a1_22 a1_23 a1_24 a1_25 a1_26).bind fun t272 => (if t272 = true then (if a0_27 = a1_27 then (if a0_28 = a1_28 then ((laws_eqPath.f k l0_29 l0_30 l1_29 l1_30).bind fun t273 => (if t273 = true then (some true) else (some false))) else (some false)) else (some false)) else (some false))) else (some false))) else (some false))) else (some false))) else (some false)))) else (some false)) else (some false)
theorem laws_eqNode.mono : ∀ a0 a1 a2 a3 a4 a5 a6 a7 a8 a9 a10 a11 a12 a13 a14 a15 a16 a17 a18 a19 a20 a21 a22 a23 a24 a25 a26 a27 a28 a29 a30 a31 a32 a33 a34 a35 a36 a37 a38 a39 a40 a41 a42 a43 a44 a45 a46 a47 a48 a49 a50 a51 a52 a53 a54 a55 a56 a57 a58 a59 a60 a61 k, LeO (laws_eqNode.f k a0 a1 a2 a3 a4 a5 a6 a7 a8 a9 a10 a11 a12 a13 a14 a15 a16 a17 a18 a19 a20 a21 a22 a23 a24 a25 a26 a27 a28 a29 a30 a31 a32 a33 a34 a35 a36 a37 a38 a39 a40 a41 a42 a43 a44 a45 a46 a47 a48 a49 a50 a51 a52 a53 a54 a55 a56 a57 a58 a59 a60 a61) (laws_eqNode.f (k + 1) a0 a1 a2 a3 a4 a5 a6 a7 a8 a9 a10 a11 a12 a13 a14 a15 a16 a17 a18 a19 a20 a21 a22 a23 a24 a25 a26 a27 a28 a29 a30 a31 a32 a33 a34 a35 a36 a37 a38 a39 a40 a41 a42 a43 a44 a45 a46 a47 a48 a49 a50 a51 a52 a53 a54 a55 a56 a57 a58 a59 a60 a61) := by
 intro a0 a1 a2 a3 a4 a5 a6 a7 a8 a9 a10 a11 a12 a13 a14 a15 a16 a17 a18 a19 a20 a21 a22 a23 a24 a25 a26 a27 a28 a29 a30 a31 a32 a33 a34 a35 a36 a37 a38 a39 a40 a41 a42 a43 a44 a45 a46 a47 a48 a49 a50 a51 a52 a53 a54 a55 a56 a57 a58 a59 a60 a61 k
 unfold laws_eqNode.f
 repeat' first
   | (with_reducible exact laws_eqIntS.mono _ _ _)
   | (with_reducible exact laws_eqPath.mono _ _ _ _ _)
   | (with_reducible exact LeO.refl _)
   | (with_reducible exact LeO.none _)
   | (with_reducible refine LeO.ite ?_ ?_)
   | (with_reducible refine LeO.bind ?_ (fun _ => ?_))
   | exact laws_eqIntS.mono _ _ _
   | exact laws_eqPath.mono _ _ _ _ _
   | exact LeO.none _
   | refine LeO.ite ?_ ?_
   | refine LeO.bind ?_ (fun _ => ?_)
set_option maxHeartbeats 8000000 in
set_option maxRecDepth 100000 in
theorem laws_eqNode.calls (k : Nat) (a0_0 : Int) (a0_1 : Int) (a0_2 : Bool) (a0_3 : Int) (a0_4 : Int) (a0_5 : Int) (a0_6 : Int) (a0_7 : Int) (a0_8 : Int) (A0_9 : Option Addr) (c0_9 : Nat) (l0_9 : List Int) (A0_10 : Option Addr) (c0_10 : Nat) (l0_10 : List (S52)) (a0_11 : Bool) (a0_12 : Int) (A0_13 : Option Addr) (c0_13 : Nat) (l0_13 : List Int) (a0_14 : Int) (a0_15 : Int) (a0_16 : Int) (a0_17 : Int) (a0_18 : Int) (a0_19 : Int) (a0_20 : Int) (a0_21 : Int) (a0_22 : Int) (a0_23 : Int) (a0_24 : Int) (a0_25 : Int) (a0_26 : Int) (a0_27 : Int) (a0_28 : Int) (A0_29 : Option Addr) (c0_29 : Nat) (l0_29 : List Int) (A0_30 : Option Addr) (c0_30 : Nat) (l0_30 : List (S52)) (a1_0 : Int) (a1_1 : Int) (a1_2 : Bool) (a1_3 : Int) (a1_4 : Int) (a1_5 : Int) (a1_6 : Int) (a1_7 : Int) (a1_8 : Int) (A1_9 : Option Addr) (c1_9 : Nat) (l1_9 : List Int) (A1_10 : Option Addr) (c1_10 : Nat) (l1_10 : List (S52)) (a1_11 : Bool) (a1_12 : Int) (A1_13 : Option Addr) (c1_13 : Nat) (l1_13 : List Int) (a1_14 : Int) (a1_15 : Int) (a1_16 : Int) (a1_17 : Int) (a1_18 : Int) (a1_19 : Int) (a1_20 : Int) (a1_21 : Int) (a1_22 : Int) (a1_23 : Int) (a1_24 : Int) (a1_25 : Int) (a1_26 : Int) (a1_27 : Int) (a1_28 : Int) (A1_29 : Option Addr) (c1_29 : Nat) (l1_29 : List Int) (A1_30 : Option Addr) (c1_30 : Nat) (l1_30 : List (S52)) (r : Bool) (w : World) (hr0_9 : Kd.C (Kd.int .i64) w A0_9 l0_9.length l0_9) (hc0_9 : l0_9.length ≤ c0_9) (hr0_10 : Kd.C k52 w A0_10 l0_10.length l0_10) (hc0_10 : l0_10.length ≤ c0_10) (hr0_13 : Kd.C (Kd.int .i64) w A0_13 l0_13.length l0_13) (hc0_13 : l0_13.length ≤ c0_13) (hr0_29 : Kd.C (Kd.int .i64) w A0_29 l0_29.length l0_29) (hc0_29 : l0_29.length ≤ c0_29) (hr0_30 : Kd.C k52 w A0_30 l0_30.length l0_30) (hc0_30 : l0_30.length ≤ c0_30) (hr1_9 : Kd.C (Kd.int .i64) w A1_9 l1_9.length l1_9) (hc1_9 : l1_9.length ≤ c1_9) (hr1_10 : Kd.C k52 w A1_10 l1_10.length l1_10) (hc1_10 : l1_10.length ≤ c1_10) (hr1_13 : Kd.C (Kd.int .i64) w A1_13 l1_13.length l1_13) (hc1_13 : l1_13.length ≤ c1_13) (hr1_29 : Kd.C (Kd.int .i64) w A1_29 l1_29.length l1_29) (hc1_29 : l1_29.length ≤ c1_29) (hr1_30 : Kd.C k52 w A1_30 l1_30.length l1_30) (hc1_30 : l1_30.length ≤ c1_30) (hT : r = true) (h : laws_eqNode.f k a0_0 a0_1 a0_2 a0_3 a0_4 a0_5 a0_6 a0_7 a0_8 l0_9 l0_10 a0_11 a0_12 l0_13 a0_14 a0_15 a0_16 a0_17 a0_18 a0_19 a0_20 a0_21 a0_22 a0_23 a0_24 a0_25 a0_26 a0_27 a0_28 l0_29 l0_30 a1_0 a1_1 a1_2 a1_3 a1_4 a1_5 a1_6 a1_7 a1_8 l1_9 l1_10 a1_11 a1_12 l1_13 a1_14 a1_15 a1_16 a1_17 a1_18 a1_19 a1_20 a1_21 a1_22 a1_23 a1_24 a1_25 a1_26 a1_27 a1_28 l1_29 l1_30 = some r) :
  Calls Try.prog 23 #[.agg #[.int .i64 a0_0, .int .i64 a0_1, .bool a0_2, .int .i64 a0_3, .int .i64 a0_4, .int .i64 a0_5, .int .i64 a0_6, .int .i64 a0_7, .int .i64 a0_8, .slice A0_9 l0_9.length c0_9, .slice A0_10 l0_10.length c0_10, .bool a0_11, .int .i64 a0_12, .slice A0_13 l0_13.length c0_13, .int .i64 a0_14, .int .i64 a0_15, .int .i64 a0_16, .int .i64 a0_17, .int .i64 a0_18, .int .i64 a0_19, .int .i64 a0_20, .int .i64 a0_21, .int .i64 a0_22, .int .i64 a0_23, .int .i64 a0_24, .int .i64 a0_25, .int .i64 a0_26, .int .i64 a0_27, .int .i64 a0_28, .slice A0_29 l0_29.length c0_29, .slice A0_30 l0_30.length c0_30], .agg #[.int .i64 a1_0, .int .i64 a1_1, .bool a1_2, .int .i64 a1_3, .int .i64 a1_4, .int .i64 a1_5, .int .i64 a1_6, .int .i64 a1_7, .int .i64 a1_8, .slice A1_9 l1_9.length c1_9, .slice A1_10 l1_10.length c1_10, .bool a1_11, .int .i64 a1_12, .slice A1_13 l1_13.length c1_13, .int .i64 a1_14, .int .i64 a1_15, .int .i64 a1_16, .int .i64 a1_17, .int .i64 a1_18, .int .i64 a1_19, .int .i64 a1_20, .int .i64 a1_21, .int .i64 a1_22, .int .i64 a1_23, .int .i64 a1_24, .int .i64 a1_25, .int .i64 a1_26, .int .i64 a1_27, .int .i64 a1_28, .slice A1_29 l1_29.length c1_29, .slice A1_30 l1_30.length c1_30]] w fun e w' => e = .returned (.bool r) ∧ Below w.heap.size w w' := by
 have hu56 := Try.underlying56
 have hu50 := Try.underlying50
 have hu31 := Try.underlying31
 have hu54 := Try.underlying54
 have HR0_9 := Aside0.mk hr0_9
 have HC0_9 := Aside0.mk hc0_9
 clear hr0_9 hc0_9
 have HR0_10 := Aside0.mk hr0_10
 have HC0_10 := Aside0.mk hc0_10
 clear hr0_10 hc0_10
 have HR0_13 := Aside0.mk hr0_13
 have HC0_13 := Aside0.mk hc0_13
 clear hr0_13 hc0_13
 have HR0_29 := Aside0.mk hr0_29
 have HC0_29 := Aside0.mk hc0_29
 clear hr0_29 hc0_29
 have HR0_30 := Aside0.mk hr0_30
 have HC0_30 := Aside0.mk hc0_30
 clear hr0_30 hc0_30
 have HR1_9 := Aside0.mk hr1_9
 have HC1_9 := Aside0.mk hc1_9
 clear hr1_9 hc1_9
 have HR1_10 := Aside0.mk hr1_10
 have HC1_10 := Aside0.mk hc1_10
 clear hr1_10 hc1_10
 have HR1_13 := Aside0.mk hr1_13
 have HC1_13 := Aside0.mk hc1_13
 clear hr1_13 hc1_13
 have HR1_29 := Aside0.mk hr1_29
 have HC1_29 := Aside0.mk hc1_29
 clear hr1_29 hc1_29
 have HR1_30 := Aside0.mk hr1_30
 have HC1_30 := Aside0.mk hc1_30
 clear hr1_30 hc1_30
 have HB := Aside0.mk (Below.refl w.heap.size w)
 have H : (if a0_0 = a1_0 then (if a0_1 = a1_1 then (if (a0_2 != a1_2) = true then (some false) else ((laws_eqMat.f a0_3 a0_4 a0_5 a0_6 a0_7 a0_8 a1_3 a1_4 a1_5 a1_6 a1_7 a1_8).bind fun t269 => (if t269 = true then ((laws_eqPath.f k l0_9 l0_10 l1_9 l1_10).bind fun t270 => (if t270 = true then (if (a0_11 != a1_11) = true then (some false) else (if a0_12 = a1_12 then ((laws_eqIntS.f k l0_13 l1_13).bind fun t271 => (if t271 = true then ((laws_eqPaint.f a0_14 a0_15 a0_16 a0_17 a0_18 a0_19 a0_20 a0_21 a0_22 a0_23 a0_24 a0_25 a0_26 a1_14 a1_15 a1_16 a1_17 a1_18 a1_19 a1_20 a1_21 a1_22 a1_23 a1_24 a1_25 a1_26).bind fun t272 => (if t272 = true then (if a0_27 = a1_27 then (if a0_28 = a1_28 then ((laws_eqPath.f k l0_29 l0_30 l1_29 l1_30).bind fun t273 => (if t273 = true then (some true) else (some false))) else (some false)) else (some false)) else (some false))) else (some false))) else (some false))) else (some false))) else (some false)))) else (some false)) else (some false)) = some r := h
 clear h
 by_cases c3 : a0_0 = a1_0
 ·rw [if_pos c3] at H
  have c3b0 : (a0_0 == a1_0) = true := beq_iff_eq.mpr c3
  have c3b1 : (a0_0 != a1_0) = false := bne_eq_false_iff_eq.mpr c3
  clear c3
  by_cases c4 : a0_1 = a1_1
  ·rw [if_pos c4] at H
   have c4b0 : (a0_1 == a1_1) = true := beq_iff_eq.mpr c4
   have c4b1 : (a0_1 != a1_1) = false := bne_eq_false_iff_eq.mpr c4
   clear c4
   by_cases c5 : (a0_2 != a1_2) = true
   ·rw [if_pos c5] at H
    have c5b0 : (a0_2 != a1_2) = true := c5
    (try (have c5b1 : decide (a0_2 = a1_2) = false := by simpa using c5))
    (try (have c5b2 : (a0_2 == a1_2) = false := by simpa using c5))
    (try (have c5b3 : ¬ (a0_2 = a1_2) := by simpa using c5))
    clear c5
    obtain rfl := Option.some.inj H
    exact absurd hT Bool.false_ne_true
   ·rw [if_neg c5] at H
    have c5b0 : (a0_2 != a1_2) = false := by simpa using c5
    (try (have c5b1 : decide (a0_2 = a1_2) = true := by simpa using c5))
    (try (have c5b2 : (a0_2 == a1_2) = true := by simpa using c5))
    clear c5
    replace H := Option.bind_eq_some_iff.mp H
    obtain ⟨t269, A60, H⟩ := H
    try dsimp only at H
    have A6 := Aside0.mk A60
    clear A60
    by_cases c7 : t269 = true
    ·subst c7
     have H1 : ((laws_eqPath.f k l0_9 l0_10 l1_9 l1_10).bind fun t270 => (if t270 = true then (if (a0_11 != a1_11) = true then (some false) else (if a0_12 = a1_12 then ((laws_eqIntS.f k l0_13 l1_13).bind fun t271 => (if t271 = true then ((laws_eqPaint.f a0_14 a0_15 a0_16 a0_17 a0_18 a0_19 a0_20 a0_21 a0_22 a0_23 a0_24 a0_25 a0_26 a1_14 a1_15 a1_16 a1_17 a1_18 a1_19 a1_20 a1_21 a1_22 a1_23 a1_24 a1_25 a1_26).bind fun t272 => (if t272 = true then (if a0_27 = a1_27 then (if a0_28 = a1_28 then ((laws_eqPath.f k l0_29 l0_30 l1_29 l1_30).bind fun t273 => (if t273 = true then (some true) else (some false))) else (some false)) else (some false)) else (some false))) else (some false))) else (some false))) else (some false))) = some r := by rw [if_pos rfl] at H; exact H
     clear H; have H := H1; clear H1
     replace H := Option.bind_eq_some_iff.mp H
     obtain ⟨t270, A80, H⟩ := H
     try dsimp only at H
     have A8 := Aside0.mk A80
     clear A80
     by_cases c9 : t270 = true
     ·subst c9
      have H1 : (if (a0_11 != a1_11) = true then (some false) else (if a0_12 = a1_12 then ((laws_eqIntS.f k l0_13 l1_13).bind fun t271 => (if t271 = true then ((laws_eqPaint.f a0_14 a0_15 a0_16 a0_17 a0_18 a0_19 a0_20 a0_21 a0_22 a0_23 a0_24 a0_25 a0_26 a1_14 a1_15 a1_16 a1_17 a1_18 a1_19 a1_20 a1_21 a1_22 a1_23 a1_24 a1_25 a1_26).bind fun t272 => (if t272 = true then (if a0_27 = a1_27 then (if a0_28 = a1_28 then ((laws_eqPath.f k l0_29 l0_30 l1_29 l1_30).bind fun t273 => (if t273 = true then (some true) else (some false))) else (some false)) else (some false)) else (some false))) else (some false))) else (some false))) = some r := by rw [if_pos rfl] at H; exact H
      clear H; have H := H1; clear H1
      by_cases c10 : (a0_11 != a1_11) = true
      ·rw [if_pos c10] at H
       have c10b0 : (a0_11 != a1_11) = true := c10
       (try (have c10b1 : decide (a0_11 = a1_11) = false := by simpa using c10))
       (try (have c10b2 : (a0_11 == a1_11) = false := by simpa using c10))
       (try (have c10b3 : ¬ (a0_11 = a1_11) := by simpa using c10))
       clear c10
       obtain rfl := Option.some.inj H
       exact absurd hT Bool.false_ne_true
      ·rw [if_neg c10] at H
       have c10b0 : (a0_11 != a1_11) = false := by simpa using c10
       (try (have c10b1 : decide (a0_11 = a1_11) = true := by simpa using c10))
       (try (have c10b2 : (a0_11 == a1_11) = true := by simpa using c10))
       clear c10
       by_cases c11 : a0_12 = a1_12
       ·rw [if_pos c11] at H
        have c11b0 : (a0_12 == a1_12) = true := beq_iff_eq.mpr c11
        have c11b1 : (a0_12 != a1_12) = false := bne_eq_false_iff_eq.mpr c11
        clear c11
        replace H := Option.bind_eq_some_iff.mp H
        obtain ⟨t271, A120, H⟩ := H
        try dsimp only at H
        have A12 := Aside0.mk A120
        clear A120
        by_cases c13 : t271 = true
        ·subst c13
         have H1 : ((laws_eqPaint.f a0_14 a0_15 a0_16 a0_17 a0_18 a0_19 a0_20 a0_21 a0_22 a0_23 a0_24 a0_25 a0_26 a1_14 a1_15 a1_16 a1_17 a1_18 a1_19 a1_20 a1_21 a1_22 a1_23 a1_24 a1_25 a1_26).bind fun t272 => (if t272 = true then (if a0_27 = a1_27 then (if a0_28 = a1_28 then ((laws_eqPath.f k l0_29 l0_30 l1_29 l1_30).bind fun t273 => (if t273 = true then (some true) else (some false))) else (some false)) else (some false)) else (some false))) = some r := by rw [if_pos rfl] at H; exact H
         clear H; have H := H1; clear H1
         replace H := Option.bind_eq_some_iff.mp H
         obtain ⟨t272, A140, H⟩ := H
         try dsimp only at H
         have A14 := Aside0.mk A140
         clear A140
         by_cases c15 : t272 = true
         ·subst c15
          have H1 : (if a0_27 = a1_27 then (if a0_28 = a1_28 then ((laws_eqPath.f k l0_29 l0_30 l1_29 l1_30).bind fun t273 => (if t273 = true then (some true) else (some false))) else (some false)) else (some false)) = some r := by rw [if_pos rfl] at H; exact H
          clear H; have H := H1; clear H1
          by_cases c16 : a0_27 = a1_27
          ·rw [if_pos c16] at H
           have c16b0 : (a0_27 == a1_27) = true := beq_iff_eq.mpr c16
           have c16b1 : (a0_27 != a1_27) = false := bne_eq_false_iff_eq.mpr c16
           clear c16
           by_cases c17 : a0_28 = a1_28
           ·rw [if_pos c17] at H
            have c17b0 : (a0_28 == a1_28) = true := beq_iff_eq.mpr c17
            have c17b1 : (a0_28 != a1_28) = false := bne_eq_false_iff_eq.mpr c17
            clear c17
            replace H := Option.bind_eq_some_iff.mp H
            obtain ⟨t273, A180, H⟩ := H
            try dsimp only at H
            have A18 := Aside0.mk A180
            clear A180
            by_cases c19 : t273 = true
            ·subst c19
             have H1 : (some true) = some r := by rw [if_pos rfl] at H; exact H
             clear H; have H := H1; clear H1
             obtain rfl := Option.some.inj H
             simp only [Option.some.injEq, Prod.mk.injEq] at H
             obtain ⟨rfl⟩ := H
             go_enter Try.func23, Try.ntmps23
             go_wp2_with (first | ((with_reducible refine gate_dst (N := 2) rfl ?_); refine boxz (cs := #[.int .i64 a0_0, .int .i64 a0_1, .bool a0_2, .int .i64 a0_3, .int .i64 a0_4, .int .i64 a0_5, .int .i64 a0_6, .int .i64 a0_7, .int .i64 a0_8, .slice A0_9 l0_9.length c0_9, .slice A0_10 l0_10.length c0_10, .bool a0_11, .int .i64 a0_12, .slice A0_13 l0_13.length c0_13, .int .i64 a0_14, .int .i64 a0_15, .int .i64 a0_16, .int .i64 a0_17, .int .i64 a0_18, .int .i64 a0_19, .int .i64 a0_20, .int .i64 a0_21, .int .i64 a0_22, .int .i64 a0_23, .int .i64 a0_24, .int .i64 a0_25, .int .i64 a0_26, .int .i64 a0_27, .int .i64 a0_28, .slice A0_29 l0_29.length c0_29, .slice A0_30 l0_30.length c0_30]) (t := 56) rfl ?_; intro gb267 hg w20 hbox hb; have n0_ := Aside0.mk (below_step z7_3 hb); have n1_ := Aside0.mk (hbox); have n2_ := Aside0.mk (ge_go (a := w.heap.size) hg (below_size z7_3)); have n3_ := Aside0.mk (ge_go (a := w.heap.size) hg (below_size z7_3)); clear HB; have HB := n0_; have BK267 := n1_; have GW267 := n2_; have GE267 := n3_; clear n0_ n1_ n2_ n3_; clear hb hbox hg) | ((with_reducible refine gate_dst (N := 3) rfl ?_); refine boxz (cs := #[.int .i64 a1_0, .int .i64 a1_1, .bool a1_2, .int .i64 a1_3, .int .i64 a1_4, .int .i64 a1_5, .int .i64 a1_6, .int .i64 a1_7, .int .i64 a1_8, .slice A1_9 l1_9.length c1_9, .slice A1_10 l1_10.length c1_10, .bool a1_11, .int .i64 a1_12, .slice A1_13 l1_13.length c1_13, .int .i64 a1_14, .int .i64 a1_15, .int .i64 a1_16, .int .i64 a1_17, .int .i64 a1_18, .int .i64 a1_19, .int .i64 a1_20, .int .i64 a1_21, .int .i64 a1_22, .int .i64 a1_23, .int .i64 a1_24, .int .i64 a1_25, .int .i64 a1_26, .int .i64 a1_27, .int .i64 a1_28, .slice A1_29 l1_29.length c1_29, .slice A1_30 l1_30.length c1_30]) (t := 56) rfl ?_; intro gb268 hg w21 hbox hb; have n0_ := Aside0.mk (blk_belowB BK267 z7_9 hb); have n1_ := Aside0.mk (below_step z7_12 hb); have n2_ := Aside0.mk (hbox); have n3_ := Aside0.mk (ge_go (a := w.heap.size) hg (below_size z7_12)); have n4_ := Aside0.mk (ge_go (a := w.heap.size) hg (below_size z7_12)); have n5_ := Aside0.mk (nb_lt hg (blk_ltB BK267 z7_9)); have n6_ := Aside0.mk (nb_gt hg (blk_ltB BK267 z7_9)); clear BK267; clear HB; have BK267 := n0_; have HB := n1_; have BK268 := n2_; have GW268 := n3_; have GE268 := n4_; have NB267_268 := n5_; have NB268_267 := n6_; clear n0_ n1_ n2_ n3_ n4_ n5_ n6_; clear hb hbox hg; have hnb22 := NB267_268.out; have hnc22 := NB268_267.out; obtain ⟨_, _, _, _, _, _, _, _, _, _, _, _, _, _, _, _, _, _, _, _, _, _, _, _, _, _, _, _, _, _, _, _, _, _, _, _, _, _, _, _, _, _, _, _, _, _, _, _, _, _, _, _, _, _, _, _, _, _, _, _, _, _⟩ := be_31 BK267.out; obtain ⟨_, _, _, _, _, _, _, _, _, _, _, _, _, _, _, _, _, _, _, _, _, _, _, _, _, _, _, _, _, _, _, _, _, _, _, _, _, _, _, _, _, _, _, _, _, _, _, _, _, _, _, _, _, _, _, _, _, _, _, _, _, _⟩ := be_31 BK268.out) | ((with_reducible refine gate_callee (f := 79) rfl ?_); refine goesL_ (some 24) rfl rfl Try.func79 (by kernel_rfl) rfl #[.agg #[.int .i64 a0_3, .int .i64 a0_4, .int .i64 a0_5, .int .i64 a0_6, .int .i64 a0_7, .int .i64 a0_8], .agg #[.int .i64 a1_3, .int .i64 a1_4, .int .i64 a1_5, .int .i64 a1_6, .int .i64 a1_7, .int .i64 a1_8]] rfl z7_4 ?_; (with_reducible refine (laws_eqMat.calls a0_3 a0_4 a0_5 a0_6 a0_7 a0_8 a1_3 a1_4 a1_5 a1_6 a1_7 a1_8 true _ A6.out).mono ?_); rintro e w25 ⟨rfl, hb⟩; refine ⟨_, rfl, ?_⟩; have n0_ := Aside0.mk (blk_belowB BK267 z7_9 hb); have n1_ := Aside0.mk (blk_belowB BK268 z7_10 hb); have n2_ := Aside0.mk (below_step z7_7 hb); clear BK267; clear BK268; clear HB; have BK267 := n0_; have BK268 := n1_; have HB := n2_; clear n0_ n1_ n2_; (try clear hb); obtain ⟨_, _, _, _, _, _, _, _, _, _, _, _, _, _, _, _, _, _, _, _, _, _, _, _, _, _, _, _, _, _, _, _, _, _, _, _, _, _, _, _, _, _, _, _, _, _, _, _, _, _, _, _, _, _, _, _, _, _, _, _, _, _⟩ := be_31 BK267.out; obtain ⟨_, _, _, _, _, _, _, _, _, _, _, _, _, _, _, _, _, _, _, _, _, _, _, _, _, _, _, _, _, _, _, _, _, _, _, _, _, _, _, _, _, _, _, _, _, _, _, _, _, _, _, _, _, _, _, _, _, _, _, _, _, _⟩ := be_31 BK268.out) | ((with_reducible refine gate_callee (f := 15) rfl ?_); refine goesL_ (some 30) rfl rfl Try.func15 (by kernel_rfl) rfl #[.agg #[.slice A0_9 l0_9.length c0_9, .slice A0_10 l0_10.length c0_10], .agg #[.slice A1_9 l1_9.length c1_9, .slice A1_10 l1_10.length c1_10]] rfl z7_4 ?_; (with_reducible refine (laws_eqPath.calls k _ _ l0_9 _ _ l0_10 _ _ l1_9 _ _ l1_10 true _ ?side1 ?side2 ?side3 ?side4 ?side5 ?side6 ?side7 ?side8 A8.out).mono ?_); (case side1 => repeat (first | exact (Kd.C_below HR0_9.out HB.out) | (with_reducible refine Kd.C_alloc ?_ _) | (with_reducible refine Kd.C_drewN ?_ _) | (with_reducible refine Kd.C_drew ?_))); (case side2 => exact HC0_9.out); (case side3 => repeat (first | exact (Kd.C_below HR0_10.out HB.out) | (with_reducible refine Kd.C_alloc ?_ _) | (with_reducible refine Kd.C_drewN ?_ _) | (with_reducible refine Kd.C_drew ?_))); (case side4 => exact HC0_10.out); (case side5 => repeat (first | exact (Kd.C_below HR1_9.out HB.out) | (with_reducible refine Kd.C_alloc ?_ _) | (with_reducible refine Kd.C_drewN ?_ _) | (with_reducible refine Kd.C_drew ?_))); (case side6 => exact HC1_9.out); (case side7 => repeat (first | exact (Kd.C_below HR1_10.out HB.out) | (with_reducible refine Kd.C_alloc ?_ _) | (with_reducible refine Kd.C_drewN ?_ _) | (with_reducible refine Kd.C_drew ?_))); (case side8 => exact HC1_10.out); rintro e w28 ⟨rfl, hb⟩; refine ⟨_, rfl, ?_⟩; have n0_ := Aside0.mk (blk_belowB BK267 z7_9 hb); have n1_ := Aside0.mk (blk_belowB BK268 z7_10 hb); have n2_ := Aside0.mk (below_step z7_7 hb); clear BK267; clear BK268; clear HB; have BK267 := n0_; have BK268 := n1_; have HB := n2_; clear n0_ n1_ n2_; (try clear hb); obtain ⟨_, _, _, _, _, _, _, _, _, _, _, _, _, _, _, _, _, _, _, _, _, _, _, _, _, _, _, _, _, _, _, _, _, _, _, _, _, _, _, _, _, _, _, _, _, _, _, _, _, _, _, _, _, _, _, _, _, _, _, _, _, _⟩ := be_31 BK267.out; obtain ⟨_, _, _, _, _, _, _, _, _, _, _, _, _, _, _, _, _, _, _, _, _, _, _, _, _, _, _, _, _, _, _, _, _, _, _, _, _, _, _, _, _, _, _, _, _, _, _, _, _, _, _, _, _, _, _, _, _, _, _, _, _, _⟩ := be_31 BK268.out) | ((with_reducible refine gate_callee (f := 39) rfl ?_); refine goesL_ (some 46) rfl rfl Try.func39 (by kernel_rfl) rfl #[.slice A0_13 l0_13.length c0_13, .slice A1_13 l1_13.length c1_13] rfl z7_4 ?_; (with_reducible refine (laws_eqIntS.calls k _ _ l0_13 _ _ l1_13 true _ ?side1 ?side2 ?side3 ?side4 A12.out).mono ?_); (case side1 => repeat (first | exact (Kd.C_below HR0_13.out HB.out) | (with_reducible refine Kd.C_alloc ?_ _) | (with_reducible refine Kd.C_drewN ?_ _) | (with_reducible refine Kd.C_drew ?_))); (case side2 => exact HC0_13.out); (case side3 => repeat (first | exact (Kd.C_below HR1_13.out HB.out) | (with_reducible refine Kd.C_alloc ?_ _) | (with_reducible refine Kd.C_drewN ?_ _) | (with_reducible refine Kd.C_drew ?_))); (case side4 => exact HC1_13.out); rintro e w' ⟨rfl, ⟨nd, rfl⟩⟩; refine ⟨_, rfl, ?_⟩) | ((with_reducible refine gate_callee (f := 80) rfl ?_); refine goesL_ (some 52) rfl rfl Try.func80 (by kernel_rfl) rfl #[.agg #[.int .i64 a0_14, .int .i64 a0_15, .int .i64 a0_16, .int .i64 a0_17, .int .i64 a0_18, .int .i64 a0_19, .int .i64 a0_20, .int .i64 a0_21, .int .i64 a0_22, .int .i64 a0_23, .int .i64 a0_24, .int .i64 a0_25, .int .i64 a0_26], .agg #[.int .i64 a1_14, .int .i64 a1_15, .int .i64 a1_16, .int .i64 a1_17, .int .i64 a1_18, .int .i64 a1_19, .int .i64 a1_20, .int .i64 a1_21, .int .i64 a1_22, .int .i64 a1_23, .int .i64 a1_24, .int .i64 a1_25, .int .i64 a1_26]] rfl z7_4 ?_; (with_reducible refine (laws_eqPaint.calls a0_14 a0_15 a0_16 a0_17 a0_18 a0_19 a0_20 a0_21 a0_22 a0_23 a0_24 a0_25 a0_26 a1_14 a1_15 a1_16 a1_17 a1_18 a1_19 a1_20 a1_21 a1_22 a1_23 a1_24 a1_25 a1_26 true _ A14.out).mono ?_); rintro e w31 ⟨rfl, hb⟩; refine ⟨_, rfl, ?_⟩; have n0_ := Aside0.mk (blk_belowB BK267 z7_9 hb); have n1_ := Aside0.mk (blk_belowB BK268 z7_10 hb); have n2_ := Aside0.mk (below_step z7_7 hb); clear BK267; clear BK268; clear HB; have BK267 := n0_; have BK268 := n1_; have HB := n2_; clear n0_ n1_ n2_; (try clear hb); obtain ⟨_, _, _, _, _, _, _, _, _, _, _, _, _, _, _, _, _, _, _, _, _, _, _, _, _, _, _, _, _, _, _, _, _, _, _, _, _, _, _, _, _, _, _, _, _, _, _, _, _, _, _, _, _, _, _, _, _, _, _, _, _, _⟩ := be_31 BK267.out; obtain ⟨_, _, _, _, _, _, _, _, _, _, _, _, _, _, _, _, _, _, _, _, _, _, _, _, _, _, _, _, _, _, _, _, _, _, _, _, _, _, _, _, _, _, _, _, _, _, _, _, _, _, _, _, _, _, _, _, _, _, _, _, _, _⟩ := be_31 BK268.out) | ((with_reducible refine gate_callee (f := 15) rfl ?_); refine goesL_ (some 68) rfl rfl Try.func15 (by kernel_rfl) rfl #[.agg #[.slice A0_29 l0_29.length c0_29, .slice A0_30 l0_30.length c0_30], .agg #[.slice A1_29 l1_29.length c1_29, .slice A1_30 l1_30.length c1_30]] rfl z7_4 ?_; (with_reducible refine (laws_eqPath.calls k _ _ l0_29 _ _ l0_30 _ _ l1_29 _ _ l1_30 true _ ?side1 ?side2 ?side3 ?side4 ?side5 ?side6 ?side7 ?side8 A18.out).mono ?_); (case side1 => repeat (first | exact (Kd.C_below HR0_29.out HB.out) | (with_reducible refine Kd.C_alloc ?_ _) | (with_reducible refine Kd.C_drewN ?_ _) | (with_reducible refine Kd.C_drew ?_))); (case side2 => exact HC0_29.out); (case side3 => repeat (first | exact (Kd.C_below HR0_30.out HB.out) | (with_reducible refine Kd.C_alloc ?_ _) | (with_reducible refine Kd.C_drewN ?_ _) | (with_reducible refine Kd.C_drew ?_))); (case side4 => exact HC0_30.out); (case side5 => repeat (first | exact (Kd.C_below HR1_29.out HB.out) | (with_reducible refine Kd.C_alloc ?_ _) | (with_reducible refine Kd.C_drewN ?_ _) | (with_reducible refine Kd.C_drew ?_))); (case side6 => exact HC1_29.out); (case side7 => repeat (first | exact (Kd.C_below HR1_30.out HB.out) | (with_reducible refine Kd.C_alloc ?_ _) | (with_reducible refine Kd.C_drewN ?_ _) | (with_reducible refine Kd.C_drew ?_))); (case side8 => exact HC1_30.out); rintro e w34 ⟨rfl, hb⟩; refine ⟨_, rfl, ?_⟩; have n0_ := Aside0.mk (blk_belowB BK267 z7_9 hb); have n1_ := Aside0.mk (blk_belowB BK268 z7_10 hb); have n2_ := Aside0.mk (below_step z7_7 hb); clear BK267; clear BK268; clear HB; have BK267 := n0_; have BK268 := n1_; have HB := n2_; clear n0_ n1_ n2_; (try clear hb)))
             go_ret
             exact ⟨z7_8, z7_7⟩
            ·replace c19 := Bool.eq_false_iff.mpr c19
             subst c19
             have H1 : (some false) = some r := by rw [if_neg (show ¬ (false = true) by decide)] at H; exact H
             clear H; have H := H1; clear H1
             obtain rfl := Option.some.inj H
             exact absurd hT Bool.false_ne_true
           ·rw [if_neg c17] at H
            have c17b0 : (a0_28 == a1_28) = false := beq_eq_false_iff_ne.mpr c17
            have c17b1 : (a0_28 != a1_28) = true := bne_iff_ne.mpr c17
            obtain rfl := Option.some.inj H
            exact absurd hT Bool.false_ne_true
          ·rw [if_neg c16] at H
           have c16b0 : (a0_27 == a1_27) = false := beq_eq_false_iff_ne.mpr c16
           have c16b1 : (a0_27 != a1_27) = true := bne_iff_ne.mpr c16
           obtain rfl := Option.some.inj H
           exact absurd hT Bool.false_ne_true
         ·replace c15 := Bool.eq_false_iff.mpr c15
          subst c15
          have H1 : (some false) = some r := by rw [if_neg (show ¬ (false = true) by decide)] at H; exact H
          clear H; have H := H1; clear H1
          obtain rfl := Option.some.inj H
          exact absurd hT Bool.false_ne_true
        ·replace c13 := Bool.eq_false_iff.mpr c13
         subst c13
         have H1 : (some false) = some r := by rw [if_neg (show ¬ (false = true) by decide)] at H; exact H
         clear H; have H := H1; clear H1
         obtain rfl := Option.some.inj H
         exact absurd hT Bool.false_ne_true
       ·rw [if_neg c11] at H
        have c11b0 : (a0_12 == a1_12) = false := beq_eq_false_iff_ne.mpr c11
        have c11b1 : (a0_12 != a1_12) = true := bne_iff_ne.mpr c11
        obtain rfl := Option.some.inj H
        exact absurd hT Bool.false_ne_true
     ·replace c9 := Bool.eq_false_iff.mpr c9
      subst c9
      have H1 : (some false) = some r := by rw [if_neg (show ¬ (false = true) by decide)] at H; exact H
      clear H; have H := H1; clear H1
      obtain rfl := Option.some.inj H
      exact absurd hT Bool.false_ne_true
    ·replace c7 := Bool.eq_false_iff.mpr c7
     subst c7
     have H1 : (some false) = some r := by rw [if_neg (show ¬ (false = true) by decide)] at H; exact H
     clear H; have H := H1; clear H1
     obtain rfl := Option.some.inj H
     exact absurd hT Bool.false_ne_true
  ·rw [if_neg c4] at H
   have c4b0 : (a0_1 == a1_1) = false := beq_eq_false_iff_ne.mpr c4
   have c4b1 : (a0_1 != a1_1) = true := bne_iff_ne.mpr c4
   obtain rfl := Option.some.inj H
   exact absurd hT Bool.false_ne_true
 ·rw [if_neg c3] at H
  have c3b0 : (a0_0 == a1_0) = false := beq_eq_false_iff_ne.mpr c3
  have c3b1 : (a0_0 != a1_0) = true := bne_iff_ne.mpr c3
  obtain rfl := Option.some.inj H
  exact absurd hT Bool.false_ne_true

/-! ### laws_eqNodeS: function 108 -/
def laws_eqNodeS.l0 : Nat → List (S56) → List (S56) → Int → Option (Bool)
 | 0, _, _, _ => none
 | k + 1, x0, x1, x5 => if x5 < (x0.length : Int) then (if 0 ≤ x5 then (if x5 < (x1.length : Int) then ((laws_eqNode.f k ((rd_T56 x0 x5).f0) ((rd_T56 x0 x5).f1) ((rd_T56 x0 x5).f2) ((rd_T56 x0 x5).f3.f0) ((rd_T56 x0 x5).f3.f1) ((rd_T56 x0 x5).f3.f2) ((rd_T56 x0 x5).f3.f3) ((rd_T56 x0 x5).f3.f4) ((rd_T56 x0 x5).f3.f5) ((rd_T56 x0 x5).f4.f0) ((rd_T56 x0 x5).f4.f1) ((rd_T56 x0 x5).f5) ((rd_T56 x0 x5).f6) ((rd_T56 x0 x5).f7) ((rd_T56 x0 x5).f8.f0) ((rd_T56 x0 x5).f8.f1.f0) ((rd_T56 x0 x5).f8.f1.f1) ((rd_T56 x0 x5).f8.f1.f2) ((rd_T56 x0 x5).f8.f1.f3) ((rd_T56 x0 x5).f8.f2.f0) ((rd_T56 x0 x5).f8.f2.f1) ((rd_T56 x0 x5).f8.f2.f2) ((rd_T56 x0 x5).f8.f2.f3) ((rd_T56 x0 x5).f8.f3.f0) ((rd_T56 x0 x5).f8.f3.f1) ((rd_T56 x0 x5).f8.f4.f0) ((rd_T56 x0 x5).f8.f4.f1) ((rd_T56 x0 x5).f9) ((rd_T56 x0 x5).f10) ((rd_T56 x0 x5).f11.f0) ((rd_T56 x0 x5).f11.f1) ((rd_T56 x1 x5).f0) ((rd_T56 x1 x5).f1) ((rd_T56 x1 x5).f2) ((rd_T56 x1 x5).f3.f0) ((rd_T56 x1 x5).f3.f1) ((rd_T56 x1 x5).f3.f2) ((rd_T56 x1 x5).f3.f3) ((rd_T56 x1 x5).f3.f4) ((rd_T56 x1 x5).f3.f5) ((rd_T56 x1 x5).f4.f0) ((rd_T56 x1 x5).f4.f1) ((rd_T56 x1 x5).f5) ((rd_T56 x1 x5).f6) ((rd_T56 x1 x5).f7) ((rd_T56 x1 x5).f8.f0) ((rd_T56 x1 x5).f8.f1.f0) ((rd_T56 x1 x5).f8.f1.f1) ((rd_T56 x1 x5).f8.f1.f2) ((rd_T56 x1 x5).f8.f1.f3) ((rd_T56 x1 x5).f8.f2.f0) ((rd_T56 x1 x5).f8.f2.f1) ((rd_T56 x1 x5).f8.f2.f2) ((rd_T56 x1 x5).f8.f2.f3) ((rd_T56 x1 x5).f8.f3.f0) ((rd_T56 x1 x5).f8.f3.f1) ((rd_T56 x1 x5).f8.f4.f0) ((rd_T56 x1 x5).f8.f4.f1) ((rd_T56 x1 x5).f9) ((rd_T56 x1 x5).f10) ((rd_T56 x1 x5).f11.f0) ((rd_T56 x1 x5).f11.f1)).bind fun t276 => (if t276 = true then (laws_eqNodeS.l0 k x0 x1 (wrap64 (x5 + 1))) else (some false))) else (none)) else (none)) else (some true)
def laws_eqNodeS.f (k : Nat) (l0 : List (S56)) (l1 : List (S56)) : Option (Bool) := if (l0.length : Int) = (l1.length : Int) then (laws_eqNodeS.l0 k l0 l1 0) else (some false)
theorem laws_eqNodeS.mono_l : ∀ k, (∀ y0 y1 y2, LeO (laws_eqNodeS.l0 k y0 y1 y2) (laws_eqNodeS.l0 (k + 1) y0 y1 y2))
 | 0 => fun _ _ _ r h => by simp [laws_eqNodeS.l0] at h
 | k + 1 => by
  have ih0 := laws_eqNodeS.mono_l k
  ·intro y0 y1 y2
   unfold laws_eqNodeS.l0
   repeat' first
   | (with_reducible exact ih0 _ _ _)
   | (with_reducible exact laws_eqNode.mono _ _ _ _ _ _ _ _ _ _ _ _ _ _ _ _ _ _ _ _ _ _ _ _ _ _ _ _ _ _ _ _ _ _ _ _ _ _ _ _ _ _ _ _ _ _ _ _ _ _ _ _ _ _ _ _ _ _ _ _ _ _ _)
   | (with_reducible exact LeO.refl _)
   | (with_reducible exact LeO.none _)
   | (with_reducible refine LeO.ite ?_ ?_)
   | (with_reducible refine LeO.bind ?_ (fun _ => ?_))
   | exact ih0 _ _ _
   | exact laws_eqNode.mono _ _ _ _ _ _ _ _ _ _ _ _ _ _ _ _ _ _ _ _ _ _ _ _ _ _ _ _ _ _ _ _ _ _ _ _ _ _ _ _ _ _ _ _ _ _ _ _ _ _ _ _ _ _ _ _ _ _ _ _ _ _ _
   | exact LeO.none _
   | refine LeO.ite ?_ ?_
   | refine LeO.bind ?_ (fun _ => ?_)
theorem laws_eqNodeS.mono : ∀ a0 a1 k, LeO (laws_eqNodeS.f k a0 a1) (laws_eqNodeS.f (k + 1) a0 a1) := by
 intro a0 a1 k
 have ih0 := laws_eqNodeS.mono_l k
 unfold laws_eqNodeS.f
 repeat' first
   | (with_reducible exact ih0 _ _ _)
   | (with_reducible exact laws_eqNode.mono _ _ _ _ _ _ _ _ _ _ _ _ _ _ _ _ _ _ _ _ _ _ _ _ _ _ _ _ _ _ _ _ _ _ _ _ _ _ _ _ _ _ _ _ _ _ _ _ _ _ _ _ _ _ _ _ _ _ _ _ _ _ _)
   | (with_reducible exact LeO.refl _)
   | (with_reducible exact LeO.none _)
   | (with_reducible refine LeO.ite ?_ ?_)
   | (with_reducible refine LeO.bind ?_ (fun _ => ?_))
   | exact ih0 _ _ _
   | exact laws_eqNode.mono _ _ _ _ _ _ _ _ _ _ _ _ _ _ _ _ _ _ _ _ _ _ _ _ _ _ _ _ _ _ _ _ _ _ _ _ _ _ _ _ _ _ _ _ _ _ _ _ _ _ _ _ _ _ _ _ _ _ _ _ _ _ _
   | exact LeO.none _
   | refine LeO.ite ?_ ?_
   | refine LeO.bind ?_ (fun _ => ?_)
def laws_eqNodeS.T6 : Bool × List (List Nat × List Nat) := (true, [([], []), ([], []), ([0, 1], [0, 1]), ([2], [2]), ([], []), ([], []), ([4, 5], [4, 5]), ([6], [6]), ([3, 7], [3, 7]), ([8], [8])])
def laws_eqNodeS.B6 : List Nat := [0, 0, 3, 7, 0, 0, 48, 112, 255, 511]
theorem laws_eqNodeS.tab6 : rtab .any (opsOf Try.f108 6) = laws_eqNodeS.T6 := by kernel_rfl
theorem laws_eqNodeS.bits6 : waitsOk laws_eqNodeS.T6.2 laws_eqNodeS.B6 = true := by kernel_rfl
set_option maxHeartbeats 8000000 in
set_option maxRecDepth 100000 in
theorem laws_eqNodeS.calls (k : Nat) (A0 : Option Addr) (c0 : Nat) (l0 : List (S56)) (A1 : Option Addr) (c1 : Nat) (l1 : List (S56)) (r : Bool) (w : World) (hr0 : Kd.C k56 w A0 l0.length l0) (hc0 : l0.length ≤ c0) (hr1 : Kd.C k56 w A1 l1.length l1) (hc1 : l1.length ≤ c1) (hT : r = true) (h : laws_eqNodeS.f k l0 l1 = some r) :
  Calls Try.prog 108 #[.slice A0 l0.length c0, .slice A1 l1.length c1] w fun e w' => e = .returned (.bool r) ∧ Below w.heap.size w w' := by
 have hu56 := Try.underlying56
 have HR0 := Aside0.mk hr0
 have HC0 := Aside0.mk hc0
 clear hr0 hc0
 have HR1 := Aside0.mk hr1
 have HC1 := Aside0.mk hc1
 clear hr1 hc1
 have HB := Aside0.mk (Below.refl w.heap.size w)
 have H : (if (l0.length : Int) = (l1.length : Int) then (laws_eqNodeS.l0 k l0 l1 0) else (some false)) = some r := h
 clear h
 by_cases c3 : (l0.length : Int) = (l1.length : Int)
 ·rw [if_pos c3] at H
  have c3b0 : ((l0.length : Int) == (l1.length : Int)) = true := beq_iff_eq.mpr c3
  have c3b1 : ((l0.length : Int) != (l1.length : Int)) = false := bne_eq_false_iff_eq.mpr c3
  have c3b2 : (l0.length == l1.length) = true := by first | simpa using c3 | (simp at c3 ⊢; omega)
  clear c3
  have H' := Aside0.mk H
  clear H
  go_enter Try.func108, Try.ntmps108
  go_wp2
  go_loopg [5] k (fun kq v5 w' => ∃ (x5_1 : Int), v5 = .int .i64 x5_1 ∧ Aside0 (laws_eqNodeS.l0 kq l0 l1 x5_1 = some r) ∧ Aside0 (kq ≤ k) ∧ Aside0 (Below w.heap.size w w'))
  case atStart => exact ⟨(0), (by first | rfl | (simp; done) | (simp [*]; done)), H', ⟨Nat.le_refl _⟩, ⟨z7_3⟩⟩
  case round =>
   clear H'
   try clear c1
   try clear p2
   try clear c3
   try clear c3b0
   try clear c3b1
   try clear c3b2
   obtain ⟨x5_1, rfl, HA, HK1, HB⟩ := hrel
   cases gk with
   | zero => exact absurd HA.out (by simp [laws_eqNodeS.l0])
   | succ k1 =>
    have H := HA.out; clear HA
    simp only [laws_eqNodeS.l0] at H
    by_cases c4 : x5_1 < (l0.length : Int)
    ·rw [if_pos c4] at H
     have c4b0 : decide (x5_1 < (l0.length : Int)) = true := decide_eq_true c4
     clear c4
     by_cases c5 : 0 ≤ x5_1
     ·rw [if_pos c5] at H
      have c5b0 : decide (0 ≤ x5_1) = true := decide_eq_true c5
      clear c5
      by_cases c6 : x5_1 < (l1.length : Int)
      ·rw [if_pos c6] at H
       have c6b0 : decide (x5_1 < (l1.length : Int)) = true := decide_eq_true c6
       clear c6
       replace H := Option.bind_eq_some_iff.mp H
       obtain ⟨t276, A70, H⟩ := H
       try dsimp only at H
       have A7 := Aside0.mk A70
       clear A70
       by_cases c8 : t276 = true
       ·subst c8
        have H1 : (laws_eqNodeS.l0 k1 l0 l1 (wrap64 (x5_1 + 1))) = some r := by rw [if_pos rfl] at H; exact H
        clear H; have H := H1; clear H1
        have H' := Aside0.mk H
        clear H
        try go_wp2
        have n0_ := Aside0.mk (below_drew1 HB.out)
        clear HB; have HB := n0_; clear n0_
        have p274 : 0 ≤ (x5_1 : Int) := of_decide_eq_true (by first | (with_reducible assumption) | assumption)
        have q274 : x5_1 < (l0.length : Int) := of_decide_eq_true (by first | (with_reducible assumption) | assumption)
        obtain ⟨ad274, A274_9, c274_9, A274_10, c274_10, A274_13, c274_13, A274_29, c274_29, A274_30, c274_30, e274, hx274_0, hx274_1, hx274_2, hx274_3, hx274_4, hx274_5, hx274_6, hx274_7, hx274_8, hx274_9, hx274_10, hx274_11, hx274_12, hx274_13, hx274_14, hx274_15, hx274_16, hx274_17, hx274_18, hx274_19, hx274_20, hx274_21, hx274_22, hx274_23, hx274_24, hx274_25, hx274_26, hx274_27, hx274_28, hx274_29, hx274_30, hl274_9, hi274_9, hl274_10, hi274_10, hl274_13, hi274_13, hl274_29, hi274_29, hl274_30, hi274_30⟩ := at_T56 HR0.out x5_1 p274 q274
        have hM274 := lie_zero hx274_0 (lie_n hx274_1 (lie_n hx274_2 (lie_n hx274_3 (lie_n hx274_4 (lie_n hx274_5 (lie_n hx274_6 (lie_n hx274_7 (lie_n hx274_8 (lie_n hx274_9 (lie_n hx274_10 (lie_n hx274_11 (lie_n hx274_12 (lie_n hx274_13 (lie_n hx274_14 (lie_n hx274_15 (lie_n hx274_16 (lie_n hx274_17 (lie_n hx274_18 (lie_n hx274_19 (lie_n hx274_20 (lie_n hx274_21 (lie_n hx274_22 (lie_n hx274_23 (lie_n hx274_24 (lie_n hx274_25 (lie_n hx274_26 (lie_n hx274_27 (lie_n hx274_28 (lie_n hx274_29 (lie_n hx274_30 (lie_nil _ _ _)))))))))))))))))))))))))))))))
        have hw274_30 := hx274_30; have hw274_29 := hx274_29; have hw274_28 := hx274_28; have hw274_27 := hx274_27; have hw274_26 := hx274_26; have hw274_25 := hx274_25; have hw274_24 := hx274_24; have hw274_23 := hx274_23; have hw274_22 := hx274_22; have hw274_21 := hx274_21; have hw274_20 := hx274_20; have hw274_19 := hx274_19; have hw274_18 := hx274_18; have hw274_17 := hx274_17; have hw274_16 := hx274_16; have hw274_15 := hx274_15; have hw274_14 := hx274_14; have hw274_13 := hx274_13; have hw274_12 := hx274_12; have hw274_11 := hx274_11; have hw274_10 := hx274_10; have hw274_9 := hx274_9; have hw274_8 := hx274_8; have hw274_7 := hx274_7; have hw274_6 := hx274_6; have hw274_5 := hx274_5; have hw274_4 := hx274_4; have hw274_3 := hx274_3; have hw274_2 := hx274_2; have hw274_1 := hx274_1; have hw274_0 := hx274_0
        cases e274
        replace hx274_0 := cell_go HB hx274_0
        replace hx274_1 := cell_go HB hx274_1
        replace hx274_2 := cell_go HB hx274_2
        replace hx274_3 := cell_go HB hx274_3
        replace hx274_4 := cell_go HB hx274_4
        replace hx274_5 := cell_go HB hx274_5
        replace hx274_6 := cell_go HB hx274_6
        replace hx274_7 := cell_go HB hx274_7
        replace hx274_8 := cell_go HB hx274_8
        replace hx274_9 := cell_go HB hx274_9
        replace hx274_10 := cell_go HB hx274_10
        replace hx274_11 := cell_go HB hx274_11
        replace hx274_12 := cell_go HB hx274_12
        replace hx274_13 := cell_go HB hx274_13
        replace hx274_14 := cell_go HB hx274_14
        replace hx274_15 := cell_go HB hx274_15
        replace hx274_16 := cell_go HB hx274_16
        replace hx274_17 := cell_go HB hx274_17
        replace hx274_18 := cell_go HB hx274_18
        replace hx274_19 := cell_go HB hx274_19
        replace hx274_20 := cell_go HB hx274_20
        replace hx274_21 := cell_go HB hx274_21
        replace hx274_22 := cell_go HB hx274_22
        replace hx274_23 := cell_go HB hx274_23
        replace hx274_24 := cell_go HB hx274_24
        replace hx274_25 := cell_go HB hx274_25
        replace hx274_26 := cell_go HB hx274_26
        replace hx274_27 := cell_go HB hx274_27
        replace hx274_28 := cell_go HB hx274_28
        replace hx274_29 := cell_go HB hx274_29
        replace hx274_30 := cell_go HB hx274_30
        have HR274_9 := Aside0.mk hi274_9
        have HC274_9 := Aside0.mk hl274_9
        clear hi274_9 hl274_9
        have HR274_10 := Aside0.mk hi274_10
        have HC274_10 := Aside0.mk hl274_10
        clear hi274_10 hl274_10
        have HR274_13 := Aside0.mk hi274_13
        have HC274_13 := Aside0.mk hl274_13
        clear hi274_13 hl274_13
        have HR274_29 := Aside0.mk hi274_29
        have HC274_29 := Aside0.mk hl274_29
        clear hi274_29 hl274_29
        have HR274_30 := Aside0.mk hi274_30
        have HC274_30 := Aside0.mk hl274_30
        clear hi274_30 hl274_30
        replace p274 := eq_true p274
        replace q274 := eq_true q274
        have p275 : 0 ≤ (x5_1 : Int) := of_decide_eq_true (by first | (with_reducible assumption) | assumption)
        have q275 : x5_1 < (l1.length : Int) := of_decide_eq_true (by first | (with_reducible assumption) | assumption)
        obtain ⟨ad275, A275_9, c275_9, A275_10, c275_10, A275_13, c275_13, A275_29, c275_29, A275_30, c275_30, e275, hx275_0, hx275_1, hx275_2, hx275_3, hx275_4, hx275_5, hx275_6, hx275_7, hx275_8, hx275_9, hx275_10, hx275_11, hx275_12, hx275_13, hx275_14, hx275_15, hx275_16, hx275_17, hx275_18, hx275_19, hx275_20, hx275_21, hx275_22, hx275_23, hx275_24, hx275_25, hx275_26, hx275_27, hx275_28, hx275_29, hx275_30, hl275_9, hi275_9, hl275_10, hi275_10, hl275_13, hi275_13, hl275_29, hi275_29, hl275_30, hi275_30⟩ := at_T56 HR1.out x5_1 p275 q275
        have hM275 := lie_zero hx275_0 (lie_n hx275_1 (lie_n hx275_2 (lie_n hx275_3 (lie_n hx275_4 (lie_n hx275_5 (lie_n hx275_6 (lie_n hx275_7 (lie_n hx275_8 (lie_n hx275_9 (lie_n hx275_10 (lie_n hx275_11 (lie_n hx275_12 (lie_n hx275_13 (lie_n hx275_14 (lie_n hx275_15 (lie_n hx275_16 (lie_n hx275_17 (lie_n hx275_18 (lie_n hx275_19 (lie_n hx275_20 (lie_n hx275_21 (lie_n hx275_22 (lie_n hx275_23 (lie_n hx275_24 (lie_n hx275_25 (lie_n hx275_26 (lie_n hx275_27 (lie_n hx275_28 (lie_n hx275_29 (lie_n hx275_30 (lie_nil _ _ _)))))))))))))))))))))))))))))))
        have hw275_30 := hx275_30; have hw275_29 := hx275_29; have hw275_28 := hx275_28; have hw275_27 := hx275_27; have hw275_26 := hx275_26; have hw275_25 := hx275_25; have hw275_24 := hx275_24; have hw275_23 := hx275_23; have hw275_22 := hx275_22; have hw275_21 := hx275_21; have hw275_20 := hx275_20; have hw275_19 := hx275_19; have hw275_18 := hx275_18; have hw275_17 := hx275_17; have hw275_16 := hx275_16; have hw275_15 := hx275_15; have hw275_14 := hx275_14; have hw275_13 := hx275_13; have hw275_12 := hx275_12; have hw275_11 := hx275_11; have hw275_10 := hx275_10; have hw275_9 := hx275_9; have hw275_8 := hx275_8; have hw275_7 := hx275_7; have hw275_6 := hx275_6; have hw275_5 := hx275_5; have hw275_4 := hx275_4; have hw275_3 := hx275_3; have hw275_2 := hx275_2; have hw275_1 := hx275_1; have hw275_0 := hx275_0
        cases e275
        replace hx275_0 := cell_go HB hx275_0
        replace hx275_1 := cell_go HB hx275_1
        replace hx275_2 := cell_go HB hx275_2
        replace hx275_3 := cell_go HB hx275_3
        replace hx275_4 := cell_go HB hx275_4
        replace hx275_5 := cell_go HB hx275_5
        replace hx275_6 := cell_go HB hx275_6
        replace hx275_7 := cell_go HB hx275_7
        replace hx275_8 := cell_go HB hx275_8
        replace hx275_9 := cell_go HB hx275_9
        replace hx275_10 := cell_go HB hx275_10
        replace hx275_11 := cell_go HB hx275_11
        replace hx275_12 := cell_go HB hx275_12
        replace hx275_13 := cell_go HB hx275_13
        replace hx275_14 := cell_go HB hx275_14
        replace hx275_15 := cell_go HB hx275_15
        replace hx275_16 := cell_go HB hx275_16
        replace hx275_17 := cell_go HB hx275_17
        replace hx275_18 := cell_go HB hx275_18
        replace hx275_19 := cell_go HB hx275_19
        replace hx275_20 := cell_go HB hx275_20
        replace hx275_21 := cell_go HB hx275_21
        replace hx275_22 := cell_go HB hx275_22
        replace hx275_23 := cell_go HB hx275_23
        replace hx275_24 := cell_go HB hx275_24
        replace hx275_25 := cell_go HB hx275_25
        replace hx275_26 := cell_go HB hx275_26
        replace hx275_27 := cell_go HB hx275_27
        replace hx275_28 := cell_go HB hx275_28
        replace hx275_29 := cell_go HB hx275_29
        replace hx275_30 := cell_go HB hx275_30
        have HR275_9 := Aside0.mk hi275_9
        have HC275_9 := Aside0.mk hl275_9
        clear hi275_9 hl275_9
        have HR275_10 := Aside0.mk hi275_10
        have HC275_10 := Aside0.mk hl275_10
        clear hi275_10 hl275_10
        have HR275_13 := Aside0.mk hi275_13
        have HC275_13 := Aside0.mk hl275_13
        clear hi275_13 hl275_13
        have HR275_29 := Aside0.mk hi275_29
        have HC275_29 := Aside0.mk hl275_29
        clear hi275_29 hl275_29
        have HR275_30 := Aside0.mk hi275_30
        have HC275_30 := Aside0.mk hl275_30
        clear hi275_30 hl275_30
        replace p275 := eq_true p275
        replace q275 := eq_true q275
        refine start_ (n := 10) (S := fun w' => Lie w' (ad274.add ((x5_1).toNat * 31)) 0 [.int .i64 ((rd_T56 l0 x5_1).f0), .int .i64 ((rd_T56 l0 x5_1).f1), .bool ((rd_T56 l0 x5_1).f2), .int .i64 ((rd_T56 l0 x5_1).f3.f0), .int .i64 ((rd_T56 l0 x5_1).f3.f1), .int .i64 ((rd_T56 l0 x5_1).f3.f2), .int .i64 ((rd_T56 l0 x5_1).f3.f3), .int .i64 ((rd_T56 l0 x5_1).f3.f4), .int .i64 ((rd_T56 l0 x5_1).f3.f5), .slice A274_9 ((rd_T56 l0 x5_1).f4.f0).length c274_9, .slice A274_10 ((rd_T56 l0 x5_1).f4.f1).length c274_10, .bool ((rd_T56 l0 x5_1).f5), .int .i64 ((rd_T56 l0 x5_1).f6), .slice A274_13 ((rd_T56 l0 x5_1).f7).length c274_13, .int .i64 ((rd_T56 l0 x5_1).f8.f0), .int .i64 ((rd_T56 l0 x5_1).f8.f1.f0), .int .i64 ((rd_T56 l0 x5_1).f8.f1.f1), .int .i64 ((rd_T56 l0 x5_1).f8.f1.f2), .int .i64 ((rd_T56 l0 x5_1).f8.f1.f3), .int .i64 ((rd_T56 l0 x5_1).f8.f2.f0), .int .i64 ((rd_T56 l0 x5_1).f8.f2.f1), .int .i64 ((rd_T56 l0 x5_1).f8.f2.f2), .int .i64 ((rd_T56 l0 x5_1).f8.f2.f3), .int .i64 ((rd_T56 l0 x5_1).f8.f3.f0), .int .i64 ((rd_T56 l0 x5_1).f8.f3.f1), .int .i64 ((rd_T56 l0 x5_1).f8.f4.f0), .int .i64 ((rd_T56 l0 x5_1).f8.f4.f1), .int .i64 ((rd_T56 l0 x5_1).f9), .int .i64 ((rd_T56 l0 x5_1).f10), .slice A274_29 ((rd_T56 l0 x5_1).f11.f0).length c274_29, .slice A274_30 ((rd_T56 l0 x5_1).f11.f1).length c274_30] ∧ Lie w' (ad275.add ((x5_1).toNat * 31)) 0 [.int .i64 ((rd_T56 l1 x5_1).f0), .int .i64 ((rd_T56 l1 x5_1).f1), .bool ((rd_T56 l1 x5_1).f2), .int .i64 ((rd_T56 l1 x5_1).f3.f0), .int .i64 ((rd_T56 l1 x5_1).f3.f1), .int .i64 ((rd_T56 l1 x5_1).f3.f2), .int .i64 ((rd_T56 l1 x5_1).f3.f3), .int .i64 ((rd_T56 l1 x5_1).f3.f4), .int .i64 ((rd_T56 l1 x5_1).f3.f5), .slice A275_9 ((rd_T56 l1 x5_1).f4.f0).length c275_9, .slice A275_10 ((rd_T56 l1 x5_1).f4.f1).length c275_10, .bool ((rd_T56 l1 x5_1).f5), .int .i64 ((rd_T56 l1 x5_1).f6), .slice A275_13 ((rd_T56 l1 x5_1).f7).length c275_13, .int .i64 ((rd_T56 l1 x5_1).f8.f0), .int .i64 ((rd_T56 l1 x5_1).f8.f1.f0), .int .i64 ((rd_T56 l1 x5_1).f8.f1.f1), .int .i64 ((rd_T56 l1 x5_1).f8.f1.f2), .int .i64 ((rd_T56 l1 x5_1).f8.f1.f3), .int .i64 ((rd_T56 l1 x5_1).f8.f2.f0), .int .i64 ((rd_T56 l1 x5_1).f8.f2.f1), .int .i64 ((rd_T56 l1 x5_1).f8.f2.f2), .int .i64 ((rd_T56 l1 x5_1).f8.f2.f3), .int .i64 ((rd_T56 l1 x5_1).f8.f3.f0), .int .i64 ((rd_T56 l1 x5_1).f8.f3.f1), .int .i64 ((rd_T56 l1 x5_1).f8.f4.f0), .int .i64 ((rd_T56 l1 x5_1).f8.f4.f1), .int .i64 ((rd_T56 l1 x5_1).f9), .int .i64 ((rd_T56 l1 x5_1).f10), .slice A275_29 ((rd_T56 l1 x5_1).f11.f0).length c275_29, .slice A275_30 ((rd_T56 l1 x5_1).f11.f1).length c275_30]) (ds := []) #[false, false, false, false, false, false, false, false, false, false] (by kernel_rfl) rfl rfl ⟨lie_below HB.out hM274, lie_below HB.out hM275⟩ (fun hHeld => ?_); refine with_tabW laws_eqNodeS.tab6 laws_eqNodeS.bits6 (fun HT_ HW_ => ?_)
        generalize wr.drew = w9 at HB HR274_10 HR274_13 HR274_29 HR274_30 HR274_9 HR275_10 HR275_13 HR275_29 HR275_30 HR275_9 hx274_0 hx274_1 hx274_10 hx274_11 hx274_12 hx274_13 hx274_14 hx274_15 hx274_16 hx274_17 hx274_18 hx274_19 hx274_2 hx274_20 hx274_21 hx274_22 hx274_23 hx274_24 hx274_25 hx274_26 hx274_27 hx274_28 hx274_29 hx274_3 hx274_30 hx274_4 hx274_5 hx274_6 hx274_7 hx274_8 hx274_9 hx275_0 hx275_1 hx275_10 hx275_11 hx275_12 hx275_13 hx275_14 hx275_15 hx275_16 hx275_17 hx275_18 hx275_19 hx275_2 hx275_20 hx275_21 hx275_22 hx275_23 hx275_24 hx275_25 hx275_26 hx275_27 hx275_28 hx275_29 hx275_3 hx275_30 hx275_4 hx275_5 hx275_6 hx275_7 hx275_8 hx275_9 hHeld ⊢
        refine pure_ (i := 0) (N := some 17) (v := ?_) (a' := ?_) #[true, false, false, false, false, false, false, false, false, false] rfl rfl (any_of HT_.out (by kernel_rfl)) (fun _ _ _ h => h) (Or.inl ⟨by rfl, ?_⟩) ?_ ?_; rotate_left
        ·intro w'
         go_simp; with_reducible rfl
        rotate_left
        ·exact x7_put
        refine pure_ (i := 1) (N := some 18) (v := ?_) (a' := ?_) #[true, true, false, false, false, false, false, false, false, false] rfl rfl (any_of HT_.out (by kernel_rfl)) (fun _ _ _ h => h) (Or.inl ⟨by rfl, ?_⟩) ?_ ?_; rotate_left
        ·intro w'
         go_simp; with_reducible rfl
        rotate_left
        ·exact x7_put
        refine pure_ (i := 2) (N := some 19) (v := ?_) (a' := ?_) #[true, true, true, false, false, false, false, false, false, false] rfl rfl (any_of HT_.out (by kernel_rfl)) (fun _ _ _ h => h) (Or.inl ⟨by rfl, ?_⟩) ?_ ?_; rotate_left
        ·intro w'
         go_simp; with_reducible rfl
        rotate_left
        ·exact x7_put
        refine pure_ (i := 4) (N := some 21) (v := ?_) (a' := ?_) #[true, true, true, false, true, false, false, false, false, false] rfl rfl (any_of HT_.out (by kernel_rfl)) (fun _ _ _ h => h) (Or.inl ⟨by rfl, ?_⟩) ?_ ?_; rotate_left
        ·intro w'
         go_simp; with_reducible rfl
        rotate_left
        ·exact x7_put
        refine pure_ (i := 5) (N := some 22) (v := ?_) (a' := ?_) #[true, true, true, false, true, true, false, false, false, false] rfl rfl (any_of HT_.out (by kernel_rfl)) (fun _ _ _ h => h) (Or.inl ⟨by rfl, ?_⟩) ?_ ?_; rotate_left
        ·intro w'
         go_simp; with_reducible rfl
        rotate_left
        ·exact x7_put
        refine pure_ (i := 6) (N := some 23) (v := ?_) (a' := ?_) #[true, true, true, false, true, true, true, false, false, false] rfl rfl (any_of HT_.out (by kernel_rfl)) (fun _ _ _ h => h) (Or.inl ⟨by rfl, ?_⟩) ?_ ?_; rotate_left
        ·intro w'
         go_simp; with_reducible rfl
        rotate_left
        ·exact x7_put
        refine take_ (i := 3) (N := some 20) (v := ?_) (a' := ?_) #[true, true, true, true, true, true, true, false, false, false] rfl rfl (take_ofW HT_.out HW_.out (by kernel_rfl)) (fun _ _ _ h => h) (Or.inl ⟨by rfl, ?_⟩) hHeld ?_ ?_
        rotate_left
        ·rintro w' ⟨sL274, sL275⟩
         first | (refine load_yields (t := 56) (x := ?x_714_274) ?ho_714_274 ?hx_714_274 _ _ sL274 Try.underlying56 rfl (show (Try.prog.info? 56).map (·.size) = some 31 by kernel_rfl); (case ho_714_274 => rfl); (case hx_714_274 => rfl)) | (refine load_yields (t := 56) (x := ?x_714_275) ?ho_714_275 ?hx_714_275 _ _ sL275 Try.underlying56 rfl (show (Try.prog.info? 56).map (·.size) = some 31 by kernel_rfl); (case ho_714_275 => rfl); (case hx_714_275 => rfl)) | (go_simp; with_reducible rfl)
        rotate_left
        ·exact x7_put
        refine take_ (i := 7) (N := some 24) (v := ?_) (a' := ?_) #[true, true, true, true, true, true, true, true, false, false] rfl rfl (take_ofW HT_.out HW_.out (by kernel_rfl)) (fun _ _ _ h => h) (Or.inl ⟨by rfl, ?_⟩) hHeld ?_ ?_
        rotate_left
        ·rintro w' ⟨sL274, sL275⟩
         first | (refine load_yields (t := 56) (x := ?x_724_274) ?ho_724_274 ?hx_724_274 _ _ sL274 Try.underlying56 rfl (show (Try.prog.info? 56).map (·.size) = some 31 by kernel_rfl); (case ho_724_274 => rfl); (case hx_724_274 => rfl)) | (refine load_yields (t := 56) (x := ?x_724_275) ?ho_724_275 ?hx_724_275 _ _ sL275 Try.underlying56 rfl (show (Try.prog.info? 56).map (·.size) = some 31 by kernel_rfl); (case ho_724_275 => rfl); (case hx_724_275 => rfl)) | (go_simp; with_reducible rfl)
        rotate_left
        ·exact x7_put
        refine one_ (i := 8) (N := some 25) #[true, true, true, true, true, true, true, true, true, false] rfl rfl (one_of HT_.out (by kernel_rfl)) (by decide) (fun K hK => ?_)
        refine goes_ Try.func23 (by kernel_rfl) rfl #[.agg #[.int .i64 ((rd_T56 l0 x5_1).f0), .int .i64 ((rd_T56 l0 x5_1).f1), .bool ((rd_T56 l0 x5_1).f2), .int .i64 ((rd_T56 l0 x5_1).f3.f0), .int .i64 ((rd_T56 l0 x5_1).f3.f1), .int .i64 ((rd_T56 l0 x5_1).f3.f2), .int .i64 ((rd_T56 l0 x5_1).f3.f3), .int .i64 ((rd_T56 l0 x5_1).f3.f4), .int .i64 ((rd_T56 l0 x5_1).f3.f5), .slice A274_9 ((rd_T56 l0 x5_1).f4.f0).length c274_9, .slice A274_10 ((rd_T56 l0 x5_1).f4.f1).length c274_10, .bool ((rd_T56 l0 x5_1).f5), .int .i64 ((rd_T56 l0 x5_1).f6), .slice A274_13 ((rd_T56 l0 x5_1).f7).length c274_13, .int .i64 ((rd_T56 l0 x5_1).f8.f0), .int .i64 ((rd_T56 l0 x5_1).f8.f1.f0), .int .i64 ((rd_T56 l0 x5_1).f8.f1.f1), .int .i64 ((rd_T56 l0 x5_1).f8.f1.f2), .int .i64 ((rd_T56 l0 x5_1).f8.f1.f3), .int .i64 ((rd_T56 l0 x5_1).f8.f2.f0), .int .i64 ((rd_T56 l0 x5_1).f8.f2.f1), .int .i64 ((rd_T56 l0 x5_1).f8.f2.f2), .int .i64 ((rd_T56 l0 x5_1).f8.f2.f3), .int .i64 ((rd_T56 l0 x5_1).f8.f3.f0), .int .i64 ((rd_T56 l0 x5_1).f8.f3.f1), .int .i64 ((rd_T56 l0 x5_1).f8.f4.f0), .int .i64 ((rd_T56 l0 x5_1).f8.f4.f1), .int .i64 ((rd_T56 l0 x5_1).f9), .int .i64 ((rd_T56 l0 x5_1).f10), .slice A274_29 ((rd_T56 l0 x5_1).f11.f0).length c274_29, .slice A274_30 ((rd_T56 l0 x5_1).f11.f1).length c274_30], .agg #[.int .i64 ((rd_T56 l1 x5_1).f0), .int .i64 ((rd_T56 l1 x5_1).f1), .bool ((rd_T56 l1 x5_1).f2), .int .i64 ((rd_T56 l1 x5_1).f3.f0), .int .i64 ((rd_T56 l1 x5_1).f3.f1), .int .i64 ((rd_T56 l1 x5_1).f3.f2), .int .i64 ((rd_T56 l1 x5_1).f3.f3), .int .i64 ((rd_T56 l1 x5_1).f3.f4), .int .i64 ((rd_T56 l1 x5_1).f3.f5), .slice A275_9 ((rd_T56 l1 x5_1).f4.f0).length c275_9, .slice A275_10 ((rd_T56 l1 x5_1).f4.f1).length c275_10, .bool ((rd_T56 l1 x5_1).f5), .int .i64 ((rd_T56 l1 x5_1).f6), .slice A275_13 ((rd_T56 l1 x5_1).f7).length c275_13, .int .i64 ((rd_T56 l1 x5_1).f8.f0), .int .i64 ((rd_T56 l1 x5_1).f8.f1.f0), .int .i64 ((rd_T56 l1 x5_1).f8.f1.f1), .int .i64 ((rd_T56 l1 x5_1).f8.f1.f2), .int .i64 ((rd_T56 l1 x5_1).f8.f1.f3), .int .i64 ((rd_T56 l1 x5_1).f8.f2.f0), .int .i64 ((rd_T56 l1 x5_1).f8.f2.f1), .int .i64 ((rd_T56 l1 x5_1).f8.f2.f2), .int .i64 ((rd_T56 l1 x5_1).f8.f2.f3), .int .i64 ((rd_T56 l1 x5_1).f8.f3.f0), .int .i64 ((rd_T56 l1 x5_1).f8.f3.f1), .int .i64 ((rd_T56 l1 x5_1).f8.f4.f0), .int .i64 ((rd_T56 l1 x5_1).f8.f4.f1), .int .i64 ((rd_T56 l1 x5_1).f9), .int .i64 ((rd_T56 l1 x5_1).f10), .slice A275_29 ((rd_T56 l1 x5_1).f11.f0).length c275_29, .slice A275_30 ((rd_T56 l1 x5_1).f11.f1).length c275_30]] (by rfl) rfl rfl z7_4 ?_
        with_reducible refine (laws_eqNode.calls k1 ((rd_T56 l0 x5_1).f0) ((rd_T56 l0 x5_1).f1) ((rd_T56 l0 x5_1).f2) ((rd_T56 l0 x5_1).f3.f0) ((rd_T56 l0 x5_1).f3.f1) ((rd_T56 l0 x5_1).f3.f2) ((rd_T56 l0 x5_1).f3.f3) ((rd_T56 l0 x5_1).f3.f4) ((rd_T56 l0 x5_1).f3.f5) _ _ ((rd_T56 l0 x5_1).f4.f0) _ _ ((rd_T56 l0 x5_1).f4.f1) ((rd_T56 l0 x5_1).f5) ((rd_T56 l0 x5_1).f6) _ _ ((rd_T56 l0 x5_1).f7) ((rd_T56 l0 x5_1).f8.f0) ((rd_T56 l0 x5_1).f8.f1.f0) ((rd_T56 l0 x5_1).f8.f1.f1) ((rd_T56 l0 x5_1).f8.f1.f2) ((rd_T56 l0 x5_1).f8.f1.f3) ((rd_T56 l0 x5_1).f8.f2.f0) ((rd_T56 l0 x5_1).f8.f2.f1) ((rd_T56 l0 x5_1).f8.f2.f2) ((rd_T56 l0 x5_1).f8.f2.f3) ((rd_T56 l0 x5_1).f8.f3.f0) ((rd_T56 l0 x5_1).f8.f3.f1) ((rd_T56 l0 x5_1).f8.f4.f0) ((rd_T56 l0 x5_1).f8.f4.f1) ((rd_T56 l0 x5_1).f9) ((rd_T56 l0 x5_1).f10) _ _ ((rd_T56 l0 x5_1).f11.f0) _ _ ((rd_T56 l0 x5_1).f11.f1) ((rd_T56 l1 x5_1).f0) ((rd_T56 l1 x5_1).f1) ((rd_T56 l1 x5_1).f2) ((rd_T56 l1 x5_1).f3.f0) ((rd_T56 l1 x5_1).f3.f1) ((rd_T56 l1 x5_1).f3.f2) ((rd_T56 l1 x5_1).f3.f3) ((rd_T56 l1 x5_1).f3.f4) ((rd_T56 l1 x5_1).f3.f5) _ _ ((rd_T56 l1 x5_1).f4.f0) _ _ ((rd_T56 l1 x5_1).f4.f1) ((rd_T56 l1 x5_1).f5) ((rd_T56 l1 x5_1).f6) _ _ ((rd_T56 l1 x5_1).f7) ((rd_T56 l1 x5_1).f8.f0) ((rd_T56 l1 x5_1).f8.f1.f0) ((rd_T56 l1 x5_1).f8.f1.f1) ((rd_T56 l1 x5_1).f8.f1.f2) ((rd_T56 l1 x5_1).f8.f1.f3) ((rd_T56 l1 x5_1).f8.f2.f0) ((rd_T56 l1 x5_1).f8.f2.f1) ((rd_T56 l1 x5_1).f8.f2.f2) ((rd_T56 l1 x5_1).f8.f2.f3) ((rd_T56 l1 x5_1).f8.f3.f0) ((rd_T56 l1 x5_1).f8.f3.f1) ((rd_T56 l1 x5_1).f8.f4.f0) ((rd_T56 l1 x5_1).f8.f4.f1) ((rd_T56 l1 x5_1).f9) ((rd_T56 l1 x5_1).f10) _ _ ((rd_T56 l1 x5_1).f11.f0) _ _ ((rd_T56 l1 x5_1).f11.f1) true _ ?side1 ?side2 ?side3 ?side4 ?side5 ?side6 ?side7 ?side8 ?side9 ?side10 ?side11 ?side12 ?side13 ?side14 ?side15 ?side16 ?side17 ?side18 ?side19 ?side20 (by first | rfl | assumption) A7.out).mono ?_
        (case side1 => repeat (first | exact (Kd.C_below HR274_9.out HB.out) | (with_reducible refine Kd.C_alloc ?_ _) | (with_reducible refine Kd.C_drewN ?_ _) | (with_reducible refine Kd.C_drew ?_)))
        (case side2 => exact HC274_9.out)
        (case side3 => repeat (first | exact (Kd.C_below HR274_10.out HB.out) | (with_reducible refine Kd.C_alloc ?_ _) | (with_reducible refine Kd.C_drewN ?_ _) | (with_reducible refine Kd.C_drew ?_)))
        (case side4 => exact HC274_10.out)
        (case side5 => repeat (first | exact (Kd.C_below HR274_13.out HB.out) | (with_reducible refine Kd.C_alloc ?_ _) | (with_reducible refine Kd.C_drewN ?_ _) | (with_reducible refine Kd.C_drew ?_)))
        (case side6 => exact HC274_13.out)
        (case side7 => repeat (first | exact (Kd.C_below HR274_29.out HB.out) | (with_reducible refine Kd.C_alloc ?_ _) | (with_reducible refine Kd.C_drewN ?_ _) | (with_reducible refine Kd.C_drew ?_)))
        (case side8 => exact HC274_29.out)
        (case side9 => repeat (first | exact (Kd.C_below HR274_30.out HB.out) | (with_reducible refine Kd.C_alloc ?_ _) | (with_reducible refine Kd.C_drewN ?_ _) | (with_reducible refine Kd.C_drew ?_)))
        (case side10 => exact HC274_30.out)
        (case side11 => repeat (first | exact (Kd.C_below HR275_9.out HB.out) | (with_reducible refine Kd.C_alloc ?_ _) | (with_reducible refine Kd.C_drewN ?_ _) | (with_reducible refine Kd.C_drew ?_)))
        (case side12 => exact HC275_9.out)
        (case side13 => repeat (first | exact (Kd.C_below HR275_10.out HB.out) | (with_reducible refine Kd.C_alloc ?_ _) | (with_reducible refine Kd.C_drewN ?_ _) | (with_reducible refine Kd.C_drew ?_)))
        (case side14 => exact HC275_10.out)
        (case side15 => repeat (first | exact (Kd.C_below HR275_13.out HB.out) | (with_reducible refine Kd.C_alloc ?_ _) | (with_reducible refine Kd.C_drewN ?_ _) | (with_reducible refine Kd.C_drew ?_)))
        (case side16 => exact HC275_13.out)
        (case side17 => repeat (first | exact (Kd.C_below HR275_29.out HB.out) | (with_reducible refine Kd.C_alloc ?_ _) | (with_reducible refine Kd.C_drewN ?_ _) | (with_reducible refine Kd.C_drew ?_)))
        (case side18 => exact HC275_29.out)
        (case side19 => repeat (first | exact (Kd.C_below HR275_30.out HB.out) | (with_reducible refine Kd.C_alloc ?_ _) | (with_reducible refine Kd.C_drewN ?_ _) | (with_reducible refine Kd.C_drew ?_)))
        (case side20 => exact HC275_30.out)
        rintro e w10 ⟨rfl, hb⟩
        refine ⟨_, rfl, ?_⟩
        have n0_ := Aside0.mk (below_step z7_3 hb)
        clear HB; have HB := n0_; clear n0_; (try clear hb); (try clear hb2); (try clear hk); (try clear hi)
        refine hK.out _ _ ⟨lie_below HB.out hM274, lie_below HB.out hM275⟩ (fun hHeld => ?_)
        clear hK K
        refine norm_ (a' := ?_) ?_ ?_
        rotate_left
        ·show Act.put _ (some 25) _ = _
         simp only [Act.put, List.setIfInBounds_toArray, List.set_cons_zero, List.set_cons_succ, i64_w, i32_w]
         rfl
        refine pure_ (i := 9) (N := some 26) (v := ?_) (a' := ?_) #[true, true, true, true, true, true, true, true, true, true] rfl rfl (any_of HT_.out (by kernel_rfl)) (fun _ _ _ h => h) (Or.inl ⟨by rfl, ?_⟩) ?_ ?_; rotate_left
        ·intro w'
         go_simp; with_reducible rfl
        rotate_left
        ·exact x7_put
        refine done_ (done_of HT_.out (by kernel_rfl)) ?_
        try go_wp2_with (first | ((with_reducible refine gate_load (t := 56) rfl ?_); refine load_lie (t := 56) rfl rfl hM274 HB (by with_reducible rfl) rfl Try.underlying56 rfl (show (Try.prog.info? 56).map (·.size) = some 31 by kernel_rfl) rfl ?_) | ((with_reducible refine gate_load (t := 56) rfl ?_); refine load_lie0 (t := 56) rfl rfl hM274 (by with_reducible rfl) rfl Try.underlying56 rfl (show (Try.prog.info? 56).map (·.size) = some 31 by kernel_rfl) rfl ?_) | ((with_reducible refine gate_load (t := 56) rfl ?_); refine load_lie (t := 56) rfl rfl hM275 HB (by with_reducible rfl) rfl Try.underlying56 rfl (show (Try.prog.info? 56).map (·.size) = some 31 by kernel_rfl) rfl ?_) | ((with_reducible refine gate_load (t := 56) rfl ?_); refine load_lie0 (t := 56) rfl rfl hM275 (by with_reducible rfl) rfl Try.underlying56 rfl (show (Try.prog.info? 56).map (·.size) = some 31 by kernel_rfl) rfl ?_))
        go_roundg k1
        case measure => have := HK1.out; omega
        case rel => exact ⟨(wrap64 (x5_1 + 1)), (by first | rfl | (simp; done) | (simp [*]; done)), H', ⟨by have := HK1.out; omega⟩, ⟨z7_3⟩⟩
       ·replace c8 := Bool.eq_false_iff.mpr c8
        subst c8
        have H1 : (some false) = some r := by rw [if_neg (show ¬ (false = true) by decide)] at H; exact H
        clear H; have H := H1; clear H1
        obtain rfl := Option.some.inj H
        exact absurd hT Bool.false_ne_true
      ·rw [if_neg c6] at H
       exact absurd H (by simp)
     ·rw [if_neg c5] at H
      exact absurd H (by simp)
    ·rw [if_neg c4] at H
     have c4b0 : decide (x5_1 < (l0.length : Int)) = false := decide_eq_false c4
     clear c4
     obtain rfl := Option.some.inj H
     simp only [Option.some.injEq, Prod.mk.injEq] at H
     obtain ⟨rfl⟩ := H
     go_wp2
     go_ret
     exact ⟨z7_8, z7_3⟩
 ·rw [if_neg c3] at H
  have c3b0 : ((l0.length : Int) == (l1.length : Int)) = false := beq_eq_false_iff_ne.mpr c3
  have c3b1 : ((l0.length : Int) != (l1.length : Int)) = true := bne_iff_ne.mpr c3
  have c3b2 : (l0.length == l1.length) = false := by first | simpa using c3 | (simp at c3 ⊢; omega)
  obtain rfl := Option.some.inj H
  exact absurd hT Bool.false_ne_true

/-! ### laws_eqScene: function 40 -/
def laws_eqScene.f (k : Nat) (l0_0 : List (S56)) (l1_0 : List (S56)) : Option (Bool) := (laws_eqNodeS.f k l0_0 l1_0).bind fun t279 => (if t279 = true then (some true) else (some false))
theorem laws_eqScene.mono : ∀ a0 a1 k, LeO (laws_eqScene.f k a0 a1) (laws_eqScene.f (k + 1) a0 a1) := by
 intro a0 a1 k
 unfold laws_eqScene.f
 repeat' first
   | (with_reducible exact laws_eqNodeS.mono _ _ _)
   | (with_reducible exact LeO.refl _)
   | (with_reducible exact LeO.none _)
   | (with_reducible refine LeO.ite ?_ ?_)
   | (with_reducible refine LeO.bind ?_ (fun _ => ?_))
   | exact laws_eqNodeS.mono _ _ _
   | exact LeO.none _
   | refine LeO.ite ?_ ?_
   | refine LeO.bind ?_ (fun _ => ?_)
set_option maxHeartbeats 8000000 in
set_option maxRecDepth 100000 in
theorem laws_eqScene.calls (k : Nat) (A0_0 : Option Addr) (c0_0 : Nat) (l0_0 : List (S56)) (A1_0 : Option Addr) (c1_0 : Nat) (l1_0 : List (S56)) (r : Bool) (w : World) (hr0_0 : Kd.C k56 w A0_0 l0_0.length l0_0) (hc0_0 : l0_0.length ≤ c0_0) (hr1_0 : Kd.C k56 w A1_0 l1_0.length l1_0) (hc1_0 : l1_0.length ≤ c1_0) (hT : r = true) (h : laws_eqScene.f k l0_0 l1_0 = some r) :
  Calls Try.prog 40 #[.agg #[.slice A0_0 l0_0.length c0_0], .agg #[.slice A1_0 l1_0.length c1_0]] w fun e w' => e = .returned (.bool r) ∧ Below w.heap.size w w' := by
 have hu83 := Try.underlying83
 have HR0_0 := Aside0.mk hr0_0
 have HC0_0 := Aside0.mk hc0_0
 clear hr0_0 hc0_0
 have HR1_0 := Aside0.mk hr1_0
 have HC1_0 := Aside0.mk hc1_0
 clear hr1_0 hc1_0
 have HB := Aside0.mk (Below.refl w.heap.size w)
 have H : ((laws_eqNodeS.f k l0_0 l1_0).bind fun t279 => (if t279 = true then (some true) else (some false))) = some r := h
 clear h
 replace H := Option.bind_eq_some_iff.mp H
 obtain ⟨t279, A30, H⟩ := H
 try dsimp only at H
 have A3 := Aside0.mk A30
 clear A30
 by_cases c4 : t279 = true
 ·subst c4
  have H1 : (some true) = some r := by rw [if_pos rfl] at H; exact H
  clear H; have H := H1; clear H1
  obtain rfl := Option.some.inj H
  simp only [Option.some.injEq, Prod.mk.injEq] at H
  obtain ⟨rfl⟩ := H
  go_enter Try.func40, Try.ntmps40
  go_wp2_with (first | ((with_reducible refine gate_dst (N := 2) rfl ?_); refine boxz (cs := #[.slice A0_0 l0_0.length c0_0]) (t := 83) rfl ?_; intro gb277 hg w5 hbox hb; have n0_ := Aside0.mk (below_step z7_3 hb); have n1_ := Aside0.mk (hbox); have n2_ := Aside0.mk (ge_go (a := w.heap.size) hg (below_size z7_3)); have n3_ := Aside0.mk (ge_go (a := w.heap.size) hg (below_size z7_3)); clear HB; have HB := n0_; have BK277 := n1_; have GW277 := n2_; have GE277 := n3_; clear n0_ n1_ n2_ n3_; clear hb hbox hg) | ((with_reducible refine gate_dst (N := 3) rfl ?_); refine boxz (cs := #[.slice A1_0 l1_0.length c1_0]) (t := 83) rfl ?_; intro gb278 hg w6 hbox hb; have n0_ := Aside0.mk (blk_belowB BK277 z7_11 hb); have n1_ := Aside0.mk (below_step z7_13 hb); have n2_ := Aside0.mk (hbox); have n3_ := Aside0.mk (ge_go (a := w.heap.size) hg (below_size z7_13)); have n4_ := Aside0.mk (ge_go (a := w.heap.size) hg (below_size z7_13)); have n5_ := Aside0.mk (nb_lt hg (blk_ltB BK277 z7_11)); have n6_ := Aside0.mk (nb_gt hg (blk_ltB BK277 z7_11)); clear BK277; clear HB; have BK277 := n0_; have HB := n1_; have BK278 := n2_; have GW278 := n3_; have GE278 := n4_; have NB277_278 := n5_; have NB278_277 := n6_; clear n0_ n1_ n2_ n3_ n4_ n5_ n6_; clear hb hbox hg; have hnb7 := NB277_278.out; have hnc7 := NB278_277.out; obtain ⟨_, _⟩ := be_1 BK277.out; obtain ⟨_, _⟩ := be_1 BK278.out) | ((with_reducible refine gate_callee (f := 108) rfl ?_); refine goesL_ (some 9) rfl rfl Try.func108 (by kernel_rfl) rfl #[.slice A0_0 l0_0.length c0_0, .slice A1_0 l1_0.length c1_0] rfl z7_4 ?_; (with_reducible refine (laws_eqNodeS.calls k _ _ l0_0 _ _ l1_0 true _ ?side1 ?side2 ?side3 ?side4 (by first | rfl | assumption) A3.out).mono ?_); (case side1 => repeat (first | exact (Kd.C_below HR0_0.out HB.out) | (with_reducible refine Kd.C_alloc ?_ _) | (with_reducible refine Kd.C_drewN ?_ _) | (with_reducible refine Kd.C_drew ?_))); (case side2 => exact HC0_0.out); (case side3 => repeat (first | exact (Kd.C_below HR1_0.out HB.out) | (with_reducible refine Kd.C_alloc ?_ _) | (with_reducible refine Kd.C_drewN ?_ _) | (with_reducible refine Kd.C_drew ?_))); (case side4 => exact HC1_0.out); rintro e w10 ⟨rfl, hb⟩; refine ⟨_, rfl, ?_⟩; have n0_ := Aside0.mk (blk_belowB BK277 z7_11 hb); have n1_ := Aside0.mk (blk_belowB BK278 (by (with_reducible repeat (first | refine blk_drewN ?_ _ | refine blk_drew ?_ | refine blk_alloc ?_ _)); exact BK278.out) hb); have n2_ := Aside0.mk (below_step z7_14 hb); clear BK277; clear BK278; clear HB; have BK277 := n0_; have BK278 := n1_; have HB := n2_; clear n0_ n1_ n2_; (try clear hb)))
  go_ret
  exact ⟨z7_8, z7_14⟩
 ·replace c4 := Bool.eq_false_iff.mpr c4
  subst c4
  have H1 : (some false) = some r := by rw [if_neg (show ¬ (false = true) by decide)] at H; exact H
  clear H; have H := H1; clear H1
  obtain rfl := Option.some.inj H
  exact absurd hT Bool.false_ne_true

/-! ### spec_l01In: function 64 -/
def spec_l01In.f (a0 : Int) (a1 : Int) (a2 : Int) : Option (Bool) := if a0 ≥ a1 then (some (decide (a0 ≤ a2))) else (some false)
set_option maxHeartbeats 8000000 in
set_option maxRecDepth 100000 in
theorem spec_l01In.calls (a0 : Int) (a1 : Int) (a2 : Int) (r : Bool) (w : World) (h : spec_l01In.f a0 a1 a2 = some r) :
  Calls Try.prog 64 #[.int .i64 a0, .int .i64 a1, .int .i64 a2] w fun e w' => e = .returned (.bool r) ∧ Drawn0 w w' := by
 have H : (if a0 ≥ a1 then (some (decide (a0 ≤ a2))) else (some false)) = some r := h
 clear h
 by_cases c4 : a0 ≥ a1
 ·rw [if_pos c4] at H
  have c4b0 : decide (a1 ≤ a0) = true := decide_eq_true c4
  clear c4
  obtain rfl := Option.some.inj H
  simp only [Option.some.injEq, Prod.mk.injEq] at H
  obtain ⟨rfl⟩ := H
  go_enter Try.func64, Try.ntmps64
  go_wp2
  go_ret
  exact ⟨(by first | rfl | (simp; done) | (simp [*]; done)), (by repeat (first | exact Drawn0.refl _ | apply Drawn0.step))⟩
 ·rw [if_neg c4] at H
  have c4b0 : decide (a1 ≤ a0) = false := decide_eq_false c4
  clear c4
  obtain rfl := Option.some.inj H
  simp only [Option.some.injEq, Prod.mk.injEq] at H
  obtain ⟨rfl⟩ := H
  go_enter Try.func64, Try.ntmps64
  go_wp2
  go_ret
  exact ⟨(by first | rfl | (simp; done) | (simp [*]; done)), (by repeat (first | exact Drawn0.refl _ | apply Drawn0.step))⟩

end Go.Proofs.Ytghbenapnhcllaa.MFnExactSceneOk
