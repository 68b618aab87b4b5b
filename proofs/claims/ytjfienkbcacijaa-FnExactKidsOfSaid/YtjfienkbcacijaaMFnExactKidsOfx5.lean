/- Functions of the program as Lean functions, and the proof that a call comes to just these: machine text of this session's own program (myprint.py). -/
import Derived.Test.YtjfienkbcacijaaMFnExactKidsOfx0
import Derived.Test.YtjfienkbcacijaaMFnExactKidsOfx1
import Derived.Test.YtjfienkbcacijaaMFnExactKidsOfx4
namespace Go.Proofs.Ytjfienkbcacijaa.MFnExactKidsOf
open Go.RowKit Go.Proofs.YtjfienkbcacijaaW.PrintWords Go.Proofs.YtjfienkbcacijaaW.PrintLast Go.Proofs.YtjfienkbcacijaaW.PrintMore
attribute [local go_sem] max2_int min2_int max_two min_two max_three min_three max_four min_four   -- for this text's walks alone
set_option linter.unusedVariables false
set_option linter.unusedSimpArgs false

theorem x5_put {P : Prop} (h : P := by simp only [Act.put, List.setIfInBounds_toArray, List.set_cons_zero, List.set_cons_succ, i64_w, i32_w]; rfl) : P := h
theorem z5_1 {P : Prop} (h : P := by repeat (first | (with_reducible first | exact HB.out | apply below_alloc | apply pw_below_drewN | apply below_drew1) | exact HB.out)) : P := h
theorem z5_2 {P : Prop} (h : P := by repeat (first | (with_reducible first | exact HB.out | apply below_alloc | apply pw_below_drewN | apply below_drew1 | refine below_set ?_ GE277.out | refine below_set ?_ GE278.out) | exact HB.out)) : P := h
theorem z5_3 {P : Prop} (h : P := by repeat (first | (with_reducible first | exact HB.out | apply below_alloc | apply pw_below_drewN | apply below_drew1 | refine below_set ?_ GE277.out) | exact HB.out)) : P := h
theorem z5_4 {P : Prop} (h : P := by (try simp only [List.map_toArray, List.map_cons, List.map_nil]); first | done | rfl | (simp only [List.length_drop, List.length_take]; rfl)) : P := h
theorem z5_5 {P : Prop} (h : P := by repeat (first | (with_reducible first | exact HB.out | apply below_alloc | apply pw_below_drewN | apply below_drew1 | refine below_set ?_ GE275.out) | exact HB.out)) : P := h
theorem z5_6 {P : Prop} (h : P := by first | rfl | (simp [errW_none, errW_some] <;> rfl) | (simp [*, errW_none, errW_some] <;> rfl)) : P := h
theorem z5_7 {P : Prop} (h : P := by repeat (first | (with_reducible first | exact HB.out | apply below_alloc | apply pw_below_drewN | apply below_drew1 | refine below_set ?_ GE275.out | refine below_set ?_ GE276.out) | exact HB.out)) : P := h
theorem z5_8 {P : Prop} (h : P := by repeat (first | (with_reducible first | exact HB.out | apply below_alloc | apply pw_below_drewN | apply below_drew1 | refine below_set ?_ GE283.out | refine below_set ?_ GE284.out) | exact HB.out)) : P := h
theorem z5_9 {P : Prop} (h : P := by repeat (first | (with_reducible first | exact HB.out | apply below_alloc | apply pw_below_drewN | apply below_drew1 | refine below_set ?_ GE283.out) | exact HB.out)) : P := h
/-! ### laws_eqColor: function 114 -/
def laws_eqColor.f (a0_0 : Int) (a0_1 : Int) (a0_2 : Int) (a0_3 : Int) (a1_0 : Int) (a1_1 : Int) (a1_2 : Int) (a1_3 : Int) : Option (Bool) := if a0_0 = a1_0 then (if a0_1 = a1_1 then (if a0_2 = a1_2 then (if a0_3 = a1_3 then (some true) else (some false)) else (some false)) else (some false)) else (some false)
set_option maxHeartbeats 8000000 in
set_option maxRecDepth 100000 in
theorem laws_eqColor.calls (a0_0 : Int) (a0_1 : Int) (a0_2 : Int) (a0_3 : Int) (a1_0 : Int) (a1_1 : Int) (a1_2 : Int) (a1_3 : Int) (r : Bool) (w : World) (h : laws_eqColor.f a0_0 a0_1 a0_2 a0_3 a1_0 a1_1 a1_2 a1_3 = some r) :
  Calls Try.prog 114 #[.agg #[.int .i64 a0_0, .int .i64 a0_1, .int .i64 a0_2, .int .i64 a0_3], .agg #[.int .i64 a1_0, .int .i64 a1_1, .int .i64 a1_2, .int .i64 a1_3]] w fun e w' => e = .returned (.bool r) ∧ Below w.heap.size w w' := by
 have hu65 := Try.underlying65
 have HB := mk0 (Below.refl w.heap.size w)
 have H : (if a0_0 = a1_0 then (if a0_1 = a1_1 then (if a0_2 = a1_2 then (if a0_3 = a1_3 then (some true) else (some false)) else (some false)) else (some false)) else (some false)) = some r := h
 clear h
 by_cases c3 : a0_0 = a1_0
 rotate_left
 ·rw [if_neg c3] at H
  have c3b0 : (a0_0 == a1_0) = false := beq_eq_false_iff_ne.mpr c3
  have c3b1 : (a0_0 != a1_0) = true := bne_iff_ne.mpr c3
  obtain rfl := Option.some.inj H
  simp only [Option.some.injEq, Prod.mk.injEq] at H
  obtain ⟨rfl⟩ := H
  go_enter Try.func114, Try.ntmps114
  go_wp2_with (first | ((with_reducible refine gate_dst (N := 2) rfl ?_); refine boxz (cs := #[.int .i64 a0_0, .int .i64 a0_1, .int .i64 a0_2, .int .i64 a0_3]) (t := 65) rfl ?_; intro gb275 hg w27 hbox hb; have n0_ := mk0 (below_step z5_1 hb); have n1_ := mk0 (hbox); have GW275 := mk0 (ge_go (a := w.heap.size) hg (below_size z5_1)); have GE275 := GW275; clear HB; have HB := n0_; have BK275 := n1_; clear n0_ n1_ ; clear hb hbox hg) | ((with_reducible refine gate_dst (N := 3) rfl ?_); refine boxz (cs := #[.int .i64 a1_0, .int .i64 a1_1, .int .i64 a1_2, .int .i64 a1_3]) (t := 65) rfl ?_; intro gb276 hg w28 hbox hb; have n0_ := mk0 (blk_belowB BK275 (pkb BK275) hb); have n1_ := mk0 (below_step z5_5 hb); have n2_ := mk0 (hbox); have GW276 := mk0 (ge_go (a := w.heap.size) hg (below_size z5_5)); have GE276 := GW276; have NB275_276 := mk0 (nb_lt hg (blk_ltB BK275 (pkb BK275))); have NB276_275 := mk0 (nb_gt hg (blk_ltB BK275 (pkb BK275))); clear BK275 HB; have BK275 := n0_; have HB := n1_; have BK276 := n2_; clear n0_ n1_ n2_ ; clear hb hbox hg; have hnb29 := NB275_276.out; have hnc29 := NB276_275.out; obtain ⟨_, _, _, _, _, _, _, _⟩ := be_4 BK275.out; obtain ⟨_, _, _, _, _, _, _, _⟩ := be_4 BK276.out))
  go_ret
  exact ⟨z5_6, z5_7⟩
 rw [if_pos c3] at H
 have c3b0 : (a0_0 == a1_0) = true := beq_iff_eq.mpr c3
 have c3b1 : (a0_0 != a1_0) = false := bne_eq_false_iff_eq.mpr c3
 clear c3
 by_cases c4 : a0_1 = a1_1
 rotate_left
 ·rw [if_neg c4] at H
  have c4b0 : (a0_1 == a1_1) = false := beq_eq_false_iff_ne.mpr c4
  have c4b1 : (a0_1 != a1_1) = true := bne_iff_ne.mpr c4
  obtain rfl := Option.some.inj H
  simp only [Option.some.injEq, Prod.mk.injEq] at H
  obtain ⟨rfl⟩ := H
  go_enter Try.func114, Try.ntmps114
  go_wp2_with (first | ((with_reducible refine gate_dst (N := 2) rfl ?_); refine boxz (cs := #[.int .i64 a0_0, .int .i64 a0_1, .int .i64 a0_2, .int .i64 a0_3]) (t := 65) rfl ?_; intro gb275 hg w22 hbox hb; have n0_ := mk0 (below_step z5_1 hb); have n1_ := mk0 (hbox); have GW275 := mk0 (ge_go (a := w.heap.size) hg (below_size z5_1)); have GE275 := GW275; clear HB; have HB := n0_; have BK275 := n1_; clear n0_ n1_ ; clear hb hbox hg) | ((with_reducible refine gate_dst (N := 3) rfl ?_); refine boxz (cs := #[.int .i64 a1_0, .int .i64 a1_1, .int .i64 a1_2, .int .i64 a1_3]) (t := 65) rfl ?_; intro gb276 hg w23 hbox hb; have n0_ := mk0 (blk_belowB BK275 (pkb BK275) hb); have n1_ := mk0 (below_step z5_5 hb); have n2_ := mk0 (hbox); have GW276 := mk0 (ge_go (a := w.heap.size) hg (below_size z5_5)); have GE276 := GW276; have NB275_276 := mk0 (nb_lt hg (blk_ltB BK275 (pkb BK275))); have NB276_275 := mk0 (nb_gt hg (blk_ltB BK275 (pkb BK275))); clear BK275 HB; have BK275 := n0_; have HB := n1_; have BK276 := n2_; clear n0_ n1_ n2_ ; clear hb hbox hg; have hnb24 := NB275_276.out; have hnc24 := NB276_275.out; obtain ⟨_, _, _, _, _, _, _, _⟩ := be_4 BK275.out; obtain ⟨_, _, _, _, _, _, _, _⟩ := be_4 BK276.out))
  go_ret
  exact ⟨z5_6, z5_7⟩
 rw [if_pos c4] at H
 have c4b0 : (a0_1 == a1_1) = true := beq_iff_eq.mpr c4
 have c4b1 : (a0_1 != a1_1) = false := bne_eq_false_iff_eq.mpr c4
 clear c4
 by_cases c5 : a0_2 = a1_2
 rotate_left
 ·rw [if_neg c5] at H
  have c5b0 : (a0_2 == a1_2) = false := beq_eq_false_iff_ne.mpr c5
  have c5b1 : (a0_2 != a1_2) = true := bne_iff_ne.mpr c5
  obtain rfl := Option.some.inj H
  simp only [Option.some.injEq, Prod.mk.injEq] at H
  obtain ⟨rfl⟩ := H
  go_enter Try.func114, Try.ntmps114
  go_wp2_with (first | ((with_reducible refine gate_dst (N := 2) rfl ?_); refine boxz (cs := #[.int .i64 a0_0, .int .i64 a0_1, .int .i64 a0_2, .int .i64 a0_3]) (t := 65) rfl ?_; intro gb275 hg w17 hbox hb; have n0_ := mk0 (below_step z5_1 hb); have n1_ := mk0 (hbox); have GW275 := mk0 (ge_go (a := w.heap.size) hg (below_size z5_1)); have GE275 := GW275; clear HB; have HB := n0_; have BK275 := n1_; clear n0_ n1_ ; clear hb hbox hg) | ((with_reducible refine gate_dst (N := 3) rfl ?_); refine boxz (cs := #[.int .i64 a1_0, .int .i64 a1_1, .int .i64 a1_2, .int .i64 a1_3]) (t := 65) rfl ?_; intro gb276 hg w18 hbox hb; have n0_ := mk0 (blk_belowB BK275 (pkb BK275) hb); have n1_ := mk0 (below_step z5_5 hb); have n2_ := mk0 (hbox); have GW276 := mk0 (ge_go (a := w.heap.size) hg (below_size z5_5)); have GE276 := GW276; have NB275_276 := mk0 (nb_lt hg (blk_ltB BK275 (pkb BK275))); have NB276_275 := mk0 (nb_gt hg (blk_ltB BK275 (pkb BK275))); clear BK275 HB; have BK275 := n0_; have HB := n1_; have BK276 := n2_; clear n0_ n1_ n2_ ; clear hb hbox hg; have hnb19 := NB275_276.out; have hnc19 := NB276_275.out; obtain ⟨_, _, _, _, _, _, _, _⟩ := be_4 BK275.out; obtain ⟨_, _, _, _, _, _, _, _⟩ := be_4 BK276.out))
  go_ret
  exact ⟨z5_6, z5_7⟩
 rw [if_pos c5] at H
 have c5b0 : (a0_2 == a1_2) = true := beq_iff_eq.mpr c5
 have c5b1 : (a0_2 != a1_2) = false := bne_eq_false_iff_eq.mpr c5
 clear c5
 by_cases c6 : a0_3 = a1_3
 rotate_left
 ·rw [if_neg c6] at H
  have c6b0 : (a0_3 == a1_3) = false := beq_eq_false_iff_ne.mpr c6
  have c6b1 : (a0_3 != a1_3) = true := bne_iff_ne.mpr c6
  obtain rfl := Option.some.inj H
  simp only [Option.some.injEq, Prod.mk.injEq] at H
  obtain ⟨rfl⟩ := H
  go_enter Try.func114, Try.ntmps114
  go_wp2_with (first | ((with_reducible refine gate_dst (N := 2) rfl ?_); refine boxz (cs := #[.int .i64 a0_0, .int .i64 a0_1, .int .i64 a0_2, .int .i64 a0_3]) (t := 65) rfl ?_; intro gb275 hg w12 hbox hb; have n0_ := mk0 (below_step z5_1 hb); have n1_ := mk0 (hbox); have GW275 := mk0 (ge_go (a := w.heap.size) hg (below_size z5_1)); have GE275 := GW275; clear HB; have HB := n0_; have BK275 := n1_; clear n0_ n1_ ; clear hb hbox hg) | ((with_reducible refine gate_dst (N := 3) rfl ?_); refine boxz (cs := #[.int .i64 a1_0, .int .i64 a1_1, .int .i64 a1_2, .int .i64 a1_3]) (t := 65) rfl ?_; intro gb276 hg w13 hbox hb; have n0_ := mk0 (blk_belowB BK275 (pkb BK275) hb); have n1_ := mk0 (below_step z5_5 hb); have n2_ := mk0 (hbox); have GW276 := mk0 (ge_go (a := w.heap.size) hg (below_size z5_5)); have GE276 := GW276; have NB275_276 := mk0 (nb_lt hg (blk_ltB BK275 (pkb BK275))); have NB276_275 := mk0 (nb_gt hg (blk_ltB BK275 (pkb BK275))); clear BK275 HB; have BK275 := n0_; have HB := n1_; have BK276 := n2_; clear n0_ n1_ n2_ ; clear hb hbox hg; have hnb14 := NB275_276.out; have hnc14 := NB276_275.out; obtain ⟨_, _, _, _, _, _, _, _⟩ := be_4 BK275.out; obtain ⟨_, _, _, _, _, _, _, _⟩ := be_4 BK276.out))
  go_ret
  exact ⟨z5_6, z5_7⟩
 rw [if_pos c6] at H
 have c6b0 : (a0_3 == a1_3) = true := beq_iff_eq.mpr c6
 have c6b1 : (a0_3 != a1_3) = false := bne_eq_false_iff_eq.mpr c6
 clear c6
 obtain rfl := Option.some.inj H
 simp only [Option.some.injEq, Prod.mk.injEq] at H
 obtain ⟨rfl⟩ := H
 go_enter Try.func114, Try.ntmps114
 go_wp2_with (first | ((with_reducible refine gate_dst (N := 2) rfl ?_); refine boxz (cs := #[.int .i64 a0_0, .int .i64 a0_1, .int .i64 a0_2, .int .i64 a0_3]) (t := 65) rfl ?_; intro gb275 hg w7 hbox hb; have n0_ := mk0 (below_step z5_1 hb); have n1_ := mk0 (hbox); have GW275 := mk0 (ge_go (a := w.heap.size) hg (below_size z5_1)); have GE275 := GW275; clear HB; have HB := n0_; have BK275 := n1_; clear n0_ n1_ ; clear hb hbox hg) | ((with_reducible refine gate_dst (N := 3) rfl ?_); refine boxz (cs := #[.int .i64 a1_0, .int .i64 a1_1, .int .i64 a1_2, .int .i64 a1_3]) (t := 65) rfl ?_; intro gb276 hg w8 hbox hb; have n0_ := mk0 (blk_belowB BK275 (pkb BK275) hb); have n1_ := mk0 (below_step z5_5 hb); have n2_ := mk0 (hbox); have GW276 := mk0 (ge_go (a := w.heap.size) hg (below_size z5_5)); have GE276 := GW276; have NB275_276 := mk0 (nb_lt hg (blk_ltB BK275 (pkb BK275))); have NB276_275 := mk0 (nb_gt hg (blk_ltB BK275 (pkb BK275))); clear BK275 HB; have BK275 := n0_; have HB := n1_; have BK276 := n2_; clear n0_ n1_ n2_ ; clear hb hbox hg; have hnb9 := NB275_276.out; have hnc9 := NB276_275.out; obtain ⟨_, _, _, _, _, _, _, _⟩ := be_4 BK275.out; obtain ⟨_, _, _, _, _, _, _, _⟩ := be_4 BK276.out))
 go_ret
 exact ⟨z5_6, z5_7⟩

/-! ### laws_eqPaint: function 106 -/
def laws_eqPaint.f (a0_0 : Int) (a0_1 : Int) (a0_2 : Int) (a0_3 : Int) (a0_4 : Int) (a0_5 : Int) (a0_6 : Int) (a0_7 : Int) (a0_8 : Int) (a0_9 : Int) (a0_10 : Int) (a0_11 : Int) (a0_12 : Int) (a1_0 : Int) (a1_1 : Int) (a1_2 : Int) (a1_3 : Int) (a1_4 : Int) (a1_5 : Int) (a1_6 : Int) (a1_7 : Int) (a1_8 : Int) (a1_9 : Int) (a1_10 : Int) (a1_11 : Int) (a1_12 : Int) : Option (Bool) := if a0_0 = a1_0 then ((laws_eqColor.f a0_1 a0_2 a0_3 a0_4 a1_1 a1_2 a1_3 a1_4).bind fun t279 => (if t279 = true then ((laws_eqColor.f a0_5 a0_6 a0_7 a0_8 a1_5 a1_6 a1_7 a1_8).bind fun t280 => (if t280 = true then ((laws_eqPoint.f a0_9 a0_10 a1_9 a1_10).bind fun t281 => (if t281 = true then ((laws_eqPoint.f a0_11 a0_12 a1_11 a1_12).bind fun t282 => (if t282 = true then (some true) else (some false))) else (some false))) else (some false))) else (some false))) else (some false)
set_option maxHeartbeats 8000000 in
set_option maxRecDepth 100000 in
theorem laws_eqPaint.calls (a0_0 : Int) (a0_1 : Int) (a0_2 : Int) (a0_3 : Int) (a0_4 : Int) (a0_5 : Int) (a0_6 : Int) (a0_7 : Int) (a0_8 : Int) (a0_9 : Int) (a0_10 : Int) (a0_11 : Int) (a0_12 : Int) (a1_0 : Int) (a1_1 : Int) (a1_2 : Int) (a1_3 : Int) (a1_4 : Int) (a1_5 : Int) (a1_6 : Int) (a1_7 : Int) (a1_8 : Int) (a1_9 : Int) (a1_10 : Int) (a1_11 : Int) (a1_12 : Int) (r : Bool) (w : World) (h : laws_eqPaint.f a0_0 a0_1 a0_2 a0_3 a0_4 a0_5 a0_6 a0_7 a0_8 a0_9 a0_10 a0_11 a0_12 a1_0 a1_1 a1_2 a1_3 a1_4 a1_5 a1_6 a1_7 a1_8 a1_9 a1_10 a1_11 a1_12 = some r) :
  Calls Try.prog 106 #[.agg #[.int .i64 a0_0, .int .i64 a0_1, .int .i64 a0_2, .int .i64 a0_3, .int .i64 a0_4, .int .i64 a0_5, .int .i64 a0_6, .int .i64 a0_7, .int .i64 a0_8, .int .i64 a0_9, .int .i64 a0_10, .int .i64 a0_11, .int .i64 a0_12], .agg #[.int .i64 a1_0, .int .i64 a1_1, .int .i64 a1_2, .int .i64 a1_3, .int .i64 a1_4, .int .i64 a1_5, .int .i64 a1_6, .int .i64 a1_7, .int .i64 a1_8, .int .i64 a1_9, .int .i64 a1_10, .int .i64 a1_11, .int .i64 a1_12]] w fun e w' => e = .returned (.bool r) ∧ Below w.heap.size w w' := by
 have hu67 := Try.underlying67
 have hu65 := Try.underlying65
 have hu29 := Try.underlying29
 have HB := mk0 (Below.refl w.heap.size w)
 have H : (if a0_0 = a1_0 then ((laws_eqColor.f a0_1 a0_2 a0_3 a0_4 a1_1 a1_2 a1_3 a1_4).bind fun t279 => (if t279 = true then ((laws_eqColor.f a0_5 a0_6 a0_7 a0_8 a1_5 a1_6 a1_7 a1_8).bind fun t280 => (if t280 = true then ((laws_eqPoint.f a0_9 a0_10 a1_9 a1_10).bind fun t281 => (if t281 = true then ((laws_eqPoint.f a0_11 a0_12 a1_11 a1_12).bind fun t282 => (if t282 = true then (some true) else (some false))) else (some false))) else (some false))) else (some false))) else (some false)) = some r := h
 clear h
 by_cases c3 : a0_0 = a1_0
 rotate_left
 ·rw [if_neg c3] at H
  have c3b0 : (a0_0 == a1_0) = false := beq_eq_false_iff_ne.mpr c3
  have c3b1 : (a0_0 != a1_0) = true := bne_iff_ne.mpr c3
  obtain rfl := Option.some.inj H
  simp only [Option.some.injEq, Prod.mk.injEq] at H
  obtain ⟨rfl⟩ := H
  go_enter Try.func106, Try.ntmps106
  go_wp2_with (first | ((with_reducible refine gate_dst (N := 2) rfl ?_); refine boxz (cs := #[.int .i64 a0_0, .int .i64 a0_1, .int .i64 a0_2, .int .i64 a0_3, .int .i64 a0_4, .int .i64 a0_5, .int .i64 a0_6, .int .i64 a0_7, .int .i64 a0_8, .int .i64 a0_9, .int .i64 a0_10, .int .i64 a0_11, .int .i64 a0_12]) (t := 67) rfl ?_; intro gb277 hg w69 hbox hb; have n0_ := mk0 (below_step z5_1 hb); have n1_ := mk0 (hbox); have GW277 := mk0 (ge_go (a := w.heap.size) hg (below_size z5_1)); have GE277 := GW277; clear HB; have HB := n0_; have BK277 := n1_; clear n0_ n1_ ; clear hb hbox hg) | ((with_reducible refine gate_dst (N := 3) rfl ?_); refine boxz (cs := #[.int .i64 a1_0, .int .i64 a1_1, .int .i64 a1_2, .int .i64 a1_3, .int .i64 a1_4, .int .i64 a1_5, .int .i64 a1_6, .int .i64 a1_7, .int .i64 a1_8, .int .i64 a1_9, .int .i64 a1_10, .int .i64 a1_11, .int .i64 a1_12]) (t := 67) rfl ?_; intro gb278 hg w70 hbox hb; have n0_ := mk0 (blk_belowB BK277 (pkb BK277) hb); have n1_ := mk0 (below_step z5_3 hb); have n2_ := mk0 (hbox); have GW278 := mk0 (ge_go (a := w.heap.size) hg (below_size z5_3)); have GE278 := GW278; have NB277_278 := mk0 (nb_lt hg (blk_ltB BK277 (pkb BK277))); have NB278_277 := mk0 (nb_gt hg (blk_ltB BK277 (pkb BK277))); clear BK277 HB; have BK277 := n0_; have HB := n1_; have BK278 := n2_; clear n0_ n1_ n2_ ; clear hb hbox hg; have hnb71 := NB277_278.out; have hnc71 := NB278_277.out; obtain ⟨_, _, _, _, _, _, _, _, _, _, _, _, _, _, _, _, _, _, _, _, _, _, _, _, _, _⟩ := be_13 BK277.out; obtain ⟨_, _, _, _, _, _, _, _, _, _, _, _, _, _, _, _, _, _, _, _, _, _, _, _, _, _⟩ := be_13 BK278.out))
  go_ret
  exact ⟨z5_6, z5_2⟩
 rw [if_pos c3] at H
 have c3b0 : (a0_0 == a1_0) = true := beq_iff_eq.mpr c3
 have c3b1 : (a0_0 != a1_0) = false := bne_eq_false_iff_eq.mpr c3
 clear c3
 replace H := Option.bind_eq_some_iff.mp H
 obtain ⟨t279, A40, H⟩ := H
 try dsimp only at H
 have A4 := mk0 A40
 clear A40
 by_cases c5 : t279 = true
 rotate_left
 ·replace c5 := Bool.eq_false_iff.mpr c5
  subst c5
  rw [if_neg (show ¬ (false = true) by decide)] at H
  obtain rfl := Option.some.inj H
  simp only [Option.some.injEq, Prod.mk.injEq] at H
  obtain ⟨rfl⟩ := H
  go_enter Try.func106, Try.ntmps106
  go_wp2_with (first | ((with_reducible refine gate_dst (N := 2) rfl ?_); refine boxz (cs := #[.int .i64 a0_0, .int .i64 a0_1, .int .i64 a0_2, .int .i64 a0_3, .int .i64 a0_4, .int .i64 a0_5, .int .i64 a0_6, .int .i64 a0_7, .int .i64 a0_8, .int .i64 a0_9, .int .i64 a0_10, .int .i64 a0_11, .int .i64 a0_12]) (t := 67) rfl ?_; intro gb277 hg w63 hbox hb; have n0_ := mk0 (below_step z5_1 hb); have n1_ := mk0 (hbox); have GW277 := mk0 (ge_go (a := w.heap.size) hg (below_size z5_1)); have GE277 := GW277; clear HB; have HB := n0_; have BK277 := n1_; clear n0_ n1_ ; clear hb hbox hg) | ((with_reducible refine gate_dst (N := 3) rfl ?_); refine boxz (cs := #[.int .i64 a1_0, .int .i64 a1_1, .int .i64 a1_2, .int .i64 a1_3, .int .i64 a1_4, .int .i64 a1_5, .int .i64 a1_6, .int .i64 a1_7, .int .i64 a1_8, .int .i64 a1_9, .int .i64 a1_10, .int .i64 a1_11, .int .i64 a1_12]) (t := 67) rfl ?_; intro gb278 hg w64 hbox hb; have n0_ := mk0 (blk_belowB BK277 (pkb BK277) hb); have n1_ := mk0 (below_step z5_3 hb); have n2_ := mk0 (hbox); have GW278 := mk0 (ge_go (a := w.heap.size) hg (below_size z5_3)); have GE278 := GW278; have NB277_278 := mk0 (nb_lt hg (blk_ltB BK277 (pkb BK277))); have NB278_277 := mk0 (nb_gt hg (blk_ltB BK277 (pkb BK277))); clear BK277 HB; have BK277 := n0_; have HB := n1_; have BK278 := n2_; clear n0_ n1_ n2_ ; clear hb hbox hg; have hnb65 := NB277_278.out; have hnc65 := NB278_277.out; obtain ⟨_, _, _, _, _, _, _, _, _, _, _, _, _, _, _, _, _, _, _, _, _, _, _, _, _, _⟩ := be_13 BK277.out; obtain ⟨_, _, _, _, _, _, _, _, _, _, _, _, _, _, _, _, _, _, _, _, _, _, _, _, _, _⟩ := be_13 BK278.out) | ((with_reducible refine gate_callee (f := 114) rfl ?_); refine goesL_ (some 14) rfl rfl Try.func114 (by kernel_rfl) rfl #[.agg #[.int .i64 a0_1, .int .i64 a0_2, .int .i64 a0_3, .int .i64 a0_4], .agg #[.int .i64 a1_1, .int .i64 a1_2, .int .i64 a1_3, .int .i64 a1_4]] rfl z5_4 ?_; (with_reducible refine (laws_eqColor.calls a0_1 a0_2 a0_3 a0_4 a1_1 a1_2 a1_3 a1_4 false _ A4.out).mono ?_); rintro e w68 ⟨rfl, hb⟩; refine ⟨_, rfl, ?_⟩; have n0_ := mk0 (blk_belowB BK277 (pkb BK277) hb); have n1_ := mk0 (blk_belowB BK278 (pkb BK278) hb); have n2_ := mk0 (below_step z5_2 hb); clear BK277 BK278 HB; have BK277 := n0_; have BK278 := n1_; have HB := n2_; clear n0_ n1_ n2_; (try clear hb)))
  go_ret
  exact ⟨z5_6, z5_2⟩
 subst c5
 rw [if_pos rfl] at H
 replace H := Option.bind_eq_some_iff.mp H
 obtain ⟨t280, A60, H⟩ := H
 try dsimp only at H
 have A6 := mk0 A60
 clear A60
 by_cases c7 : t280 = true
 rotate_left
 ·replace c7 := Bool.eq_false_iff.mpr c7
  subst c7
  rw [if_neg (show ¬ (false = true) by decide)] at H
  obtain rfl := Option.some.inj H
  simp only [Option.some.injEq, Prod.mk.injEq] at H
  obtain ⟨rfl⟩ := H
  go_enter Try.func106, Try.ntmps106
  go_wp2_with (first | ((with_reducible refine gate_dst (N := 2) rfl ?_); refine boxz (cs := #[.int .i64 a0_0, .int .i64 a0_1, .int .i64 a0_2, .int .i64 a0_3, .int .i64 a0_4, .int .i64 a0_5, .int .i64 a0_6, .int .i64 a0_7, .int .i64 a0_8, .int .i64 a0_9, .int .i64 a0_10, .int .i64 a0_11, .int .i64 a0_12]) (t := 67) rfl ?_; intro gb277 hg w54 hbox hb; have n0_ := mk0 (below_step z5_1 hb); have n1_ := mk0 (hbox); have GW277 := mk0 (ge_go (a := w.heap.size) hg (below_size z5_1)); have GE277 := GW277; clear HB; have HB := n0_; have BK277 := n1_; clear n0_ n1_ ; clear hb hbox hg) | ((with_reducible refine gate_dst (N := 3) rfl ?_); refine boxz (cs := #[.int .i64 a1_0, .int .i64 a1_1, .int .i64 a1_2, .int .i64 a1_3, .int .i64 a1_4, .int .i64 a1_5, .int .i64 a1_6, .int .i64 a1_7, .int .i64 a1_8, .int .i64 a1_9, .int .i64 a1_10, .int .i64 a1_11, .int .i64 a1_12]) (t := 67) rfl ?_; intro gb278 hg w55 hbox hb; have n0_ := mk0 (blk_belowB BK277 (pkb BK277) hb); have n1_ := mk0 (below_step z5_3 hb); have n2_ := mk0 (hbox); have GW278 := mk0 (ge_go (a := w.heap.size) hg (below_size z5_3)); have GE278 := GW278; have NB277_278 := mk0 (nb_lt hg (blk_ltB BK277 (pkb BK277))); have NB278_277 := mk0 (nb_gt hg (blk_ltB BK277 (pkb BK277))); clear BK277 HB; have BK277 := n0_; have HB := n1_; have BK278 := n2_; clear n0_ n1_ n2_ ; clear hb hbox hg; have hnb56 := NB277_278.out; have hnc56 := NB278_277.out; obtain ⟨_, _, _, _, _, _, _, _, _, _, _, _, _, _, _, _, _, _, _, _, _, _, _, _, _, _⟩ := be_13 BK277.out; obtain ⟨_, _, _, _, _, _, _, _, _, _, _, _, _, _, _, _, _, _, _, _, _, _, _, _, _, _⟩ := be_13 BK278.out) | ((with_reducible refine gate_callee (f := 114) rfl ?_); refine goesL_ (some 14) rfl rfl Try.func114 (by kernel_rfl) rfl #[.agg #[.int .i64 a0_1, .int .i64 a0_2, .int .i64 a0_3, .int .i64 a0_4], .agg #[.int .i64 a1_1, .int .i64 a1_2, .int .i64 a1_3, .int .i64 a1_4]] rfl z5_4 ?_; (with_reducible refine (laws_eqColor.calls a0_1 a0_2 a0_3 a0_4 a1_1 a1_2 a1_3 a1_4 true _ A4.out).mono ?_); rintro e w59 ⟨rfl, hb⟩; refine ⟨_, rfl, ?_⟩; have n0_ := mk0 (blk_belowB BK277 (pkb BK277) hb); have n1_ := mk0 (blk_belowB BK278 (pkb BK278) hb); have n2_ := mk0 (below_step z5_2 hb); clear BK277 BK278 HB; have BK277 := n0_; have BK278 := n1_; have HB := n2_; clear n0_ n1_ n2_; (try clear hb); obtain ⟨_, _, _, _, _, _, _, _, _, _, _, _, _, _, _, _, _, _, _, _, _, _, _, _, _, _⟩ := be_13 BK277.out; obtain ⟨_, _, _, _, _, _, _, _, _, _, _, _, _, _, _, _, _, _, _, _, _, _, _, _, _, _⟩ := be_13 BK278.out) | ((with_reducible refine gate_callee (f := 114) rfl ?_); refine goesL_ (some 20) rfl rfl Try.func114 (by kernel_rfl) rfl #[.agg #[.int .i64 a0_5, .int .i64 a0_6, .int .i64 a0_7, .int .i64 a0_8], .agg #[.int .i64 a1_5, .int .i64 a1_6, .int .i64 a1_7, .int .i64 a1_8]] rfl z5_4 ?_; (with_reducible refine (laws_eqColor.calls a0_5 a0_6 a0_7 a0_8 a1_5 a1_6 a1_7 a1_8 false _ A6.out).mono ?_); rintro e w62 ⟨rfl, hb⟩; refine ⟨_, rfl, ?_⟩; have n0_ := mk0 (blk_belowB BK277 (pkb BK277) hb); have n1_ := mk0 (blk_belowB BK278 (pkb BK278) hb); have n2_ := mk0 (below_step z5_2 hb); clear BK277 BK278 HB; have BK277 := n0_; have BK278 := n1_; have HB := n2_; clear n0_ n1_ n2_; (try clear hb)))
  go_ret
  exact ⟨z5_6, z5_2⟩
 subst c7
 rw [if_pos rfl] at H
 replace H := Option.bind_eq_some_iff.mp H
 obtain ⟨t281, A80, H⟩ := H
 try dsimp only at H
 have A8 := mk0 A80
 clear A80
 by_cases c9 : t281 = true
 rotate_left
 ·replace c9 := Bool.eq_false_iff.mpr c9
  subst c9
  rw [if_neg (show ¬ (false = true) by decide)] at H
  obtain rfl := Option.some.inj H
  simp only [Option.some.injEq, Prod.mk.injEq] at H
  obtain ⟨rfl⟩ := H
  go_enter Try.func106, Try.ntmps106
  go_wp2_with (first | ((with_reducible refine gate_dst (N := 2) rfl ?_); refine boxz (cs := #[.int .i64 a0_0, .int .i64 a0_1, .int .i64 a0_2, .int .i64 a0_3, .int .i64 a0_4, .int .i64 a0_5, .int .i64 a0_6, .int .i64 a0_7, .int .i64 a0_8, .int .i64 a0_9, .int .i64 a0_10, .int .i64 a0_11, .int .i64 a0_12]) (t := 67) rfl ?_; intro gb277 hg w42 hbox hb; have n0_ := mk0 (below_step z5_1 hb); have n1_ := mk0 (hbox); have GW277 := mk0 (ge_go (a := w.heap.size) hg (below_size z5_1)); have GE277 := GW277; clear HB; have HB := n0_; have BK277 := n1_; clear n0_ n1_ ; clear hb hbox hg) | ((with_reducible refine gate_dst (N := 3) rfl ?_); refine boxz (cs := #[.int .i64 a1_0, .int .i64 a1_1, .int .i64 a1_2, .int .i64 a1_3, .int .i64 a1_4, .int .i64 a1_5, .int .i64 a1_6, .int .i64 a1_7, .int .i64 a1_8, .int .i64 a1_9, .int .i64 a1_10, .int .i64 a1_11, .int .i64 a1_12]) (t := 67) rfl ?_; intro gb278 hg w43 hbox hb; have n0_ := mk0 (blk_belowB BK277 (pkb BK277) hb); have n1_ := mk0 (below_step z5_3 hb); have n2_ := mk0 (hbox); have GW278 := mk0 (ge_go (a := w.heap.size) hg (below_size z5_3)); have GE278 := GW278; have NB277_278 := mk0 (nb_lt hg (blk_ltB BK277 (pkb BK277))); have NB278_277 := mk0 (nb_gt hg (blk_ltB BK277 (pkb BK277))); clear BK277 HB; have BK277 := n0_; have HB := n1_; have BK278 := n2_; clear n0_ n1_ n2_ ; clear hb hbox hg; have hnb44 := NB277_278.out; have hnc44 := NB278_277.out; obtain ⟨_, _, _, _, _, _, _, _, _, _, _, _, _, _, _, _, _, _, _, _, _, _, _, _, _, _⟩ := be_13 BK277.out; obtain ⟨_, _, _, _, _, _, _, _, _, _, _, _, _, _, _, _, _, _, _, _, _, _, _, _, _, _⟩ := be_13 BK278.out) | ((with_reducible refine gate_callee (f := 114) rfl ?_); refine goesL_ (some 14) rfl rfl Try.func114 (by kernel_rfl) rfl #[.agg #[.int .i64 a0_1, .int .i64 a0_2, .int .i64 a0_3, .int .i64 a0_4], .agg #[.int .i64 a1_1, .int .i64 a1_2, .int .i64 a1_3, .int .i64 a1_4]] rfl z5_4 ?_; (with_reducible refine (laws_eqColor.calls a0_1 a0_2 a0_3 a0_4 a1_1 a1_2 a1_3 a1_4 true _ A4.out).mono ?_); rintro e w47 ⟨rfl, hb⟩; refine ⟨_, rfl, ?_⟩; have n0_ := mk0 (blk_belowB BK277 (pkb BK277) hb); have n1_ := mk0 (blk_belowB BK278 (pkb BK278) hb); have n2_ := mk0 (below_step z5_2 hb); clear BK277 BK278 HB; have BK277 := n0_; have BK278 := n1_; have HB := n2_; clear n0_ n1_ n2_; (try clear hb); obtain ⟨_, _, _, _, _, _, _, _, _, _, _, _, _, _, _, _, _, _, _, _, _, _, _, _, _, _⟩ := be_13 BK277.out; obtain ⟨_, _, _, _, _, _, _, _, _, _, _, _, _, _, _, _, _, _, _, _, _, _, _, _, _, _⟩ := be_13 BK278.out) | ((with_reducible refine gate_callee (f := 114) rfl ?_); refine goesL_ (some 20) rfl rfl Try.func114 (by kernel_rfl) rfl #[.agg #[.int .i64 a0_5, .int .i64 a0_6, .int .i64 a0_7, .int .i64 a0_8], .agg #[.int .i64 a1_5, .int .i64 a1_6, .int .i64 a1_7, .int .i64 a1_8]] rfl z5_4 ?_; (with_reducible refine (laws_eqColor.calls a0_5 a0_6 a0_7 a0_8 a1_5 a1_6 a1_7 a1_8 true _ A6.out).mono ?_); rintro e w50 ⟨rfl, hb⟩; refine ⟨_, rfl, ?_⟩; have n0_ := mk0 (blk_belowB BK277 (pkb BK277) hb); have n1_ := mk0 (blk_belowB BK278 (pkb BK278) hb); have n2_ := mk0 (below_step z5_2 hb); clear BK277 BK278 HB; have BK277 := n0_; have BK278 := n1_; have HB := n2_; clear n0_ n1_ n2_; (try clear hb); obtain ⟨_, _, _, _, _, _, _, _, _, _, _, _, _, _, _, _, _, _, _, _, _, _, _, _, _, _⟩ := be_13 BK277.out; obtain ⟨_, _, _, _, _, _, _, _, _, _, _, _, _, _, _, _, _, _, _, _, _, _, _, _, _, _⟩ := be_13 BK278.out) | ((with_reducible refine gate_callee (f := 64) rfl ?_); refine goesL_ (some 26) rfl rfl Try.func64 (by kernel_rfl) rfl #[.agg #[.int .i64 a0_9, .int .i64 a0_10], .agg #[.int .i64 a1_9, .int .i64 a1_10]] rfl z5_4 ?_; (with_reducible refine (laws_eqPoint.calls a0_9 a0_10 a1_9 a1_10 false _ A8.out).mono ?_); rintro e w53 ⟨rfl, hb⟩; refine ⟨_, rfl, ?_⟩; have n0_ := mk0 (blk_belowB BK277 (pkb BK277) hb); have n1_ := mk0 (blk_belowB BK278 (pkb BK278) hb); have n2_ := mk0 (below_step z5_2 hb); clear BK277 BK278 HB; have BK277 := n0_; have BK278 := n1_; have HB := n2_; clear n0_ n1_ n2_; (try clear hb)))
  go_ret
  exact ⟨z5_6, z5_2⟩
 subst c9
 rw [if_pos rfl] at H
 replace H := Option.bind_eq_some_iff.mp H
 obtain ⟨t282, A100, H⟩ := H
 try dsimp only at H
 have A10 := mk0 A100
 clear A100
 by_cases c11 : t282 = true
 ·subst c11
  rw [if_pos rfl] at H
  obtain rfl := Option.some.inj H
  simp only [Option.some.injEq, Prod.mk.injEq] at H
  obtain ⟨rfl⟩ := H
  go_enter Try.func106, Try.ntmps106
  go_wp2_with (first | ((with_reducible refine gate_dst (N := 2) rfl ?_); refine boxz (cs := #[.int .i64 a0_0, .int .i64 a0_1, .int .i64 a0_2, .int .i64 a0_3, .int .i64 a0_4, .int .i64 a0_5, .int .i64 a0_6, .int .i64 a0_7, .int .i64 a0_8, .int .i64 a0_9, .int .i64 a0_10, .int .i64 a0_11, .int .i64 a0_12]) (t := 67) rfl ?_; intro gb277 hg w12 hbox hb; have n0_ := mk0 (below_step z5_1 hb); have n1_ := mk0 (hbox); have GW277 := mk0 (ge_go (a := w.heap.size) hg (below_size z5_1)); have GE277 := GW277; clear HB; have HB := n0_; have BK277 := n1_; clear n0_ n1_ ; clear hb hbox hg) | ((with_reducible refine gate_dst (N := 3) rfl ?_); refine boxz (cs := #[.int .i64 a1_0, .int .i64 a1_1, .int .i64 a1_2, .int .i64 a1_3, .int .i64 a1_4, .int .i64 a1_5, .int .i64 a1_6, .int .i64 a1_7, .int .i64 a1_8, .int .i64 a1_9, .int .i64 a1_10, .int .i64 a1_11, .int .i64 a1_12]) (t := 67) rfl ?_; intro gb278 hg w13 hbox hb; have n0_ := mk0 (blk_belowB BK277 (pkb BK277) hb); have n1_ := mk0 (below_step z5_3 hb); have n2_ := mk0 (hbox); have GW278 := mk0 (ge_go (a := w.heap.size) hg (below_size z5_3)); have GE278 := GW278; have NB277_278 := mk0 (nb_lt hg (blk_ltB BK277 (pkb BK277))); have NB278_277 := mk0 (nb_gt hg (blk_ltB BK277 (pkb BK277))); clear BK277 HB; have BK277 := n0_; have HB := n1_; have BK278 := n2_; clear n0_ n1_ n2_ ; clear hb hbox hg; have hnb14 := NB277_278.out; have hnc14 := NB278_277.out; obtain ⟨_, _, _, _, _, _, _, _, _, _, _, _, _, _, _, _, _, _, _, _, _, _, _, _, _, _⟩ := be_13 BK277.out; obtain ⟨_, _, _, _, _, _, _, _, _, _, _, _, _, _, _, _, _, _, _, _, _, _, _, _, _, _⟩ := be_13 BK278.out) | ((with_reducible refine gate_callee (f := 114) rfl ?_); refine goesL_ (some 14) rfl rfl Try.func114 (by kernel_rfl) rfl #[.agg #[.int .i64 a0_1, .int .i64 a0_2, .int .i64 a0_3, .int .i64 a0_4], .agg #[.int .i64 a1_1, .int .i64 a1_2, .int .i64 a1_3, .int .i64 a1_4]] rfl z5_4 ?_; (with_reducible refine (laws_eqColor.calls a0_1 a0_2 a0_3 a0_4 a1_1 a1_2 a1_3 a1_4 true _ A4.out).mono ?_); rintro e w17 ⟨rfl, hb⟩; refine ⟨_, rfl, ?_⟩; have n0_ := mk0 (blk_belowB BK277 (pkb BK277) hb); have n1_ := mk0 (blk_belowB BK278 (pkb BK278) hb); have n2_ := mk0 (below_step z5_2 hb); clear BK277 BK278 HB; have BK277 := n0_; have BK278 := n1_; have HB := n2_; clear n0_ n1_ n2_; (try clear hb); obtain ⟨_, _, _, _, _, _, _, _, _, _, _, _, _, _, _, _, _, _, _, _, _, _, _, _, _, _⟩ := be_13 BK277.out; obtain ⟨_, _, _, _, _, _, _, _, _, _, _, _, _, _, _, _, _, _, _, _, _, _, _, _, _, _⟩ := be_13 BK278.out) | ((with_reducible refine gate_callee (f := 114) rfl ?_); refine goesL_ (some 20) rfl rfl Try.func114 (by kernel_rfl) rfl #[.agg #[.int .i64 a0_5, .int .i64 a0_6, .int .i64 a0_7, .int .i64 a0_8], .agg #[.int .i64 a1_5, .int .i64 a1_6, .int .i64 a1_7, .int .i64 a1_8]] rfl z5_4 ?_; (with_reducible refine (laws_eqColor.calls a0_5 a0_6 a0_7 a0_8 a1_5 a1_6 a1_7 a1_8 true _ A6.out).mono ?_); rintro e w20 ⟨rfl, hb⟩; refine ⟨_, rfl, ?_⟩; have n0_ := mk0 (blk_belowB BK277 (pkb BK277) hb); have n1_ := mk0 (blk_belowB BK278 (pkb BK278) hb); have n2_ := mk0 (below_step z5_2 hb); clear BK277 BK278 HB; have BK277 := n0_; have BK278 := n1_; have HB := n2_; clear n0_ n1_ n2_; (try clear hb); obtain ⟨_, _, _, _, _, _, _, _, _, _, _, _, _, _, _, _, _, _, _, _, _, _, _, _, _, _⟩ := be_13 BK277.out; obtain ⟨_, _, _, _, _, _, _, _, _, _, _, _, _, _, _, _, _, _, _, _, _, _, _, _, _, _⟩ := be_13 BK278.out) | ((with_reducible refine gate_callee (f := 64) rfl ?_); refine goesL_ (some 26) rfl rfl Try.func64 (by kernel_rfl) rfl #[.agg #[.int .i64 a0_9, .int .i64 a0_10], .agg #[.int .i64 a1_9, .int .i64 a1_10]] rfl z5_4 ?_; (with_reducible refine (laws_eqPoint.calls a0_9 a0_10 a1_9 a1_10 true _ A8.out).mono ?_); rintro e w23 ⟨rfl, hb⟩; refine ⟨_, rfl, ?_⟩; have n0_ := mk0 (blk_belowB BK277 (pkb BK277) hb); have n1_ := mk0 (blk_belowB BK278 (pkb BK278) hb); have n2_ := mk0 (below_step z5_2 hb); clear BK277 BK278 HB; have BK277 := n0_; have BK278 := n1_; have HB := n2_; clear n0_ n1_ n2_; (try clear hb); obtain ⟨_, _, _, _, _, _, _, _, _, _, _, _, _, _, _, _, _, _, _, _, _, _, _, _, _, _⟩ := be_13 BK277.out; obtain ⟨_, _, _, _, _, _, _, _, _, _, _, _, _, _, _, _, _, _, _, _, _, _, _, _, _, _⟩ := be_13 BK278.out) | ((with_reducible refine gate_callee (f := 64) rfl ?_); refine goesL_ (some 32) rfl rfl Try.func64 (by kernel_rfl) rfl #[.agg #[.int .i64 a0_11, .int .i64 a0_12], .agg #[.int .i64 a1_11, .int .i64 a1_12]] rfl z5_4 ?_; (with_reducible refine (laws_eqPoint.calls a0_11 a0_12 a1_11 a1_12 true _ A10.out).mono ?_); rintro e w26 ⟨rfl, hb⟩; refine ⟨_, rfl, ?_⟩; have n0_ := mk0 (blk_belowB BK277 (pkb BK277) hb); have n1_ := mk0 (blk_belowB BK278 (pkb BK278) hb); have n2_ := mk0 (below_step z5_2 hb); clear BK277 BK278 HB; have BK277 := n0_; have BK278 := n1_; have HB := n2_; clear n0_ n1_ n2_; (try clear hb)))
  go_ret
  exact ⟨z5_6, z5_2⟩
 replace c11 := Bool.eq_false_iff.mpr c11
 subst c11
 rw [if_neg (show ¬ (false = true) by decide)] at H
 obtain rfl := Option.some.inj H
 simp only [Option.some.injEq, Prod.mk.injEq] at H
 obtain ⟨rfl⟩ := H
 go_enter Try.func106, Try.ntmps106
 go_wp2_with (first | ((with_reducible refine gate_dst (N := 2) rfl ?_); refine boxz (cs := #[.int .i64 a0_0, .int .i64 a0_1, .int .i64 a0_2, .int .i64 a0_3, .int .i64 a0_4, .int .i64 a0_5, .int .i64 a0_6, .int .i64 a0_7, .int .i64 a0_8, .int .i64 a0_9, .int .i64 a0_10, .int .i64 a0_11, .int .i64 a0_12]) (t := 67) rfl ?_; intro gb277 hg w27 hbox hb; have n0_ := mk0 (below_step z5_1 hb); have n1_ := mk0 (hbox); have GW277 := mk0 (ge_go (a := w.heap.size) hg (below_size z5_1)); have GE277 := GW277; clear HB; have HB := n0_; have BK277 := n1_; clear n0_ n1_ ; clear hb hbox hg) | ((with_reducible refine gate_dst (N := 3) rfl ?_); refine boxz (cs := #[.int .i64 a1_0, .int .i64 a1_1, .int .i64 a1_2, .int .i64 a1_3, .int .i64 a1_4, .int .i64 a1_5, .int .i64 a1_6, .int .i64 a1_7, .int .i64 a1_8, .int .i64 a1_9, .int .i64 a1_10, .int .i64 a1_11, .int .i64 a1_12]) (t := 67) rfl ?_; intro gb278 hg w28 hbox hb; have n0_ := mk0 (blk_belowB BK277 (pkb BK277) hb); have n1_ := mk0 (below_step z5_3 hb); have n2_ := mk0 (hbox); have GW278 := mk0 (ge_go (a := w.heap.size) hg (below_size z5_3)); have GE278 := GW278; have NB277_278 := mk0 (nb_lt hg (blk_ltB BK277 (pkb BK277))); have NB278_277 := mk0 (nb_gt hg (blk_ltB BK277 (pkb BK277))); clear BK277 HB; have BK277 := n0_; have HB := n1_; have BK278 := n2_; clear n0_ n1_ n2_ ; clear hb hbox hg; have hnb29 := NB277_278.out; have hnc29 := NB278_277.out; obtain ⟨_, _, _, _, _, _, _, _, _, _, _, _, _, _, _, _, _, _, _, _, _, _, _, _, _, _⟩ := be_13 BK277.out; obtain ⟨_, _, _, _, _, _, _, _, _, _, _, _, _, _, _, _, _, _, _, _, _, _, _, _, _, _⟩ := be_13 BK278.out) | ((with_reducible refine gate_callee (f := 114) rfl ?_); refine goesL_ (some 14) rfl rfl Try.func114 (by kernel_rfl) rfl #[.agg #[.int .i64 a0_1, .int .i64 a0_2, .int .i64 a0_3, .int .i64 a0_4], .agg #[.int .i64 a1_1, .int .i64 a1_2, .int .i64 a1_3, .int .i64 a1_4]] rfl z5_4 ?_; (with_reducible refine (laws_eqColor.calls a0_1 a0_2 a0_3 a0_4 a1_1 a1_2 a1_3 a1_4 true _ A4.out).mono ?_); rintro e w32 ⟨rfl, hb⟩; refine ⟨_, rfl, ?_⟩; have n0_ := mk0 (blk_belowB BK277 (pkb BK277) hb); have n1_ := mk0 (blk_belowB BK278 (pkb BK278) hb); have n2_ := mk0 (below_step z5_2 hb); clear BK277 BK278 HB; have BK277 := n0_; have BK278 := n1_; have HB := n2_; clear n0_ n1_ n2_; (try clear hb); obtain ⟨_, _, _, _, _, _, _, _, _, _, _, _, _, _, _, _, _, _, _, _, _, _, _, _, _, _⟩ := be_13 BK277.out; obtain ⟨_, _, _, _, _, _, _, _, _, _, _, _, _, _, _, _, _, _, _, _, _, _, _, _, _, _⟩ := be_13 BK278.out) | ((with_reducible refine gate_callee (f := 114) rfl ?_); refine goesL_ (some 20) rfl rfl Try.func114 (by kernel_rfl) rfl #[.agg #[.int .i64 a0_5, .int .i64 a0_6, .int .i64 a0_7, .int .i64 a0_8], .agg #[.int .i64 a1_5, .int .i64 a1_6, .int .i64 a1_7, .int .i64 a1_8]] rfl z5_4 ?_; (with_reducible refine (laws_eqColor.calls a0_5 a0_6 a0_7 a0_8 a1_5 a1_6 a1_7 a1_8 true _ A6.out).mono ?_); rintro e w35 ⟨rfl, hb⟩; refine ⟨_, rfl, ?_⟩; have n0_ := mk0 (blk_belowB BK277 (pkb BK277) hb); have n1_ := mk0 (blk_belowB BK278 (pkb BK278) hb); have n2_ := mk0 (below_step z5_2 hb); clear BK277 BK278 HB; have BK277 := n0_; have BK278 := n1_; have HB := n2_; clear n0_ n1_ n2_; (try clear hb); obtain ⟨_, _, _, _, _, _, _, _, _, _, _, _, _, _, _, _, _, _, _, _, _, _, _, _, _, _⟩ := be_13 BK277.out; obtain ⟨_, _, _, _, _, _, _, _, _, _, _, _, _, _, _, _, _, _, _, _, _, _, _, _, _, _⟩ := be_13 BK278.out) | ((with_reducible refine gate_callee (f := 64) rfl ?_); refine goesL_ (some 26) rfl rfl Try.func64 (by kernel_rfl) rfl #[.agg #[.int .i64 a0_9, .int .i64 a0_10], .agg #[.int .i64 a1_9, .int .i64 a1_10]] rfl z5_4 ?_; (with_reducible refine (laws_eqPoint.calls a0_9 a0_10 a1_9 a1_10 true _ A8.out).mono ?_); rintro e w38 ⟨rfl, hb⟩; refine ⟨_, rfl, ?_⟩; have n0_ := mk0 (blk_belowB BK277 (pkb BK277) hb); have n1_ := mk0 (blk_belowB BK278 (pkb BK278) hb); have n2_ := mk0 (below_step z5_2 hb); clear BK277 BK278 HB; have BK277 := n0_; have BK278 := n1_; have HB := n2_; clear n0_ n1_ n2_; (try clear hb); obtain ⟨_, _, _, _, _, _, _, _, _, _, _, _, _, _, _, _, _, _, _, _, _, _, _, _, _, _⟩ := be_13 BK277.out; obtain ⟨_, _, _, _, _, _, _, _, _, _, _, _, _, _, _, _, _, _, _, _, _, _, _, _, _, _⟩ := be_13 BK278.out) | ((with_reducible refine gate_callee (f := 64) rfl ?_); refine goesL_ (some 32) rfl rfl Try.func64 (by kernel_rfl) rfl #[.agg #[.int .i64 a0_11, .int .i64 a0_12], .agg #[.int .i64 a1_11, .int .i64 a1_12]] rfl z5_4 ?_; (with_reducible refine (laws_eqPoint.calls a0_11 a0_12 a1_11 a1_12 false _ A10.out).mono ?_); rintro e w41 ⟨rfl, hb⟩; refine ⟨_, rfl, ?_⟩; have n0_ := mk0 (blk_belowB BK277 (pkb BK277) hb); have n1_ := mk0 (blk_belowB BK278 (pkb BK278) hb); have n2_ := mk0 (below_step z5_2 hb); clear BK277 BK278 HB; have BK277 := n0_; have BK278 := n1_; have HB := n2_; clear n0_ n1_ n2_; (try clear hb)))
 go_ret
 exact ⟨z5_6, z5_2⟩

/-! ### laws_eqNode: function 90 -/
def laws_eqNode.f (k : Nat) (a0_0 : Int) (a0_1 : Int) (a0_2 : Bool) (a0_3 : Int) (a0_4 : Int) (a0_5 : Int) (a0_6 : Int) (a0_7 : Int) (a0_8 : Int) (l0_9 : List Int) (l0_10 : List (S29)) (a0_11 : Bool) (a0_12 : Int) (l0_13 : List Int) (a0_14 : Int) (a0_15 : Int) (a0_16 : Int) (a0_17 : Int) (a0_18 : Int) (a0_19 : Int) (a0_20 : Int) (a0_21 : Int) (a0_22 : Int) (a0_23 : Int) (a0_24 : Int) (a0_25 : Int) (a0_26 : Int) (a0_27 : Int) (a0_28 : Int) (l0_29 : List Int) (l0_30 : List (S29)) (a1_0 : Int) (a1_1 : Int) (a1_2 : Bool) (a1_3 : Int) (a1_4 : Int) (a1_5 : Int) (a1_6 : Int) (a1_7 : Int) (a1_8 : Int) (l1_9 : List Int) (l1_10 : List (S29)) (a1_11 : Bool) (a1_12 : Int) (l1_13 : List Int) (a1_14 : Int) (a1_15 : Int) (a1_16 : Int) (a1_17 : Int) (a1_18 : Int) (a1_19 : Int) (a1_20 : Int) (a1_21 : Int) (a1_22 : Int) (a1_23 : Int) (a1_24 : Int) (a1_25 : Int) (a1_26 : Int) (a1_27 : Int) (a1_28 : Int) (l1_29 : List Int) (l1_30 : List (S29)) : Option (Bool) := if a0_0 = a1_0 then (if a0_1 = a1_1 then (if (a0_2 != a1_2) = true then (some false) else ((laws_eqMat.f a0_3 a0_4 a0_5 a0_6 a0_7 a0_8 a1_3 a1_4 a1_5 a1_6 a1_7 a1_8).bind fun t285 => (if t285 = true then ((laws_eqPath.f k l0_9 l0_10 l1_9 l1_10).bind fun t286 => (if t286 = true then (if (a0_11 != a1_11) = true then (some false) else (if a0_12 = a1_12 then ((laws_eqIntS.f k l0_13 l1_13).bind fun t287 => (if t287 = true then ((laws_eqPaint.f a0_14 a0_15 a0_16 a0_17 a0_18 a0_19 a0_20 a0_21 a0_22 a0_23 a0_24 a0_25 a0_26 a1_14 a1_15 a1_16 a1_17 a1_18 a1_19 a1_20 a1_21 a1_22 a1_23 a1_24 a1_25 a1_26).bind fun t288 => (if t288 = true then (if a0_27 = a1_27 then (if a0_28 = a1_28 then ((laws_eqPath.f k l0_29 l0_30 l1_29 l1_30).bind fun t289 => (if t289 = true then (some true) else (some false))) else (some false)) else (some false)) else (some false))) else (some false))) else (some false))) else (some false))) else (some false)))) else (some false)) else (some false)
theorem laws_eqNode.mono : ∀ a0 a1 a2 a3 a4 a5 a6 a7 a8 a9 a10 a11 a12 a13 a14 a15 a16 a17 a18 a19 a20 a21 a22 a23 a24 a25 a26 a27 a28 a29 a30 a31 a32 a33 a34 a35 a36 a37 a38 a39 a40 a41 a42 a43 a44 a45 a46 a47 a48 a49 a50 a51 a52 a53 a54 a55 a56 a57 a58 a59 a60 a61 k, LeO (laws_eqNode.f k a0 a1 a2 a3 a4 a5 a6 a7 a8 a9 a10 a11 a12 a13 a14 a15 a16 a17 a18 a19 a20 a21 a22 a23 a24 a25 a26 a27 a28 a29 a30 a31 a32 a33 a34 a35 a36 a37 a38 a39 a40 a41 a42 a43 a44 a45 a46 a47 a48 a49 a50 a51 a52 a53 a54 a55 a56 a57 a58 a59 a60 a61) (laws_eqNode.f (k + 1) a0 a1 a2 a3 a4 a5 a6 a7 a8 a9 a10 a11 a12 a13 a14 a15 a16 a17 a18 a19 a20 a21 a22 a23 a24 a25 a26 a27 a28 a29 a30 a31 a32 a33 a34 a35 a36 a37 a38 a39 a40 a41 a42 a43 a44 a45 a46 a47 a48 a49 a50 a51 a52 a53 a54 a55 a56 a57 a58 a59 a60 a61) := by
 intro a0 a1 a2 a3 a4 a5 a6 a7 a8 a9 a10 a11 a12 a13 a14 a15 a16 a17 a18 a19 a20 a21 a22 a23 a24 a25 a26 a27 a28 a29 a30 a31 a32 a33 a34 a35 a36 a37 a38 a39 a40 a41 a42 a43 a44 a45 a46 a47 a48 a49 a50 a51 a52 a53 a54 a55 a56 a57 a58 a59 a60 a61 k
 unfold laws_eqNode.f
 repeat' first
   | (with_reducible exact laws_eqIntS.mono _ _ _)
   | (with_reducible exact laws_eqPath.mono _ _ _ _ _)
   | (with_reducible exact LeO.refl _)
   | (with_reducible exact LeO.none _)
   | (with_reducible refine LeO.ite ?_ ?_)
   | (with_reducible refine LeO.bind ?_ (fun _ => ?_))
set_option maxHeartbeats 8000000 in
set_option maxRecDepth 100000 in
theorem laws_eqNode.calls (k : Nat) (a0_0 : Int) (a0_1 : Int) (a0_2 : Bool) (a0_3 : Int) (a0_4 : Int) (a0_5 : Int) (a0_6 : Int) (a0_7 : Int) (a0_8 : Int) (A0_9 : Option Addr) (c0_9 : Nat) (l0_9 : List Int) (A0_10 : Option Addr) (c0_10 : Nat) (l0_10 : List (S29)) (a0_11 : Bool) (a0_12 : Int) (A0_13 : Option Addr) (c0_13 : Nat) (l0_13 : List Int) (a0_14 : Int) (a0_15 : Int) (a0_16 : Int) (a0_17 : Int) (a0_18 : Int) (a0_19 : Int) (a0_20 : Int) (a0_21 : Int) (a0_22 : Int) (a0_23 : Int) (a0_24 : Int) (a0_25 : Int) (a0_26 : Int) (a0_27 : Int) (a0_28 : Int) (A0_29 : Option Addr) (c0_29 : Nat) (l0_29 : List Int) (A0_30 : Option Addr) (c0_30 : Nat) (l0_30 : List (S29)) (a1_0 : Int) (a1_1 : Int) (a1_2 : Bool) (a1_3 : Int) (a1_4 : Int) (a1_5 : Int) (a1_6 : Int) (a1_7 : Int) (a1_8 : Int) (A1_9 : Option Addr) (c1_9 : Nat) (l1_9 : List Int) (A1_10 : Option Addr) (c1_10 : Nat) (l1_10 : List (S29)) (a1_11 : Bool) (a1_12 : Int) (A1_13 : Option Addr) (c1_13 : Nat) (l1_13 : List Int) (a1_14 : Int) (a1_15 : Int) (a1_16 : Int) (a1_17 : Int) (a1_18 : Int) (a1_19 : Int) (a1_20 : Int) (a1_21 : Int) (a1_22 : Int) (a1_23 : Int) (a1_24 : Int) (a1_25 : Int) (a1_26 : Int) (a1_27 : Int) (a1_28 : Int) (A1_29 : Option Addr) (c1_29 : Nat) (l1_29 : List Int) (A1_30 : Option Addr) (c1_30 : Nat) (l1_30 : List (S29)) (r : Bool) (w : World) (hr0_9 : Kd.C (Kd.int .i64) w A0_9 l0_9.length l0_9) (hc0_9 : l0_9.length ≤ c0_9) (hr0_10 : Kd.C k29 w A0_10 l0_10.length l0_10) (hc0_10 : l0_10.length ≤ c0_10) (hr0_13 : Kd.C (Kd.int .i64) w A0_13 l0_13.length l0_13) (hc0_13 : l0_13.length ≤ c0_13) (hr0_29 : Kd.C (Kd.int .i64) w A0_29 l0_29.length l0_29) (hc0_29 : l0_29.length ≤ c0_29) (hr0_30 : Kd.C k29 w A0_30 l0_30.length l0_30) (hc0_30 : l0_30.length ≤ c0_30) (hr1_9 : Kd.C (Kd.int .i64) w A1_9 l1_9.length l1_9) (hc1_9 : l1_9.length ≤ c1_9) (hr1_10 : Kd.C k29 w A1_10 l1_10.length l1_10) (hc1_10 : l1_10.length ≤ c1_10) (hr1_13 : Kd.C (Kd.int .i64) w A1_13 l1_13.length l1_13) (hc1_13 : l1_13.length ≤ c1_13) (hr1_29 : Kd.C (Kd.int .i64) w A1_29 l1_29.length l1_29) (hc1_29 : l1_29.length ≤ c1_29) (hr1_30 : Kd.C k29 w A1_30 l1_30.length l1_30) (hc1_30 : l1_30.length ≤ c1_30) (hT : r = true) (h : laws_eqNode.f k a0_0 a0_1 a0_2 a0_3 a0_4 a0_5 a0_6 a0_7 a0_8 l0_9 l0_10 a0_11 a0_12 l0_13 a0_14 a0_15 a0_16 a0_17 a0_18 a0_19 a0_20 a0_21 a0_22 a0_23 a0_24 a0_25 a0_26 a0_27 a0_28 l0_29 l0_30 a1_0 a1_1 a1_2 a1_3 a1_4 a1_5 a1_6 a1_7 a1_8 l1_9 l1_10 a1_11 a1_12 l1_13 a1_14 a1_15 a1_16 a1_17 a1_18 a1_19 a1_20 a1_21 a1_22 a1_23 a1_24 a1_25 a1_26 a1_27 a1_28 l1_29 l1_30 = some r) :
  Calls Try.prog 90 #[.agg #[.int .i64 a0_0, .int .i64 a0_1, .bool a0_2, .int .i64 a0_3, .int .i64 a0_4, .int .i64 a0_5, .int .i64 a0_6, .int .i64 a0_7, .int .i64 a0_8, .slice A0_9 l0_9.length c0_9, .slice A0_10 l0_10.length c0_10, .bool a0_11, .int .i64 a0_12, .slice A0_13 l0_13.length c0_13, .int .i64 a0_14, .int .i64 a0_15, .int .i64 a0_16, .int .i64 a0_17, .int .i64 a0_18, .int .i64 a0_19, .int .i64 a0_20, .int .i64 a0_21, .int .i64 a0_22, .int .i64 a0_23, .int .i64 a0_24, .int .i64 a0_25, .int .i64 a0_26, .int .i64 a0_27, .int .i64 a0_28, .slice A0_29 l0_29.length c0_29, .slice A0_30 l0_30.length c0_30], .agg #[.int .i64 a1_0, .int .i64 a1_1, .bool a1_2, .int .i64 a1_3, .int .i64 a1_4, .int .i64 a1_5, .int .i64 a1_6, .int .i64 a1_7, .int .i64 a1_8, .slice A1_9 l1_9.length c1_9, .slice A1_10 l1_10.length c1_10, .bool a1_11, .int .i64 a1_12, .slice A1_13 l1_13.length c1_13, .int .i64 a1_14, .int .i64 a1_15, .int .i64 a1_16, .int .i64 a1_17, .int .i64 a1_18, .int .i64 a1_19, .int .i64 a1_20, .int .i64 a1_21, .int .i64 a1_22, .int .i64 a1_23, .int .i64 a1_24, .int .i64 a1_25, .int .i64 a1_26, .int .i64 a1_27, .int .i64 a1_28, .slice A1_29 l1_29.length c1_29, .slice A1_30 l1_30.length c1_30]] w fun e w' => e = .returned (.bool r) ∧ Below w.heap.size w w' := by
 have hu69 := Try.underlying69
 have hu61 := Try.underlying61
 have hu63 := Try.underlying63
 have hu67 := Try.underlying67
 have HR0_9 := mk0 hr0_9
 have HC0_9 := mk0 hc0_9
 clear hr0_9 hc0_9
 have HR0_10 := mk0 hr0_10
 have HC0_10 := mk0 hc0_10
 clear hr0_10 hc0_10
 have HR0_13 := mk0 hr0_13
 have HC0_13 := mk0 hc0_13
 clear hr0_13 hc0_13
 have HR0_29 := mk0 hr0_29
 have HC0_29 := mk0 hc0_29
 clear hr0_29 hc0_29
 have HR0_30 := mk0 hr0_30
 have HC0_30 := mk0 hc0_30
 clear hr0_30 hc0_30
 have HR1_9 := mk0 hr1_9
 have HC1_9 := mk0 hc1_9
 clear hr1_9 hc1_9
 have HR1_10 := mk0 hr1_10
 have HC1_10 := mk0 hc1_10
 clear hr1_10 hc1_10
 have HR1_13 := mk0 hr1_13
 have HC1_13 := mk0 hc1_13
 clear hr1_13 hc1_13
 have HR1_29 := mk0 hr1_29
 have HC1_29 := mk0 hc1_29
 clear hr1_29 hc1_29
 have HR1_30 := mk0 hr1_30
 have HC1_30 := mk0 hc1_30
 clear hr1_30 hc1_30
 have HB := mk0 (Below.refl w.heap.size w)
 have H : (if a0_0 = a1_0 then (if a0_1 = a1_1 then (if (a0_2 != a1_2) = true then (some false) else ((laws_eqMat.f a0_3 a0_4 a0_5 a0_6 a0_7 a0_8 a1_3 a1_4 a1_5 a1_6 a1_7 a1_8).bind fun t285 => (if t285 = true then ((laws_eqPath.f k l0_9 l0_10 l1_9 l1_10).bind fun t286 => (if t286 = true then (if (a0_11 != a1_11) = true then (some false) else (if a0_12 = a1_12 then ((laws_eqIntS.f k l0_13 l1_13).bind fun t287 => (if t287 = true then ((laws_eqPaint.f a0_14 a0_15 a0_16 a0_17 a0_18 a0_19 a0_20 a0_21 a0_22 a0_23 a0_24 a0_25 a0_26 a1_14 a1_15 a1_16 a1_17 a1_18 a1_19 a1_20 a1_21 a1_22 a1_23 a1_24 a1_25 a1_26).bind fun t288 => (if t288 = true then (if a0_27 = a1_27 then (if a0_28 = a1_28 then ((laws_eqPath.f k l0_29 l0_30 l1_29 l1_30).bind fun t289 => (if t289 = true then (some true) else (some false))) else (some false)) else (some false)) else (some false))) else (some false))) else (some false))) else (some false))) else (some false)))) else (some false)) else (some false)) = some r := h
 clear h
 by_cases c3 : a0_0 = a1_0
 rotate_left
 ·rw [if_neg c3] at H
  have c3b0 : (a0_0 == a1_0) = false := beq_eq_false_iff_ne.mpr c3
  have c3b1 : (a0_0 != a1_0) = true := bne_iff_ne.mpr c3
  obtain rfl := Option.some.inj H
  exact absurd hT Bool.false_ne_true
 rw [if_pos c3] at H
 have c3b0 : (a0_0 == a1_0) = true := beq_iff_eq.mpr c3
 have c3b1 : (a0_0 != a1_0) = false := bne_eq_false_iff_eq.mpr c3
 clear c3
 by_cases c4 : a0_1 = a1_1
 rotate_left
 ·rw [if_neg c4] at H
  have c4b0 : (a0_1 == a1_1) = false := beq_eq_false_iff_ne.mpr c4
  have c4b1 : (a0_1 != a1_1) = true := bne_iff_ne.mpr c4
  obtain rfl := Option.some.inj H
  exact absurd hT Bool.false_ne_true
 rw [if_pos c4] at H
 have c4b0 : (a0_1 == a1_1) = true := beq_iff_eq.mpr c4
 have c4b1 : (a0_1 != a1_1) = false := bne_eq_false_iff_eq.mpr c4
 clear c4
 by_cases c5 : (a0_2 != a1_2) = true
 ·rw [if_pos c5] at H
  have c5b0 : (a0_2 != a1_2) = true := c5
  (try (have c5b1 : decide (a0_2 = a1_2) = false := by simpa using c5))
  (try (have c5b2 : (a0_2 == a1_2) = false := by simpa using c5))
  (try (have c5b3 : ¬ (a0_2 = a1_2) := by simpa using c5))
  clear c5
  obtain rfl := Option.some.inj H
  exact absurd hT Bool.false_ne_true
 rw [if_neg c5] at H
 have c5b0 : (a0_2 != a1_2) = false := by simpa using c5
 (try (have c5b1 : decide (a0_2 = a1_2) = true := by simpa using c5))
 (try (have c5b2 : (a0_2 == a1_2) = true := by simpa using c5))
 clear c5
 replace H := Option.bind_eq_some_iff.mp H
 obtain ⟨t285, A60, H⟩ := H
 try dsimp only at H
 have A6 := mk0 A60
 clear A60
 by_cases c7 : t285 = true
 rotate_left
 ·replace c7 := Bool.eq_false_iff.mpr c7
  subst c7
  rw [if_neg (show ¬ (false = true) by decide)] at H
  obtain rfl := Option.some.inj H
  exact absurd hT Bool.false_ne_true
 subst c7
 rw [if_pos rfl] at H
 replace H := Option.bind_eq_some_iff.mp H
 obtain ⟨t286, A80, H⟩ := H
 try dsimp only at H
 have A8 := mk0 A80
 clear A80
 by_cases c9 : t286 = true
 rotate_left
 ·replace c9 := Bool.eq_false_iff.mpr c9
  subst c9
  rw [if_neg (show ¬ (false = true) by decide)] at H
  obtain rfl := Option.some.inj H
  exact absurd hT Bool.false_ne_true
 subst c9
 rw [if_pos rfl] at H
 by_cases c10 : (a0_11 != a1_11) = true
 ·rw [if_pos c10] at H
  have c10b0 : (a0_11 != a1_11) = true := c10
  (try (have c10b1 : decide (a0_11 = a1_11) = false := by simpa using c10))
  (try (have c10b2 : (a0_11 == a1_11) = false := by simpa using c10))
  (try (have c10b3 : ¬ (a0_11 = a1_11) := by simpa using c10))
  clear c10
  obtain rfl := Option.some.inj H
  exact absurd hT Bool.false_ne_true
 rw [if_neg c10] at H
 have c10b0 : (a0_11 != a1_11) = false := by simpa using c10
 (try (have c10b1 : decide (a0_11 = a1_11) = true := by simpa using c10))
 (try (have c10b2 : (a0_11 == a1_11) = true := by simpa using c10))
 clear c10
 by_cases c11 : a0_12 = a1_12
 rotate_left
 ·rw [if_neg c11] at H
  have c11b0 : (a0_12 == a1_12) = false := beq_eq_false_iff_ne.mpr c11
  have c11b1 : (a0_12 != a1_12) = true := bne_iff_ne.mpr c11
  obtain rfl := Option.some.inj H
  exact absurd hT Bool.false_ne_true
 rw [if_pos c11] at H
 have c11b0 : (a0_12 == a1_12) = true := beq_iff_eq.mpr c11
 have c11b1 : (a0_12 != a1_12) = false := bne_eq_false_iff_eq.mpr c11
 clear c11
 replace H := Option.bind_eq_some_iff.mp H
 obtain ⟨t287, A120, H⟩ := H
 try dsimp only at H
 have A12 := mk0 A120
 clear A120
 by_cases c13 : t287 = true
 rotate_left
 ·replace c13 := Bool.eq_false_iff.mpr c13
  subst c13
  rw [if_neg (show ¬ (false = true) by decide)] at H
  obtain rfl := Option.some.inj H
  exact absurd hT Bool.false_ne_true
 subst c13
 rw [if_pos rfl] at H
 replace H := Option.bind_eq_some_iff.mp H
 obtain ⟨t288, A140, H⟩ := H
 try dsimp only at H
 have A14 := mk0 A140
 clear A140
 by_cases c15 : t288 = true
 rotate_left
 ·replace c15 := Bool.eq_false_iff.mpr c15
  subst c15
  rw [if_neg (show ¬ (false = true) by decide)] at H
  obtain rfl := Option.some.inj H
  exact absurd hT Bool.false_ne_true
 subst c15
 rw [if_pos rfl] at H
 by_cases c16 : a0_27 = a1_27
 rotate_left
 ·rw [if_neg c16] at H
  have c16b0 : (a0_27 == a1_27) = false := beq_eq_false_iff_ne.mpr c16
  have c16b1 : (a0_27 != a1_27) = true := bne_iff_ne.mpr c16
  obtain rfl := Option.some.inj H
  exact absurd hT Bool.false_ne_true
 rw [if_pos c16] at H
 have c16b0 : (a0_27 == a1_27) = true := beq_iff_eq.mpr c16
 have c16b1 : (a0_27 != a1_27) = false := bne_eq_false_iff_eq.mpr c16
 clear c16
 by_cases c17 : a0_28 = a1_28
 rotate_left
 ·rw [if_neg c17] at H
  have c17b0 : (a0_28 == a1_28) = false := beq_eq_false_iff_ne.mpr c17
  have c17b1 : (a0_28 != a1_28) = true := bne_iff_ne.mpr c17
  obtain rfl := Option.some.inj H
  exact absurd hT Bool.false_ne_true
 rw [if_pos c17] at H
 have c17b0 : (a0_28 == a1_28) = true := beq_iff_eq.mpr c17
 have c17b1 : (a0_28 != a1_28) = false := bne_eq_false_iff_eq.mpr c17
 clear c17
 replace H := Option.bind_eq_some_iff.mp H
 obtain ⟨t289, A180, H⟩ := H
 try dsimp only at H
 have A18 := mk0 A180
 clear A180
 by_cases c19 : t289 = true
 rotate_left
 ·replace c19 := Bool.eq_false_iff.mpr c19
  subst c19
  rw [if_neg (show ¬ (false = true) by decide)] at H
  obtain rfl := Option.some.inj H
  exact absurd hT Bool.false_ne_true
 subst c19
 rw [if_pos rfl] at H
 obtain rfl := Option.some.inj H
 simp only [Option.some.injEq, Prod.mk.injEq] at H
 obtain ⟨rfl⟩ := H
 go_enter Try.func90, Try.ntmps90
 go_wp2_with (first | ((with_reducible refine gate_dst (N := 2) rfl ?_); refine boxz (cs := #[.int .i64 a0_0, .int .i64 a0_1, .bool a0_2, .int .i64 a0_3, .int .i64 a0_4, .int .i64 a0_5, .int .i64 a0_6, .int .i64 a0_7, .int .i64 a0_8, .slice A0_9 l0_9.length c0_9, .slice A0_10 l0_10.length c0_10, .bool a0_11, .int .i64 a0_12, .slice A0_13 l0_13.length c0_13, .int .i64 a0_14, .int .i64 a0_15, .int .i64 a0_16, .int .i64 a0_17, .int .i64 a0_18, .int .i64 a0_19, .int .i64 a0_20, .int .i64 a0_21, .int .i64 a0_22, .int .i64 a0_23, .int .i64 a0_24, .int .i64 a0_25, .int .i64 a0_26, .int .i64 a0_27, .int .i64 a0_28, .slice A0_29 l0_29.length c0_29, .slice A0_30 l0_30.length c0_30]) (t := 69) rfl ?_; intro gb283 hg w20 hbox hb; have n0_ := mk0 (below_step z5_1 hb); have n1_ := mk0 (hbox); have GW283 := mk0 (ge_go (a := w.heap.size) hg (below_size z5_1)); have GE283 := GW283; clear HB; have HB := n0_; have BK283 := n1_; clear n0_ n1_ ; clear hb hbox hg) | ((with_reducible refine gate_dst (N := 3) rfl ?_); refine boxz (cs := #[.int .i64 a1_0, .int .i64 a1_1, .bool a1_2, .int .i64 a1_3, .int .i64 a1_4, .int .i64 a1_5, .int .i64 a1_6, .int .i64 a1_7, .int .i64 a1_8, .slice A1_9 l1_9.length c1_9, .slice A1_10 l1_10.length c1_10, .bool a1_11, .int .i64 a1_12, .slice A1_13 l1_13.length c1_13, .int .i64 a1_14, .int .i64 a1_15, .int .i64 a1_16, .int .i64 a1_17, .int .i64 a1_18, .int .i64 a1_19, .int .i64 a1_20, .int .i64 a1_21, .int .i64 a1_22, .int .i64 a1_23, .int .i64 a1_24, .int .i64 a1_25, .int .i64 a1_26, .int .i64 a1_27, .int .i64 a1_28, .slice A1_29 l1_29.length c1_29, .slice A1_30 l1_30.length c1_30]) (t := 69) rfl ?_; intro gb284 hg w21 hbox hb; have n0_ := mk0 (blk_belowB BK283 (pkb BK283) hb); have n1_ := mk0 (below_step z5_9 hb); have n2_ := mk0 (hbox); have GW284 := mk0 (ge_go (a := w.heap.size) hg (below_size z5_9)); have GE284 := GW284; have NB283_284 := mk0 (nb_lt hg (blk_ltB BK283 (pkb BK283))); have NB284_283 := mk0 (nb_gt hg (blk_ltB BK283 (pkb BK283))); clear BK283 HB; have BK283 := n0_; have HB := n1_; have BK284 := n2_; clear n0_ n1_ n2_ ; clear hb hbox hg; have hnb22 := NB283_284.out; have hnc22 := NB284_283.out; obtain ⟨_, _, _, _, _, _, _, _, _, _, _, _, _, _, _, _, _, _, _, _, _, _, _, _, _, _, _, _, _, _, _, _, _, _, _, _, _, _, _, _, _, _, _, _, _, _, _, _, _, _, _, _, _, _, _, _, _, _, _, _, _, _⟩ := be_31 BK283.out; obtain ⟨_, _, _, _, _, _, _, _, _, _, _, _, _, _, _, _, _, _, _, _, _, _, _, _, _, _, _, _, _, _, _, _, _, _, _, _, _, _, _, _, _, _, _, _, _, _, _, _, _, _, _, _, _, _, _, _, _, _, _, _, _, _⟩ := be_31 BK284.out) | ((with_reducible refine gate_callee (f := 104) rfl ?_); refine goesL_ (some 24) rfl rfl Try.func104 (by kernel_rfl) rfl #[.agg #[.int .i64 a0_3, .int .i64 a0_4, .int .i64 a0_5, .int .i64 a0_6, .int .i64 a0_7, .int .i64 a0_8], .agg #[.int .i64 a1_3, .int .i64 a1_4, .int .i64 a1_5, .int .i64 a1_6, .int .i64 a1_7, .int .i64 a1_8]] rfl z5_4 ?_; (with_reducible refine (laws_eqMat.calls a0_3 a0_4 a0_5 a0_6 a0_7 a0_8 a1_3 a1_4 a1_5 a1_6 a1_7 a1_8 true _ A6.out).mono ?_); rintro e w25 ⟨rfl, hb⟩; refine ⟨_, rfl, ?_⟩; have n0_ := mk0 (blk_belowB BK283 (pkb BK283) hb); have n1_ := mk0 (blk_belowB BK284 (pkb BK284) hb); have n2_ := mk0 (below_step z5_8 hb); clear BK283 BK284 HB; have BK283 := n0_; have BK284 := n1_; have HB := n2_; clear n0_ n1_ n2_; (try clear hb); obtain ⟨_, _, _, _, _, _, _, _, _, _, _, _, _, _, _, _, _, _, _, _, _, _, _, _, _, _, _, _, _, _, _, _, _, _, _, _, _, _, _, _, _, _, _, _, _, _, _, _, _, _, _, _, _, _, _, _, _, _, _, _, _, _⟩ := be_31 BK283.out; obtain ⟨_, _, _, _, _, _, _, _, _, _, _, _, _, _, _, _, _, _, _, _, _, _, _, _, _, _, _, _, _, _, _, _, _, _, _, _, _, _, _, _, _, _, _, _, _, _, _, _, _, _, _, _, _, _, _, _, _, _, _, _, _, _⟩ := be_31 BK284.out) | ((with_reducible refine gate_callee (f := 105) rfl ?_); refine goesL_ (some 30) rfl rfl Try.func105 (by kernel_rfl) rfl #[.agg #[.slice A0_9 l0_9.length c0_9, .slice A0_10 l0_10.length c0_10], .agg #[.slice A1_9 l1_9.length c1_9, .slice A1_10 l1_10.length c1_10]] rfl z5_4 ?_; (with_reducible refine (laws_eqPath.calls k _ _ l0_9 _ _ l0_10 _ _ l1_9 _ _ l1_10 true _ ?side1 ?side2 ?side3 ?side4 ?side5 ?side6 ?side7 ?side8 A8.out).mono ?_); (case side1 => repeat (first | exact (Kd.C_below HR0_9.out HB.out) | (with_reducible refine Kd.C_alloc ?_ _) | (with_reducible refine Kd.C_drewN ?_ _) | (with_reducible refine Kd.C_drew ?_))); (case side2 => exact HC0_9.out); (case side3 => repeat (first | exact (Kd.C_below HR0_10.out HB.out) | (with_reducible refine Kd.C_alloc ?_ _) | (with_reducible refine Kd.C_drewN ?_ _) | (with_reducible refine Kd.C_drew ?_))); (case side4 => exact HC0_10.out); (case side5 => repeat (first | exact (Kd.C_below HR1_9.out HB.out) | (with_reducible refine Kd.C_alloc ?_ _) | (with_reducible refine Kd.C_drewN ?_ _) | (with_reducible refine Kd.C_drew ?_))); (case side6 => exact HC1_9.out); (case side7 => repeat (first | exact (Kd.C_below HR1_10.out HB.out) | (with_reducible refine Kd.C_alloc ?_ _) | (with_reducible refine Kd.C_drewN ?_ _) | (with_reducible refine Kd.C_drew ?_))); (case side8 => exact HC1_10.out); rintro e w28 ⟨rfl, hb⟩; refine ⟨_, rfl, ?_⟩; have n0_ := mk0 (blk_belowB BK283 (pkb BK283) hb); have n1_ := mk0 (blk_belowB BK284 (pkb BK284) hb); have n2_ := mk0 (below_step z5_8 hb); clear BK283 BK284 HB; have BK283 := n0_; have BK284 := n1_; have HB := n2_; clear n0_ n1_ n2_; (try clear hb); obtain ⟨_, _, _, _, _, _, _, _, _, _, _, _, _, _, _, _, _, _, _, _, _, _, _, _, _, _, _, _, _, _, _, _, _, _, _, _, _, _, _, _, _, _, _, _, _, _, _, _, _, _, _, _, _, _, _, _, _, _, _, _, _, _⟩ := be_31 BK283.out; obtain ⟨_, _, _, _, _, _, _, _, _, _, _, _, _, _, _, _, _, _, _, _, _, _, _, _, _, _, _, _, _, _, _, _, _, _, _, _, _, _, _, _, _, _, _, _, _, _, _, _, _, _, _, _, _, _, _, _, _, _, _, _, _, _⟩ := be_31 BK284.out) | ((with_reducible refine gate_callee (f := 24) rfl ?_); refine goesL_ (some 46) rfl rfl Try.func24 (by kernel_rfl) rfl #[.slice A0_13 l0_13.length c0_13, .slice A1_13 l1_13.length c1_13] rfl z5_4 ?_; (with_reducible refine (laws_eqIntS.calls k _ _ l0_13 _ _ l1_13 true _ ?side1 ?side2 ?side3 ?side4 A12.out).mono ?_); (case side1 => repeat (first | exact (Kd.C_below HR0_13.out HB.out) | (with_reducible refine Kd.C_alloc ?_ _) | (with_reducible refine Kd.C_drewN ?_ _) | (with_reducible refine Kd.C_drew ?_))); (case side2 => exact HC0_13.out); (case side3 => repeat (first | exact (Kd.C_below HR1_13.out HB.out) | (with_reducible refine Kd.C_alloc ?_ _) | (with_reducible refine Kd.C_drewN ?_ _) | (with_reducible refine Kd.C_drew ?_))); (case side4 => exact HC1_13.out); rintro e w' ⟨rfl, ⟨nd, rfl⟩⟩; refine ⟨_, rfl, ?_⟩) | ((with_reducible refine gate_callee (f := 106) rfl ?_); refine goesL_ (some 52) rfl rfl Try.func106 (by kernel_rfl) rfl #[.agg #[.int .i64 a0_14, .int .i64 a0_15, .int .i64 a0_16, .int .i64 a0_17, .int .i64 a0_18, .int .i64 a0_19, .int .i64 a0_20, .int .i64 a0_21, .int .i64 a0_22, .int .i64 a0_23, .int .i64 a0_24, .int .i64 a0_25, .int .i64 a0_26], .agg #[.int .i64 a1_14, .int .i64 a1_15, .int .i64 a1_16, .int .i64 a1_17, .int .i64 a1_18, .int .i64 a1_19, .int .i64 a1_20, .int .i64 a1_21, .int .i64 a1_22, .int .i64 a1_23, .int .i64 a1_24, .int .i64 a1_25, .int .i64 a1_26]] rfl z5_4 ?_; (with_reducible refine (laws_eqPaint.calls a0_14 a0_15 a0_16 a0_17 a0_18 a0_19 a0_20 a0_21 a0_22 a0_23 a0_24 a0_25 a0_26 a1_14 a1_15 a1_16 a1_17 a1_18 a1_19 a1_20 a1_21 a1_22 a1_23 a1_24 a1_25 a1_26 true _ A14.out).mono ?_); rintro e w31 ⟨rfl, hb⟩; refine ⟨_, rfl, ?_⟩; have n0_ := mk0 (blk_belowB BK283 (pkb BK283) hb); have n1_ := mk0 (blk_belowB BK284 (pkb BK284) hb); have n2_ := mk0 (below_step z5_8 hb); clear BK283 BK284 HB; have BK283 := n0_; have BK284 := n1_; have HB := n2_; clear n0_ n1_ n2_; (try clear hb); obtain ⟨_, _, _, _, _, _, _, _, _, _, _, _, _, _, _, _, _, _, _, _, _, _, _, _, _, _, _, _, _, _, _, _, _, _, _, _, _, _, _, _, _, _, _, _, _, _, _, _, _, _, _, _, _, _, _, _, _, _, _, _, _, _⟩ := be_31 BK283.out; obtain ⟨_, _, _, _, _, _, _, _, _, _, _, _, _, _, _, _, _, _, _, _, _, _, _, _, _, _, _, _, _, _, _, _, _, _, _, _, _, _, _, _, _, _, _, _, _, _, _, _, _, _, _, _, _, _, _, _, _, _, _, _, _, _⟩ := be_31 BK284.out) | ((with_reducible refine gate_callee (f := 105) rfl ?_); refine goesL_ (some 68) rfl rfl Try.func105 (by kernel_rfl) rfl #[.agg #[.slice A0_29 l0_29.length c0_29, .slice A0_30 l0_30.length c0_30], .agg #[.slice A1_29 l1_29.length c1_29, .slice A1_30 l1_30.length c1_30]] rfl z5_4 ?_; (with_reducible refine (laws_eqPath.calls k _ _ l0_29 _ _ l0_30 _ _ l1_29 _ _ l1_30 true _ ?side1 ?side2 ?side3 ?side4 ?side5 ?side6 ?side7 ?side8 A18.out).mono ?_); (case side1 => repeat (first | exact (Kd.C_below HR0_29.out HB.out) | (with_reducible refine Kd.C_alloc ?_ _) | (with_reducible refine Kd.C_drewN ?_ _) | (with_reducible refine Kd.C_drew ?_))); (case side2 => exact HC0_29.out); (case side3 => repeat (first | exact (Kd.C_below HR0_30.out HB.out) | (with_reducible refine Kd.C_alloc ?_ _) | (with_reducible refine Kd.C_drewN ?_ _) | (with_reducible refine Kd.C_drew ?_))); (case side4 => exact HC0_30.out); (case side5 => repeat (first | exact (Kd.C_below HR1_29.out HB.out) | (with_reducible refine Kd.C_alloc ?_ _) | (with_reducible refine Kd.C_drewN ?_ _) | (with_reducible refine Kd.C_drew ?_))); (case side6 => exact HC1_29.out); (case side7 => repeat (first | exact (Kd.C_below HR1_30.out HB.out) | (with_reducible refine Kd.C_alloc ?_ _) | (with_reducible refine Kd.C_drewN ?_ _) | (with_reducible refine Kd.C_drew ?_))); (case side8 => exact HC1_30.out); rintro e w34 ⟨rfl, hb⟩; refine ⟨_, rfl, ?_⟩; have n0_ := mk0 (blk_belowB BK283 (pkb BK283) hb); have n1_ := mk0 (blk_belowB BK284 (pkb BK284) hb); have n2_ := mk0 (below_step z5_8 hb); clear BK283 BK284 HB; have BK283 := n0_; have BK284 := n1_; have HB := n2_; clear n0_ n1_ n2_; (try clear hb)))
 go_ret
 exact ⟨z5_6, z5_8⟩

/-! ### laws_eqNodeS: function 68 -/
def laws_eqNodeS.l0 : Nat → List (S69) → List (S69) → Int → Option (Bool)
 | 0, _, _, _ => none
 | k + 1, x0, x1, x5 => if x5 < (x0.length : Int) then (if 0 ≤ x5 then (if x5 < (x1.length : Int) then ((laws_eqNode.f k ((rd_T69 x0 x5).f0) ((rd_T69 x0 x5).f1) ((rd_T69 x0 x5).f2) ((rd_T69 x0 x5).f3.f0) ((rd_T69 x0 x5).f3.f1) ((rd_T69 x0 x5).f3.f2) ((rd_T69 x0 x5).f3.f3) ((rd_T69 x0 x5).f3.f4) ((rd_T69 x0 x5).f3.f5) ((rd_T69 x0 x5).f4.f0) ((rd_T69 x0 x5).f4.f1) ((rd_T69 x0 x5).f5) ((rd_T69 x0 x5).f6) ((rd_T69 x0 x5).f7) ((rd_T69 x0 x5).f8.f0) ((rd_T69 x0 x5).f8.f1.f0) ((rd_T69 x0 x5).f8.f1.f1) ((rd_T69 x0 x5).f8.f1.f2) ((rd_T69 x0 x5).f8.f1.f3) ((rd_T69 x0 x5).f8.f2.f0) ((rd_T69 x0 x5).f8.f2.f1) ((rd_T69 x0 x5).f8.f2.f2) ((rd_T69 x0 x5).f8.f2.f3) ((rd_T69 x0 x5).f8.f3.f0) ((rd_T69 x0 x5).f8.f3.f1) ((rd_T69 x0 x5).f8.f4.f0) ((rd_T69 x0 x5).f8.f4.f1) ((rd_T69 x0 x5).f9) ((rd_T69 x0 x5).f10) ((rd_T69 x0 x5).f11.f0) ((rd_T69 x0 x5).f11.f1) ((rd_T69 x1 x5).f0) ((rd_T69 x1 x5).f1) ((rd_T69 x1 x5).f2) ((rd_T69 x1 x5).f3.f0) ((rd_T69 x1 x5).f3.f1) ((rd_T69 x1 x5).f3.f2) ((rd_T69 x1 x5).f3.f3) ((rd_T69 x1 x5).f3.f4) ((rd_T69 x1 x5).f3.f5) ((rd_T69 x1 x5).f4.f0) ((rd_T69 x1 x5).f4.f1) ((rd_T69 x1 x5).f5) ((rd_T69 x1 x5).f6) ((rd_T69 x1 x5).f7) ((rd_T69 x1 x5).f8.f0) ((rd_T69 x1 x5).f8.f1.f0) ((rd_T69 x1 x5).f8.f1.f1) ((rd_T69 x1 x5).f8.f1.f2) ((rd_T69 x1 x5).f8.f1.f3) ((rd_T69 x1 x5).f8.f2.f0) ((rd_T69 x1 x5).f8.f2.f1) ((rd_T69 x1 x5).f8.f2.f2) ((rd_T69 x1 x5).f8.f2.f3) ((rd_T69 x1 x5).f8.f3.f0) ((rd_T69 x1 x5).f8.f3.f1) ((rd_T69 x1 x5).f8.f4.f0) ((rd_T69 x1 x5).f8.f4.f1) ((rd_T69 x1 x5).f9) ((rd_T69 x1 x5).f10) ((rd_T69 x1 x5).f11.f0) ((rd_T69 x1 x5).f11.f1)).bind fun t292 => (if t292 = true then (laws_eqNodeS.l0 k x0 x1 (wrap64 (x5 + 1))) else (some false))) else (none)) else (none)) else (some true)
def laws_eqNodeS.f (k : Nat) (l0 : List (S69)) (l1 : List (S69)) : Option (Bool) := if (l0.length : Int) = (l1.length : Int) then (laws_eqNodeS.l0 k l0 l1 0) else (some false)
theorem laws_eqNodeS.mono_l : ∀ k, (∀ y0 y1 y2, LeO (laws_eqNodeS.l0 k y0 y1 y2) (laws_eqNodeS.l0 (k + 1) y0 y1 y2))
 | 0 => fun _ _ _ r h => by simp [laws_eqNodeS.l0] at h
 | k + 1 => by
  have ih0 := laws_eqNodeS.mono_l k
  ·intro y0 y1 y2
   unfold laws_eqNodeS.l0
   repeat' first
   | (with_reducible exact ih0 _ _ _)
   | (with_reducible exact laws_eqNode.mono _ _ _ _ _ _ _ _ _ _ _ _ _ _ _ _ _ _ _ _ _ _ _ _ _ _ _ _ _ _ _ _ _ _ _ _ _ _ _ _ _ _ _ _ _ _ _ _ _ _ _ _ _ _ _ _ _ _ _ _ _ _ _)
   | (with_reducible exact LeO.refl _)
   | (with_reducible exact LeO.none _)
   | (with_reducible refine LeO.ite ?_ ?_)
   | (with_reducible refine LeO.bind ?_ (fun _ => ?_))
theorem laws_eqNodeS.mono : ∀ a0 a1 k, LeO (laws_eqNodeS.f k a0 a1) (laws_eqNodeS.f (k + 1) a0 a1) := by
 intro a0 a1 k
 have ih0 := laws_eqNodeS.mono_l k
 unfold laws_eqNodeS.f
 repeat' first
   | (with_reducible exact ih0 _ _ _)
   | (with_reducible exact laws_eqNode.mono _ _ _ _ _ _ _ _ _ _ _ _ _ _ _ _ _ _ _ _ _ _ _ _ _ _ _ _ _ _ _ _ _ _ _ _ _ _ _ _ _ _ _ _ _ _ _ _ _ _ _ _ _ _ _ _ _ _ _ _ _ _ _)
   | (with_reducible exact LeO.refl _)
   | (with_reducible exact LeO.none _)
   | (with_reducible refine LeO.ite ?_ ?_)
   | (with_reducible refine LeO.bind ?_ (fun _ => ?_))
def laws_eqNodeS.T6 : Bool × List (List Nat × List Nat) := (true, [([], []), ([], []), ([0, 1], [0, 1]), ([2], [2]), ([], []), ([], []), ([4, 5], [4, 5]), ([6], [6]), ([3, 7], [3, 7]), ([8], [8])])
def laws_eqNodeS.B6 : List Nat := [0, 0, 3, 7, 0, 0, 48, 112, 255, 511]
theorem laws_eqNodeS.tab6 : rtab .any (opsOf Try.f68 6) = laws_eqNodeS.T6 := by kernel_rfl
theorem laws_eqNodeS.bits6 : waitsOk laws_eqNodeS.T6.2 laws_eqNodeS.B6 = true := by kernel_rfl
set_option maxHeartbeats 8000000 in
set_option maxRecDepth 100000 in
theorem laws_eqNodeS.calls (k : Nat) (A0 : Option Addr) (c0 : Nat) (l0 : List (S69)) (A1 : Option Addr) (c1 : Nat) (l1 : List (S69)) (r : Bool) (w : World) (hr0 : Kd.C k69 w A0 l0.length l0) (hc0 : l0.length ≤ c0) (hr1 : Kd.C k69 w A1 l1.length l1) (hc1 : l1.length ≤ c1) (hT : r = true) (h : laws_eqNodeS.f k l0 l1 = some r) :
  Calls Try.prog 68 #[.slice A0 l0.length c0, .slice A1 l1.length c1] w fun e w' => e = .returned (.bool r) ∧ Below w.heap.size w w' := by
 have hu69 := Try.underlying69
 have HR0 := mk0 hr0
 have HC0 := mk0 hc0
 clear hr0 hc0
 have HR1 := mk0 hr1
 have HC1 := mk0 hc1
 clear hr1 hc1
 have HB := mk0 (Below.refl w.heap.size w)
 have H : (if (l0.length : Int) = (l1.length : Int) then (laws_eqNodeS.l0 k l0 l1 0) else (some false)) = some r := h
 clear h
 by_cases c3 : (l0.length : Int) = (l1.length : Int)
 rotate_left
 ·rw [if_neg c3] at H
  have c3b0 : ((l0.length : Int) == (l1.length : Int)) = false := beq_eq_false_iff_ne.mpr c3
  have c3b1 : ((l0.length : Int) != (l1.length : Int)) = true := bne_iff_ne.mpr c3
  have c3b2 : (l0.length == l1.length) = false := by first | simpa using c3 | (simp at c3 ⊢; omega)
  obtain rfl := Option.some.inj H
  exact absurd hT Bool.false_ne_true
 rw [if_pos c3] at H
 have c3b0 : ((l0.length : Int) == (l1.length : Int)) = true := beq_iff_eq.mpr c3
 have c3b1 : ((l0.length : Int) != (l1.length : Int)) = false := bne_eq_false_iff_eq.mpr c3
 have c3b2 : (l0.length == l1.length) = true := by first | simpa using c3 | (simp at c3 ⊢; omega)
 clear c3
 have H' := mk0 H
 clear H
 go_enter Try.func68, Try.ntmps68
 go_wp2
 go_loopg [5] k (fun kq v5 w' => ∃ (x5_1 : Int), v5 = .int .i64 x5_1 ∧ Aside0 (laws_eqNodeS.l0 kq l0 l1 x5_1 = some r) ∧ Aside0 (kq ≤ k) ∧ Aside0 (Below w.heap.size w w'))
 case atStart => exact ⟨(0), rs0, H', ⟨Nat.le_refl _⟩, ⟨z5_1⟩⟩
 case round =>
  clear H'
  try clear c1
  try clear p2
  try clear c3
  try clear c3b0
  try clear c3b1
  try clear c3b2
  obtain ⟨x5_1, rfl, HA, HK1, HB⟩ := hrel
  cases gk with
  | zero => exact absurd HA.out (by simp [laws_eqNodeS.l0])
  | succ k1 =>
   have H := HA.out; clear HA
   simp only [laws_eqNodeS.l0] at H
   by_cases c4 : x5_1 < (l0.length : Int)
   rotate_left
   ·rw [if_neg c4] at H
    have c4b0 := decide_eq_false c4
    clear c4
    obtain rfl := Option.some.inj H
    simp only [Option.some.injEq, Prod.mk.injEq] at H
    obtain ⟨rfl⟩ := H
    go_wp2
    go_ret
    exact ⟨z5_6, z5_1⟩
   rw [if_pos c4] at H
   have c4b0 := decide_eq_true c4
   clear c4
   by_cases c5 : 0 ≤ x5_1
   rotate_left
   ·rw [if_neg c5] at H
    exact absurd H (by simp)
   rw [if_pos c5] at H
   have c5b0 := decide_eq_true c5
   clear c5
   by_cases c6 : x5_1 < (l1.length : Int)
   rotate_left
   ·rw [if_neg c6] at H
    exact absurd H (by simp)
   rw [if_pos c6] at H
   have c6b0 := decide_eq_true c6
   clear c6
   replace H := Option.bind_eq_some_iff.mp H
   obtain ⟨t292, A70, H⟩ := H
   try dsimp only at H
   have A7 := mk0 A70
   clear A70
   by_cases c8 : t292 = true
   rotate_left
   ·replace c8 := Bool.eq_false_iff.mpr c8
    subst c8
    rw [if_neg (show ¬ (false = true) by decide)] at H
    obtain rfl := Option.some.inj H
    exact absurd hT Bool.false_ne_true
   subst c8
   rw [if_pos rfl] at H
   have H' := mk0 H
   clear H
   try go_wp2
   have n0_ := mk0 (below_drew1 HB.out)
   clear HB; have HB := n0_; clear n0_
   have p290 : 0 ≤ (x5_1 : Int) := of_decide_eq_true (by first | (with_reducible assumption) | assumption)
   have q290 : x5_1 < (l0.length : Int) := of_decide_eq_true (by first | (with_reducible assumption) | assumption)
   obtain ⟨ad290, A290_9, c290_9, A290_10, c290_10, A290_13, c290_13, A290_29, c290_29, A290_30, c290_30, e290, hx290_0, hx290_1, hx290_2, hx290_3, hx290_4, hx290_5, hx290_6, hx290_7, hx290_8, hx290_9, hx290_10, hx290_11, hx290_12, hx290_13, hx290_14, hx290_15, hx290_16, hx290_17, hx290_18, hx290_19, hx290_20, hx290_21, hx290_22, hx290_23, hx290_24, hx290_25, hx290_26, hx290_27, hx290_28, hx290_29, hx290_30, hl290_9, hi290_9, hl290_10, hi290_10, hl290_13, hi290_13, hl290_29, hi290_29, hl290_30, hi290_30⟩ := at_T69 HR0.out x5_1 p290 q290
   have hM290 := lie_zero hx290_0 (lie_n hx290_1 (lie_n hx290_2 (lie_n hx290_3 (lie_n hx290_4 (lie_n hx290_5 (lie_n hx290_6 (lie_n hx290_7 (lie_n hx290_8 (lie_n hx290_9 (lie_n hx290_10 (lie_n hx290_11 (lie_n hx290_12 (lie_n hx290_13 (lie_n hx290_14 (lie_n hx290_15 (lie_n hx290_16 (lie_n hx290_17 (lie_n hx290_18 (lie_n hx290_19 (lie_n hx290_20 (lie_n hx290_21 (lie_n hx290_22 (lie_n hx290_23 (lie_n hx290_24 (lie_n hx290_25 (lie_n hx290_26 (lie_n hx290_27 (lie_n hx290_28 (lie_n hx290_29 (lie_n hx290_30 (lie_nil _ _ _)))))))))))))))))))))))))))))))
   have hw290_30 := hx290_30; have hw290_29 := hx290_29; have hw290_28 := hx290_28; have hw290_27 := hx290_27; have hw290_26 := hx290_26; have hw290_25 := hx290_25; have hw290_24 := hx290_24; have hw290_23 := hx290_23; have hw290_22 := hx290_22; have hw290_21 := hx290_21; have hw290_20 := hx290_20; have hw290_19 := hx290_19; have hw290_18 := hx290_18; have hw290_17 := hx290_17; have hw290_16 := hx290_16; have hw290_15 := hx290_15; have hw290_14 := hx290_14; have hw290_13 := hx290_13; have hw290_12 := hx290_12; have hw290_11 := hx290_11; have hw290_10 := hx290_10; have hw290_9 := hx290_9; have hw290_8 := hx290_8; have hw290_7 := hx290_7; have hw290_6 := hx290_6; have hw290_5 := hx290_5; have hw290_4 := hx290_4; have hw290_3 := hx290_3; have hw290_2 := hx290_2; have hw290_1 := hx290_1; have hw290_0 := hx290_0
   cases e290
   replace hx290_0 := cell_go HB hx290_0
   replace hx290_1 := cell_go HB hx290_1
   replace hx290_2 := cell_go HB hx290_2
   replace hx290_3 := cell_go HB hx290_3
   replace hx290_4 := cell_go HB hx290_4
   replace hx290_5 := cell_go HB hx290_5
   replace hx290_6 := cell_go HB hx290_6
   replace hx290_7 := cell_go HB hx290_7
   replace hx290_8 := cell_go HB hx290_8
   replace hx290_9 := cell_go HB hx290_9
   replace hx290_10 := cell_go HB hx290_10
   replace hx290_11 := cell_go HB hx290_11
   replace hx290_12 := cell_go HB hx290_12
   replace hx290_13 := cell_go HB hx290_13
   replace hx290_14 := cell_go HB hx290_14
   replace hx290_15 := cell_go HB hx290_15
   replace hx290_16 := cell_go HB hx290_16
   replace hx290_17 := cell_go HB hx290_17
   replace hx290_18 := cell_go HB hx290_18
   replace hx290_19 := cell_go HB hx290_19
   replace hx290_20 := cell_go HB hx290_20
   replace hx290_21 := cell_go HB hx290_21
   replace hx290_22 := cell_go HB hx290_22
   replace hx290_23 := cell_go HB hx290_23
   replace hx290_24 := cell_go HB hx290_24
   replace hx290_25 := cell_go HB hx290_25
   replace hx290_26 := cell_go HB hx290_26
   replace hx290_27 := cell_go HB hx290_27
   replace hx290_28 := cell_go HB hx290_28
   replace hx290_29 := cell_go HB hx290_29
   replace hx290_30 := cell_go HB hx290_30
   have HR290_9 := mk0 hi290_9
   have HC290_9 := mk0 hl290_9
   clear hi290_9 hl290_9
   have HR290_10 := mk0 hi290_10
   have HC290_10 := mk0 hl290_10
   clear hi290_10 hl290_10
   have HR290_13 := mk0 hi290_13
   have HC290_13 := mk0 hl290_13
   clear hi290_13 hl290_13
   have HR290_29 := mk0 hi290_29
   have HC290_29 := mk0 hl290_29
   clear hi290_29 hl290_29
   have HR290_30 := mk0 hi290_30
   have HC290_30 := mk0 hl290_30
   clear hi290_30 hl290_30
   replace p290 := eq_true p290
   replace q290 := eq_true q290
   have p291 : 0 ≤ (x5_1 : Int) := of_decide_eq_true (by first | (with_reducible assumption) | assumption)
   have q291 : x5_1 < (l1.length : Int) := of_decide_eq_true (by first | (with_reducible assumption) | assumption)
   obtain ⟨ad291, A291_9, c291_9, A291_10, c291_10, A291_13, c291_13, A291_29, c291_29, A291_30, c291_30, e291, hx291_0, hx291_1, hx291_2, hx291_3, hx291_4, hx291_5, hx291_6, hx291_7, hx291_8, hx291_9, hx291_10, hx291_11, hx291_12, hx291_13, hx291_14, hx291_15, hx291_16, hx291_17, hx291_18, hx291_19, hx291_20, hx291_21, hx291_22, hx291_23, hx291_24, hx291_25, hx291_26, hx291_27, hx291_28, hx291_29, hx291_30, hl291_9, hi291_9, hl291_10, hi291_10, hl291_13, hi291_13, hl291_29, hi291_29, hl291_30, hi291_30⟩ := at_T69 HR1.out x5_1 p291 q291
   have hM291 := lie_zero hx291_0 (lie_n hx291_1 (lie_n hx291_2 (lie_n hx291_3 (lie_n hx291_4 (lie_n hx291_5 (lie_n hx291_6 (lie_n hx291_7 (lie_n hx291_8 (lie_n hx291_9 (lie_n hx291_10 (lie_n hx291_11 (lie_n hx291_12 (lie_n hx291_13 (lie_n hx291_14 (lie_n hx291_15 (lie_n hx291_16 (lie_n hx291_17 (lie_n hx291_18 (lie_n hx291_19 (lie_n hx291_20 (lie_n hx291_21 (lie_n hx291_22 (lie_n hx291_23 (lie_n hx291_24 (lie_n hx291_25 (lie_n hx291_26 (lie_n hx291_27 (lie_n hx291_28 (lie_n hx291_29 (lie_n hx291_30 (lie_nil _ _ _)))))))))))))))))))))))))))))))
   have hw291_30 := hx291_30; have hw291_29 := hx291_29; have hw291_28 := hx291_28; have hw291_27 := hx291_27; have hw291_26 := hx291_26; have hw291_25 := hx291_25; have hw291_24 := hx291_24; have hw291_23 := hx291_23; have hw291_22 := hx291_22; have hw291_21 := hx291_21; have hw291_20 := hx291_20; have hw291_19 := hx291_19; have hw291_18 := hx291_18; have hw291_17 := hx291_17; have hw291_16 := hx291_16; have hw291_15 := hx291_15; have hw291_14 := hx291_14; have hw291_13 := hx291_13; have hw291_12 := hx291_12; have hw291_11 := hx291_11; have hw291_10 := hx291_10; have hw291_9 := hx291_9; have hw291_8 := hx291_8; have hw291_7 := hx291_7; have hw291_6 := hx291_6; have hw291_5 := hx291_5; have hw291_4 := hx291_4; have hw291_3 := hx291_3; have hw291_2 := hx291_2; have hw291_1 := hx291_1; have hw291_0 := hx291_0
   cases e291
   replace hx291_0 := cell_go HB hx291_0
   replace hx291_1 := cell_go HB hx291_1
   replace hx291_2 := cell_go HB hx291_2
   replace hx291_3 := cell_go HB hx291_3
   replace hx291_4 := cell_go HB hx291_4
   replace hx291_5 := cell_go HB hx291_5
   replace hx291_6 := cell_go HB hx291_6
   replace hx291_7 := cell_go HB hx291_7
   replace hx291_8 := cell_go HB hx291_8
   replace hx291_9 := cell_go HB hx291_9
   replace hx291_10 := cell_go HB hx291_10
   replace hx291_11 := cell_go HB hx291_11
   replace hx291_12 := cell_go HB hx291_12
   replace hx291_13 := cell_go HB hx291_13
   replace hx291_14 := cell_go HB hx291_14
   replace hx291_15 := cell_go HB hx291_15
   replace hx291_16 := cell_go HB hx291_16
   replace hx291_17 := cell_go HB hx291_17
   replace hx291_18 := cell_go HB hx291_18
   replace hx291_19 := cell_go HB hx291_19
   replace hx291_20 := cell_go HB hx291_20
   replace hx291_21 := cell_go HB hx291_21
   replace hx291_22 := cell_go HB hx291_22
   replace hx291_23 := cell_go HB hx291_23
   replace hx291_24 := cell_go HB hx291_24
   replace hx291_25 := cell_go HB hx291_25
   replace hx291_26 := cell_go HB hx291_26
   replace hx291_27 := cell_go HB hx291_27
   replace hx291_28 := cell_go HB hx291_28
   replace hx291_29 := cell_go HB hx291_29
   replace hx291_30 := cell_go HB hx291_30
   have HR291_9 := mk0 hi291_9
   have HC291_9 := mk0 hl291_9
   clear hi291_9 hl291_9
   have HR291_10 := mk0 hi291_10
   have HC291_10 := mk0 hl291_10
   clear hi291_10 hl291_10
   have HR291_13 := mk0 hi291_13
   have HC291_13 := mk0 hl291_13
   clear hi291_13 hl291_13
   have HR291_29 := mk0 hi291_29
   have HC291_29 := mk0 hl291_29
   clear hi291_29 hl291_29
   have HR291_30 := mk0 hi291_30
   have HC291_30 := mk0 hl291_30
   clear hi291_30 hl291_30
   replace p291 := eq_true p291
   replace q291 := eq_true q291
   refine start_ (n := 10) (S := fun w' => Lie w' (ad290.add ((x5_1).toNat * 31)) 0 [.int .i64 ((rd_T69 l0 x5_1).f0), .int .i64 ((rd_T69 l0 x5_1).f1), .bool ((rd_T69 l0 x5_1).f2), .int .i64 ((rd_T69 l0 x5_1).f3.f0), .int .i64 ((rd_T69 l0 x5_1).f3.f1), .int .i64 ((rd_T69 l0 x5_1).f3.f2), .int .i64 ((rd_T69 l0 x5_1).f3.f3), .int .i64 ((rd_T69 l0 x5_1).f3.f4), .int .i64 ((rd_T69 l0 x5_1).f3.f5), .slice A290_9 ((rd_T69 l0 x5_1).f4.f0).length c290_9, .slice A290_10 ((rd_T69 l0 x5_1).f4.f1).length c290_10, .bool ((rd_T69 l0 x5_1).f5), .int .i64 ((rd_T69 l0 x5_1).f6), .slice A290_13 ((rd_T69 l0 x5_1).f7).length c290_13, .int .i64 ((rd_T69 l0 x5_1).f8.f0), .int .i64 ((rd_T69 l0 x5_1).f8.f1.f0), .int .i64 ((rd_T69 l0 x5_1).f8.f1.f1), .int .i64 ((rd_T69 l0 x5_1).f8.f1.f2), .int .i64 ((rd_T69 l0 x5_1).f8.f1.f3), .int .i64 ((rd_T69 l0 x5_1).f8.f2.f0), .int .i64 ((rd_T69 l0 x5_1).f8.f2.f1), .int .i64 ((rd_T69 l0 x5_1).f8.f2.f2), .int .i64 ((rd_T69 l0 x5_1).f8.f2.f3), .int .i64 ((rd_T69 l0 x5_1).f8.f3.f0), .int .i64 ((rd_T69 l0 x5_1).f8.f3.f1), .int .i64 ((rd_T69 l0 x5_1).f8.f4.f0), .int .i64 ((rd_T69 l0 x5_1).f8.f4.f1), .int .i64 ((rd_T69 l0 x5_1).f9), .int .i64 ((rd_T69 l0 x5_1).f10), .slice A290_29 ((rd_T69 l0 x5_1).f11.f0).length c290_29, .slice A290_30 ((rd_T69 l0 x5_1).f11.f1).length c290_30] ∧ Lie w' (ad291.add ((x5_1).toNat * 31)) 0 [.int .i64 ((rd_T69 l1 x5_1).f0), .int .i64 ((rd_T69 l1 x5_1).f1), .bool ((rd_T69 l1 x5_1).f2), .int .i64 ((rd_T69 l1 x5_1).f3.f0), .int .i64 ((rd_T69 l1 x5_1).f3.f1), .int .i64 ((rd_T69 l1 x5_1).f3.f2), .int .i64 ((rd_T69 l1 x5_1).f3.f3), .int .i64 ((rd_T69 l1 x5_1).f3.f4), .int .i64 ((rd_T69 l1 x5_1).f3.f5), .slice A291_9 ((rd_T69 l1 x5_1).f4.f0).length c291_9, .slice A291_10 ((rd_T69 l1 x5_1).f4.f1).length c291_10, .bool ((rd_T69 l1 x5_1).f5), .int .i64 ((rd_T69 l1 x5_1).f6), .slice A291_13 ((rd_T69 l1 x5_1).f7).length c291_13, .int .i64 ((rd_T69 l1 x5_1).f8.f0), .int .i64 ((rd_T69 l1 x5_1).f8.f1.f0), .int .i64 ((rd_T69 l1 x5_1).f8.f1.f1), .int .i64 ((rd_T69 l1 x5_1).f8.f1.f2), .int .i64 ((rd_T69 l1 x5_1).f8.f1.f3), .int .i64 ((rd_T69 l1 x5_1).f8.f2.f0), .int .i64 ((rd_T69 l1 x5_1).f8.f2.f1), .int .i64 ((rd_T69 l1 x5_1).f8.f2.f2), .int .i64 ((rd_T69 l1 x5_1).f8.f2.f3), .int .i64 ((rd_T69 l1 x5_1).f8.f3.f0), .int .i64 ((rd_T69 l1 x5_1).f8.f3.f1), .int .i64 ((rd_T69 l1 x5_1).f8.f4.f0), .int .i64 ((rd_T69 l1 x5_1).f8.f4.f1), .int .i64 ((rd_T69 l1 x5_1).f9), .int .i64 ((rd_T69 l1 x5_1).f10), .slice A291_29 ((rd_T69 l1 x5_1).f11.f0).length c291_29, .slice A291_30 ((rd_T69 l1 x5_1).f11.f1).length c291_30]) (ds := []) #[false, false, false, false, false, false, false, false, false, false] (by kernel_rfl) rfl rfl ⟨lie_below HB.out hM290, lie_below HB.out hM291⟩ (fun hHeld => ?_); refine with_tabW laws_eqNodeS.tab6 laws_eqNodeS.bits6 (fun HT_ HW_ => ?_)
   generalize wr.drew = w9 at HB HR290_10 HR290_13 HR290_29 HR290_30 HR290_9 HR291_10 HR291_13 HR291_29 HR291_30 HR291_9 hx290_0 hx290_1 hx290_10 hx290_11 hx290_12 hx290_13 hx290_14 hx290_15 hx290_16 hx290_17 hx290_18 hx290_19 hx290_2 hx290_20 hx290_21 hx290_22 hx290_23 hx290_24 hx290_25 hx290_26 hx290_27 hx290_28 hx290_29 hx290_3 hx290_30 hx290_4 hx290_5 hx290_6 hx290_7 hx290_8 hx290_9 hx291_0 hx291_1 hx291_10 hx291_11 hx291_12 hx291_13 hx291_14 hx291_15 hx291_16 hx291_17 hx291_18 hx291_19 hx291_2 hx291_20 hx291_21 hx291_22 hx291_23 hx291_24 hx291_25 hx291_26 hx291_27 hx291_28 hx291_29 hx291_3 hx291_30 hx291_4 hx291_5 hx291_6 hx291_7 hx291_8 hx291_9 hHeld ⊢
   refine pzv (i := 0) (N := 17) (v := ?_) (a' := ?_) (bA 10 1) HT_ ?_ ?_ ?_
   rotate_left
   ·intro w'
    go_simp; with_reducible rfl
   rotate_left
   ·exact x5_put
   refine pzv (i := 1) (N := 18) (v := ?_) (a' := ?_) (bA 10 3) HT_ ?_ ?_ ?_
   rotate_left
   ·intro w'
    go_simp; with_reducible rfl
   rotate_left
   ·exact x5_put
   refine pzv (i := 2) (N := 19) (v := ?_) (a' := ?_) (bA 10 7) HT_ ?_ ?_ ?_
   rotate_left
   ·intro w'
    go_simp; with_reducible rfl
   rotate_left
   ·exact x5_put
   refine pzv (i := 4) (N := 21) (v := ?_) (a' := ?_) (bA 10 23) HT_ ?_ ?_ ?_
   rotate_left
   ·intro w'
    go_simp; with_reducible rfl
   rotate_left
   ·exact x5_put
   refine pzv (i := 5) (N := 22) (v := ?_) (a' := ?_) (bA 10 55) HT_ ?_ ?_ ?_
   rotate_left
   ·intro w'
    go_simp; with_reducible rfl
   rotate_left
   ·exact x5_put
   refine pzv (i := 6) (N := 23) (v := ?_) (a' := ?_) (bA 10 119) HT_ ?_ ?_ ?_
   rotate_left
   ·intro w'
    go_simp; with_reducible rfl
   rotate_left
   ·exact x5_put
   refine take_ (i := 3) (N := some 20) (v := ?_) (a' := ?_) (bA 10 127) rfl rfl (take_ofW HT_.out HW_.out (by kernel_rfl)) (fun _ _ _ h => h) (Or.inl ⟨by rfl, ?_⟩) hHeld ?_ ?_
   rotate_left
   ·rintro w' ⟨sL290, sL291⟩
    first | (refine load_yields (t := 69) (x := ?x_793_290) ?ho_793_290 ?hx_793_290 _ _ sL290 Try.underlying69 rfl (show (Try.prog.info? 69).map (·.size) = some 31 by kernel_rfl); (case ho_793_290 => rfl); (case hx_793_290 => rfl)) | (refine load_yields (t := 69) (x := ?x_793_291) ?ho_793_291 ?hx_793_291 _ _ sL291 Try.underlying69 rfl (show (Try.prog.info? 69).map (·.size) = some 31 by kernel_rfl); (case ho_793_291 => rfl); (case hx_793_291 => rfl)) | (go_simp; with_reducible rfl)
   rotate_left
   ·exact x5_put
   refine take_ (i := 7) (N := some 24) (v := ?_) (a' := ?_) (bA 10 255) rfl rfl (take_ofW HT_.out HW_.out (by kernel_rfl)) (fun _ _ _ h => h) (Or.inl ⟨by rfl, ?_⟩) hHeld ?_ ?_
   rotate_left
   ·rintro w' ⟨sL290, sL291⟩
    first | (refine load_yields (t := 69) (x := ?x_803_290) ?ho_803_290 ?hx_803_290 _ _ sL290 Try.underlying69 rfl (show (Try.prog.info? 69).map (·.size) = some 31 by kernel_rfl); (case ho_803_290 => rfl); (case hx_803_290 => rfl)) | (refine load_yields (t := 69) (x := ?x_803_291) ?ho_803_291 ?hx_803_291 _ _ sL291 Try.underlying69 rfl (show (Try.prog.info? 69).map (·.size) = some 31 by kernel_rfl); (case ho_803_291 => rfl); (case hx_803_291 => rfl)) | (go_simp; with_reducible rfl)
   rotate_left
   ·exact x5_put
   refine one_ (i := 8) (N := some 25) (bA 10 511) rfl rfl (one_of HT_.out (by kernel_rfl)) (by decide) (fun K hK => ?_)
   refine goes_ Try.func90 (by kernel_rfl) rfl #[.agg #[.int .i64 ((rd_T69 l0 x5_1).f0), .int .i64 ((rd_T69 l0 x5_1).f1), .bool ((rd_T69 l0 x5_1).f2), .int .i64 ((rd_T69 l0 x5_1).f3.f0), .int .i64 ((rd_T69 l0 x5_1).f3.f1), .int .i64 ((rd_T69 l0 x5_1).f3.f2), .int .i64 ((rd_T69 l0 x5_1).f3.f3), .int .i64 ((rd_T69 l0 x5_1).f3.f4), .int .i64 ((rd_T69 l0 x5_1).f3.f5), .slice A290_9 ((rd_T69 l0 x5_1).f4.f0).length c290_9, .slice A290_10 ((rd_T69 l0 x5_1).f4.f1).length c290_10, .bool ((rd_T69 l0 x5_1).f5), .int .i64 ((rd_T69 l0 x5_1).f6), .slice A290_13 ((rd_T69 l0 x5_1).f7).length c290_13, .int .i64 ((rd_T69 l0 x5_1).f8.f0), .int .i64 ((rd_T69 l0 x5_1).f8.f1.f0), .int .i64 ((rd_T69 l0 x5_1).f8.f1.f1), .int .i64 ((rd_T69 l0 x5_1).f8.f1.f2), .int .i64 ((rd_T69 l0 x5_1).f8.f1.f3), .int .i64 ((rd_T69 l0 x5_1).f8.f2.f0), .int .i64 ((rd_T69 l0 x5_1).f8.f2.f1), .int .i64 ((rd_T69 l0 x5_1).f8.f2.f2), .int .i64 ((rd_T69 l0 x5_1).f8.f2.f3), .int .i64 ((rd_T69 l0 x5_1).f8.f3.f0), .int .i64 ((rd_T69 l0 x5_1).f8.f3.f1), .int .i64 ((rd_T69 l0 x5_1).f8.f4.f0), .int .i64 ((rd_T69 l0 x5_1).f8.f4.f1), .int .i64 ((rd_T69 l0 x5_1).f9), .int .i64 ((rd_T69 l0 x5_1).f10), .slice A290_29 ((rd_T69 l0 x5_1).f11.f0).length c290_29, .slice A290_30 ((rd_T69 l0 x5_1).f11.f1).length c290_30], .agg #[.int .i64 ((rd_T69 l1 x5_1).f0), .int .i64 ((rd_T69 l1 x5_1).f1), .bool ((rd_T69 l1 x5_1).f2), .int .i64 ((rd_T69 l1 x5_1).f3.f0), .int .i64 ((rd_T69 l1 x5_1).f3.f1), .int .i64 ((rd_T69 l1 x5_1).f3.f2), .int .i64 ((rd_T69 l1 x5_1).f3.f3), .int .i64 ((rd_T69 l1 x5_1).f3.f4), .int .i64 ((rd_T69 l1 x5_1).f3.f5), .slice A291_9 ((rd_T69 l1 x5_1).f4.f0).length c291_9, .slice A291_10 ((rd_T69 l1 x5_1).f4.f1).length c291_10, .bool ((rd_T69 l1 x5_1).f5), .int .i64 ((rd_T69 l1 x5_1).f6), .slice A291_13 ((rd_T69 l1 x5_1).f7).length c291_13, .int .i64 ((rd_T69 l1 x5_1).f8.f0), .int .i64 ((rd_T69 l1 x5_1).f8.f1.f0), .int .i64 ((rd_T69 l1 x5_1).f8.f1.f1), .int .i64 ((rd_T69 l1 x5_1).f8.f1.f2), .int .i64 ((rd_T69 l1 x5_1).f8.f1.f3), .int .i64 ((rd_T69 l1 x5_1).f8.f2.f0), .int .i64 ((rd_T69 l1 x5_1).f8.f2.f1), .int .i64 ((rd_T69 l1 x5_1).f8.f2.f2), .int .i64 ((rd_T69 l1 x5_1).f8.f2.f3), .int .i64 ((rd_T69 l1 x5_1).f8.f3.f0), .int .i64 ((rd_T69 l1 x5_1).f8.f3.f1), .int .i64 ((rd_T69 l1 x5_1).f8.f4.f0), .int .i64 ((rd_T69 l1 x5_1).f8.f4.f1), .int .i64 ((rd_T69 l1 x5_1).f9), .int .i64 ((rd_T69 l1 x5_1).f10), .slice A291_29 ((rd_T69 l1 x5_1).f11.f0).length c291_29, .slice A291_30 ((rd_T69 l1 x5_1).f11.f1).length c291_30]] (by rfl) rfl rfl z5_4 ?_
   with_reducible refine (laws_eqNode.calls k1 ((rd_T69 l0 x5_1).f0) ((rd_T69 l0 x5_1).f1) ((rd_T69 l0 x5_1).f2) ((rd_T69 l0 x5_1).f3.f0) ((rd_T69 l0 x5_1).f3.f1) ((rd_T69 l0 x5_1).f3.f2) ((rd_T69 l0 x5_1).f3.f3) ((rd_T69 l0 x5_1).f3.f4) ((rd_T69 l0 x5_1).f3.f5) _ _ ((rd_T69 l0 x5_1).f4.f0) _ _ ((rd_T69 l0 x5_1).f4.f1) ((rd_T69 l0 x5_1).f5) ((rd_T69 l0 x5_1).f6) _ _ ((rd_T69 l0 x5_1).f7) ((rd_T69 l0 x5_1).f8.f0) ((rd_T69 l0 x5_1).f8.f1.f0) ((rd_T69 l0 x5_1).f8.f1.f1) ((rd_T69 l0 x5_1).f8.f1.f2) ((rd_T69 l0 x5_1).f8.f1.f3) ((rd_T69 l0 x5_1).f8.f2.f0) ((rd_T69 l0 x5_1).f8.f2.f1) ((rd_T69 l0 x5_1).f8.f2.f2) ((rd_T69 l0 x5_1).f8.f2.f3) ((rd_T69 l0 x5_1).f8.f3.f0) ((rd_T69 l0 x5_1).f8.f3.f1) ((rd_T69 l0 x5_1).f8.f4.f0) ((rd_T69 l0 x5_1).f8.f4.f1) ((rd_T69 l0 x5_1).f9) ((rd_T69 l0 x5_1).f10) _ _ ((rd_T69 l0 x5_1).f11.f0) _ _ ((rd_T69 l0 x5_1).f11.f1) ((rd_T69 l1 x5_1).f0) ((rd_T69 l1 x5_1).f1) ((rd_T69 l1 x5_1).f2) ((rd_T69 l1 x5_1).f3.f0) ((rd_T69 l1 x5_1).f3.f1) ((rd_T69 l1 x5_1).f3.f2) ((rd_T69 l1 x5_1).f3.f3) ((rd_T69 l1 x5_1).f3.f4) ((rd_T69 l1 x5_1).f3.f5) _ _ ((rd_T69 l1 x5_1).f4.f0) _ _ ((rd_T69 l1 x5_1).f4.f1) ((rd_T69 l1 x5_1).f5) ((rd_T69 l1 x5_1).f6) _ _ ((rd_T69 l1 x5_1).f7) ((rd_T69 l1 x5_1).f8.f0) ((rd_T69 l1 x5_1).f8.f1.f0) ((rd_T69 l1 x5_1).f8.f1.f1) ((rd_T69 l1 x5_1).f8.f1.f2) ((rd_T69 l1 x5_1).f8.f1.f3) ((rd_T69 l1 x5_1).f8.f2.f0) ((rd_T69 l1 x5_1).f8.f2.f1) ((rd_T69 l1 x5_1).f8.f2.f2) ((rd_T69 l1 x5_1).f8.f2.f3) ((rd_T69 l1 x5_1).f8.f3.f0) ((rd_T69 l1 x5_1).f8.f3.f1) ((rd_T69 l1 x5_1).f8.f4.f0) ((rd_T69 l1 x5_1).f8.f4.f1) ((rd_T69 l1 x5_1).f9) ((rd_T69 l1 x5_1).f10) _ _ ((rd_T69 l1 x5_1).f11.f0) _ _ ((rd_T69 l1 x5_1).f11.f1) true _ ?side1 ?side2 ?side3 ?side4 ?side5 ?side6 ?side7 ?side8 ?side9 ?side10 ?side11 ?side12 ?side13 ?side14 ?side15 ?side16 ?side17 ?side18 ?side19 ?side20 (by first | rfl | assumption) A7.out).mono ?_
   (case side1 => repeat (first | exact (Kd.C_below HR290_9.out HB.out) | (with_reducible refine Kd.C_alloc ?_ _) | (with_reducible refine Kd.C_drewN ?_ _) | (with_reducible refine Kd.C_drew ?_)))
   (case side2 => exact HC290_9.out)
   (case side3 => repeat (first | exact (Kd.C_below HR290_10.out HB.out) | (with_reducible refine Kd.C_alloc ?_ _) | (with_reducible refine Kd.C_drewN ?_ _) | (with_reducible refine Kd.C_drew ?_)))
   (case side4 => exact HC290_10.out)
   (case side5 => repeat (first | exact (Kd.C_below HR290_13.out HB.out) | (with_reducible refine Kd.C_alloc ?_ _) | (with_reducible refine Kd.C_drewN ?_ _) | (with_reducible refine Kd.C_drew ?_)))
   (case side6 => exact HC290_13.out)
   (case side7 => repeat (first | exact (Kd.C_below HR290_29.out HB.out) | (with_reducible refine Kd.C_alloc ?_ _) | (with_reducible refine Kd.C_drewN ?_ _) | (with_reducible refine Kd.C_drew ?_)))
   (case side8 => exact HC290_29.out)
   (case side9 => repeat (first | exact (Kd.C_below HR290_30.out HB.out) | (with_reducible refine Kd.C_alloc ?_ _) | (with_reducible refine Kd.C_drewN ?_ _) | (with_reducible refine Kd.C_drew ?_)))
   (case side10 => exact HC290_30.out)
   (case side11 => repeat (first | exact (Kd.C_below HR291_9.out HB.out) | (with_reducible refine Kd.C_alloc ?_ _) | (with_reducible refine Kd.C_drewN ?_ _) | (with_reducible refine Kd.C_drew ?_)))
   (case side12 => exact HC291_9.out)
   (case side13 => repeat (first | exact (Kd.C_below HR291_10.out HB.out) | (with_reducible refine Kd.C_alloc ?_ _) | (with_reducible refine Kd.C_drewN ?_ _) | (with_reducible refine Kd.C_drew ?_)))
   (case side14 => exact HC291_10.out)
   (case side15 => repeat (first | exact (Kd.C_below HR291_13.out HB.out) | (with_reducible refine Kd.C_alloc ?_ _) | (with_reducible refine Kd.C_drewN ?_ _) | (with_reducible refine Kd.C_drew ?_)))
   (case side16 => exact HC291_13.out)
   (case side17 => repeat (first | exact (Kd.C_below HR291_29.out HB.out) | (with_reducible refine Kd.C_alloc ?_ _) | (with_reducible refine Kd.C_drewN ?_ _) | (with_reducible refine Kd.C_drew ?_)))
   (case side18 => exact HC291_29.out)
   (case side19 => repeat (first | exact (Kd.C_below HR291_30.out HB.out) | (with_reducible refine Kd.C_alloc ?_ _) | (with_reducible refine Kd.C_drewN ?_ _) | (with_reducible refine Kd.C_drew ?_)))
   (case side20 => exact HC291_30.out)
   rintro e w10 ⟨rfl, hb⟩
   refine ⟨_, rfl, ?_⟩
   have n0_ := mk0 (below_step z5_1 hb)
   clear HB; have HB := n0_; clear n0_; (try clear hb); (try clear hb2); (try clear hk); (try clear hi)
   refine hK.out _ _ ⟨lie_below HB.out hM290, lie_below HB.out hM291⟩ (fun hHeld => ?_)
   clear hK K
   refine norm_ (a' := ?_) ?_ ?_
   rotate_left
   ·show Act.put _ (some 25) _ = _
    simp only [Act.put, List.setIfInBounds_toArray, List.set_cons_zero, List.set_cons_succ, i64_w, i32_w]
    rfl
   refine pzv (i := 9) (N := 26) (v := ?_) (a' := ?_) (bA 10 1023) HT_ ?_ ?_ ?_
   rotate_left
   ·intro w'
    go_simp; with_reducible rfl
   rotate_left
   ·exact x5_put
   refine done_ (done_of HT_.out (by kernel_rfl)) ?_
   try go_wp2_with (first | ((with_reducible refine gate_load (t := 69) rfl ?_); refine load_lie (t := 69) rfl rfl hM290 HB (by with_reducible rfl) rfl Try.underlying69 rfl (show (Try.prog.info? 69).map (·.size) = some 31 by kernel_rfl) rfl ?_) | ((with_reducible refine gate_load (t := 69) rfl ?_); refine load_lie0 (t := 69) rfl rfl hM290 (by with_reducible rfl) rfl Try.underlying69 rfl (show (Try.prog.info? 69).map (·.size) = some 31 by kernel_rfl) rfl ?_) | ((with_reducible refine gate_load (t := 69) rfl ?_); refine load_lie (t := 69) rfl rfl hM291 HB (by with_reducible rfl) rfl Try.underlying69 rfl (show (Try.prog.info? 69).map (·.size) = some 31 by kernel_rfl) rfl ?_) | ((with_reducible refine gate_load (t := 69) rfl ?_); refine load_lie0 (t := 69) rfl rfl hM291 (by with_reducible rfl) rfl Try.underlying69 rfl (show (Try.prog.info? 69).map (·.size) = some 31 by kernel_rfl) rfl ?_))
   go_roundg k1
   case measure => have := HK1.out; omega
   case rel => exact ⟨(wrap64 (x5_1 + 1)), rs0, H', ⟨(by have := HK1.out; omega)⟩, ⟨z5_1⟩⟩

end Go.Proofs.Ytjfienkbcacijaa.MFnExactKidsOf
