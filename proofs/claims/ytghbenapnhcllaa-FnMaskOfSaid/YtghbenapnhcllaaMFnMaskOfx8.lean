/- Functions of the program as Lean functions, and the proof that a call comes to just these: machine text of this session's own program (myprint.py). -/
import Derived.Test.YtghbenapnhcllaaMFnMaskOfx0
import Derived.Test.YtghbenapnhcllaaMFnMaskOfx5
import Derived.Test.YtghbenapnhcllaaMFnMaskOfx6
namespace Go.Proofs.Ytghbenapnhcllaa.MFnMaskOf
open Go.RowKit Go.Proofs.YtghbenapnhcllaaW.PrintWords Go.Proofs.YtghbenapnhcllaaW.PrintLast Go.Proofs.YtghbenapnhcllaaW.PrintMore
attribute [local go_sem] max2_int min2_int max_two min_two max_three min_three max_four min_four   -- for this text's walks alone
set_option linter.unusedVariables false
set_option linter.unusedSimpArgs false

theorem z8_0 {P : Prop} (h : P := by repeat (first | (with_reducible first | exact HB.out | apply below_alloc | apply pw_below_drewN | apply below_drew1 | refine below_set ?_ GE205.out | refine below_set ?_ GE206.out | refine below_set ?_ GE207.out | refine below_set ?_ GE208.out | refine below_set ?_ GE209.out) | exact HB.out)) : P := h
theorem z8_1 {P : Prop} (h : P := by (with_reducible repeat (first | refine blk_drewN ?_ _ | refine blk_drew ?_ | refine blk_alloc ?_ _)); exact BK205.out) : P := h
theorem z8_2 {P : Prop} (h : P := by (with_reducible repeat (first | refine blk_drewN ?_ _ | refine blk_drew ?_ | refine blk_alloc ?_ _)); exact BK206.out) : P := h
theorem z8_3 {P : Prop} (h : P := by (with_reducible repeat (first | refine blk_drewN ?_ _ | refine blk_drew ?_ | refine blk_alloc ?_ _)); exact BK207.out) : P := h
theorem z8_4 {P : Prop} (h : P := by (with_reducible repeat (first | refine blk_drewN ?_ _ | refine blk_drew ?_ | refine blk_alloc ?_ _)); exact BK208.out) : P := h
theorem z8_5 {P : Prop} (h : P := by (with_reducible repeat (first | refine blk_drewN ?_ _ | refine blk_drew ?_ | refine blk_alloc ?_ _)); exact BK209.out) : P := h
theorem z8_6 {P : Prop} (h : P := by (try simp only [List.map_toArray, List.map_cons, List.map_nil]); first | done | rfl | (simp only [List.length_drop, List.length_take]; rfl)) : P := h
theorem z8_7 {P : Prop} (h : P := by repeat (first | (with_reducible first | exact HB.out | apply below_alloc | apply pw_below_drewN | apply below_drew1 | refine below_set ?_ GE205.out | refine below_set ?_ GE206.out | refine below_set ?_ GE207.out | refine below_set ?_ GE208.out) | exact HB.out)) : P := h
theorem z8_8 {P : Prop} (h : P := by repeat (first | (with_reducible first | exact HB.out | apply below_alloc | apply pw_below_drewN | apply below_drew1 | refine below_set ?_ GE205.out | refine below_set ?_ GE206.out | refine below_set ?_ GE207.out) | exact HB.out)) : P := h
theorem z8_9 {P : Prop} (h : P := by repeat (first | (with_reducible first | exact HB.out | apply below_alloc | apply pw_below_drewN | apply below_drew1 | refine below_set ?_ GE205.out | refine below_set ?_ GE206.out) | exact HB.out)) : P := h
theorem z8_10 {P : Prop} (h : P := by repeat (first | (with_reducible first | exact HB.out | apply below_alloc | apply pw_below_drewN | apply below_drew1 | refine below_set ?_ GE205.out) | exact HB.out)) : P := h
theorem z8_11 {P : Prop} (h : P := by repeat (first | (with_reducible first | exact HB.out | apply below_alloc | apply pw_below_drewN | apply below_drew1) | exact HB.out)) : P := h
theorem z8_12 {P : Prop} (h : P := by apply blk_fin; (focus ((with_reducible repeat (first | apply blk_putQ | refine blk_drewN ?_ _ | refine blk_drew ?_ | refine blk_alloc ?_ _)); exact BK209.out)); first | (simp only [List.setIfInBounds_toArray, List.set_cons_zero, List.set_cons_succ]; done) | rfl) : P := h
/-! ### spec_CubicAt: function 54 -/
def spec_CubicAt.j0 : Nat → Int → Bool → Int → Int → Int → Int → Int → Int → Int → Int → Option (Int × Int)
 | 0, _, _, _, _, _, _, _, _, _, _ => none
 | k + 1, x4, x31, x206000, x206001, x207000, x207001, x208000, x208001, x209000, x209001 => if x31 = true then (some (0, 0)) else ((spec_Clamp.f x4 0 8).bind fun t214 => ((spec_RoundDiv.f (wrap64 ((wrap64 ((wrap64 ((wrap64 ((wrap64 ((wrap64 ((wrap64 (8 - t214)) * (wrap64 (8 - t214)))) * (wrap64 (8 - t214)))) * x206000)) + (wrap64 ((wrap64 ((wrap64 ((wrap64 (3 * t214)) * (wrap64 (8 - t214)))) * (wrap64 (8 - t214)))) * x207000)))) + (wrap64 ((wrap64 ((wrap64 ((wrap64 (3 * t214)) * t214)) * (wrap64 (8 - t214)))) * x208000)))) + (wrap64 ((wrap64 ((wrap64 (t214 * t214)) * t214)) * x209000)))) 512).bind fun t215 => ((spec_RoundDiv.f (wrap64 ((wrap64 ((wrap64 ((wrap64 ((wrap64 ((wrap64 ((wrap64 (8 - t214)) * (wrap64 (8 - t214)))) * (wrap64 (8 - t214)))) * x206001)) + (wrap64 ((wrap64 ((wrap64 ((wrap64 (3 * t214)) * (wrap64 (8 - t214)))) * (wrap64 (8 - t214)))) * x207001)))) + (wrap64 ((wrap64 ((wrap64 ((wrap64 (3 * t214)) * t214)) * (wrap64 (8 - t214)))) * x208001)))) + (wrap64 ((wrap64 ((wrap64 (t214 * t214)) * t214)) * x209001)))) 512).bind fun t216 => (some (t215, t216)))))
def spec_CubicAt.f (k : Nat) (a0_0 : Int) (a0_1 : Int) (a1_0 : Int) (a1_1 : Int) (a2_0 : Int) (a2_1 : Int) (a3_0 : Int) (a3_1 : Int) (a4 : Int) : Option (Int × Int) := (spec_PointOk.f a0_0 a0_1).bind fun t210 => (if t210 = true then ((spec_PointOk.f a1_0 a1_1).bind fun t211 => (if t211 = true then ((spec_PointOk.f a2_0 a2_1).bind fun t212 => (if t212 = true then ((spec_PointOk.f a3_0 a3_1).bind fun t213 => (spec_CubicAt.j0 k a4 (!t213) a0_0 a0_1 a1_0 a1_1 a2_0 a2_1 a3_0 a3_1)) else (spec_CubicAt.j0 k a4 true a0_0 a0_1 a1_0 a1_1 a2_0 a2_1 a3_0 a3_1))) else (spec_CubicAt.j0 k a4 true a0_0 a0_1 a1_0 a1_1 a2_0 a2_1 a3_0 a3_1))) else (spec_CubicAt.j0 k a4 true a0_0 a0_1 a1_0 a1_1 a2_0 a2_1 a3_0 a3_1))
theorem spec_CubicAt.mono_l : ∀ k, (∀ y0 y1 y2 y3 y4 y5 y6 y7 y8 y9, LeO (spec_CubicAt.j0 k y0 y1 y2 y3 y4 y5 y6 y7 y8 y9) (spec_CubicAt.j0 (k + 1) y0 y1 y2 y3 y4 y5 y6 y7 y8 y9))
 | 0 => fun _ _ _ _ _ _ _ _ _ _ r h => by simp [spec_CubicAt.j0] at h
 | k + 1 => by
  have ih0 := spec_CubicAt.mono_l k
  ·intro y0 y1 y2 y3 y4 y5 y6 y7 y8 y9
   unfold spec_CubicAt.j0
   repeat' first
   | (with_reducible exact ih0 _ _ _ _ _ _ _ _ _ _)
   | (with_reducible exact LeO.refl _)
   | (with_reducible exact LeO.none _)
   | (with_reducible refine LeO.ite ?_ ?_)
   | (with_reducible refine LeO.bind ?_ (fun _ => ?_))
   | exact ih0 _ _ _ _ _ _ _ _ _ _
   | exact LeO.none _
   | refine LeO.ite ?_ ?_
   | refine LeO.bind ?_ (fun _ => ?_)
theorem spec_CubicAt.mono : ∀ a0 a1 a2 a3 a4 a5 a6 a7 a8 k, LeO (spec_CubicAt.f k a0 a1 a2 a3 a4 a5 a6 a7 a8) (spec_CubicAt.f (k + 1) a0 a1 a2 a3 a4 a5 a6 a7 a8) := by
 intro a0 a1 a2 a3 a4 a5 a6 a7 a8 k
 have ih0 := spec_CubicAt.mono_l k
 unfold spec_CubicAt.f
 repeat' first
   | (with_reducible exact ih0 _ _ _ _ _ _ _ _ _ _)
   | (with_reducible exact LeO.refl _)
   | (with_reducible exact LeO.none _)
   | (with_reducible refine LeO.ite ?_ ?_)
   | (with_reducible refine LeO.bind ?_ (fun _ => ?_))
   | exact ih0 _ _ _ _ _ _ _ _ _ _
   | exact LeO.none _
   | refine LeO.ite ?_ ?_
   | refine LeO.bind ?_ (fun _ => ?_)
set_option maxHeartbeats 8000000 in
set_option maxRecDepth 100000 in
theorem spec_CubicAt.calls (k : Nat) (a0_0 : Int) (a0_1 : Int) (a1_0 : Int) (a1_1 : Int) (a2_0 : Int) (a2_1 : Int) (a3_0 : Int) (a3_1 : Int) (a4 : Int) (r1 : Int) (r2 : Int) (w : World) (h : spec_CubicAt.f k a0_0 a0_1 a1_0 a1_1 a2_0 a2_1 a3_0 a3_1 a4 = some (r1, r2)) :
  Calls Try.prog 54 #[.agg #[.int .i64 a0_0, .int .i64 a0_1], .agg #[.int .i64 a1_0, .int .i64 a1_1], .agg #[.int .i64 a2_0, .int .i64 a2_1], .agg #[.int .i64 a3_0, .int .i64 a3_1], .int .i64 a4] w fun e w' => e = .returned (.agg #[.int .i64 r1, .int .i64 r2]) ∧ Below w.heap.size w w' := by
 have hu52 := Try.underlying52
 have HB := Aside0.mk (Below.refl w.heap.size w)
 have H : ((spec_PointOk.f a0_0 a0_1).bind fun t210 => (if t210 = true then ((spec_PointOk.f a1_0 a1_1).bind fun t211 => (if t211 = true then ((spec_PointOk.f a2_0 a2_1).bind fun t212 => (if t212 = true then ((spec_PointOk.f a3_0 a3_1).bind fun t213 => (spec_CubicAt.j0 k a4 (!t213) a0_0 a0_1 a1_0 a1_1 a2_0 a2_1 a3_0 a3_1)) else (spec_CubicAt.j0 k a4 true a0_0 a0_1 a1_0 a1_1 a2_0 a2_1 a3_0 a3_1))) else (spec_CubicAt.j0 k a4 true a0_0 a0_1 a1_0 a1_1 a2_0 a2_1 a3_0 a3_1))) else (spec_CubicAt.j0 k a4 true a0_0 a0_1 a1_0 a1_1 a2_0 a2_1 a3_0 a3_1))) = some (r1, r2) := h
 clear h
 have HC6 := Aside0.mk H
 clear H
 go_enter Try.func54, Try.ntmps54
 go_upto_region 1 with (first | ((with_reducible refine gate_dst (N := 5) rfl ?_); refine boxz (cs := #[.int .i64 a0_0, .int .i64 a0_1]) (t := 52) rfl ?_; intro gb205 hg w7 hbox hb; have n0_ := Aside0.mk (below_step z8_11 hb); have n1_ := Aside0.mk (hbox); have n2_ := Aside0.mk (ge_go (a := w.heap.size) hg (below_size z8_11)); have n3_ := Aside0.mk (ge_go (a := w.heap.size) hg (below_size z8_11)); clear HB; have HB := n0_; have BK205 := n1_; have GW205 := n2_; have GE205 := n3_; clear n0_ n1_ n2_ n3_; clear hb hbox hg) | ((with_reducible refine gate_dst (N := 6) rfl ?_); refine boxz (cs := #[.int .i64 a1_0, .int .i64 a1_1]) (t := 52) rfl ?_; intro gb206 hg w8 hbox hb; have n0_ := Aside0.mk (blk_belowB BK205 z8_1 hb); have n1_ := Aside0.mk (below_step z8_10 hb); have n2_ := Aside0.mk (hbox); have n3_ := Aside0.mk (ge_go (a := w.heap.size) hg (below_size z8_10)); have n4_ := Aside0.mk (ge_go (a := w.heap.size) hg (below_size z8_10)); have n5_ := Aside0.mk (nb_lt hg (blk_ltB BK205 z8_1)); have n6_ := Aside0.mk (nb_gt hg (blk_ltB BK205 z8_1)); clear BK205; clear HB; have BK205 := n0_; have HB := n1_; have BK206 := n2_; have GW206 := n3_; have GE206 := n4_; have NB205_206 := n5_; have NB206_205 := n6_; clear n0_ n1_ n2_ n3_ n4_ n5_ n6_; clear hb hbox hg) | ((with_reducible refine gate_dst (N := 7) rfl ?_); refine boxz (cs := #[.int .i64 a2_0, .int .i64 a2_1]) (t := 52) rfl ?_; intro gb207 hg w9 hbox hb; have n0_ := Aside0.mk (blk_belowB BK205 z8_1 hb); have n1_ := Aside0.mk (blk_belowB BK206 z8_2 hb); have n2_ := Aside0.mk (below_step z8_9 hb); have n3_ := Aside0.mk (hbox); have n4_ := Aside0.mk (ge_go (a := w.heap.size) hg (below_size z8_9)); have n5_ := Aside0.mk (ge_go (a := w.heap.size) hg (below_size z8_9)); have n6_ := Aside0.mk (nb_lt hg (blk_ltB BK205 z8_1)); have n7_ := Aside0.mk (nb_gt hg (blk_ltB BK205 z8_1)); have n8_ := Aside0.mk (nb_lt hg (blk_ltB BK206 z8_2)); have n9_ := Aside0.mk (nb_gt hg (blk_ltB BK206 z8_2)); clear BK205; clear BK206; clear HB; have BK205 := n0_; have BK206 := n1_; have HB := n2_; have BK207 := n3_; have GW207 := n4_; have GE207 := n5_; have NB205_207 := n6_; have NB207_205 := n7_; have NB206_207 := n8_; have NB207_206 := n9_; clear n0_ n1_ n2_ n3_ n4_ n5_ n6_ n7_ n8_ n9_; clear hb hbox hg) | ((with_reducible refine gate_dst (N := 8) rfl ?_); refine boxz (cs := #[.int .i64 a3_0, .int .i64 a3_1]) (t := 52) rfl ?_; intro gb208 hg w10 hbox hb; have n0_ := Aside0.mk (blk_belowB BK205 z8_1 hb); have n1_ := Aside0.mk (blk_belowB BK206 z8_2 hb); have n2_ := Aside0.mk (blk_belowB BK207 z8_3 hb); have n3_ := Aside0.mk (below_step z8_8 hb); have n4_ := Aside0.mk (hbox); have n5_ := Aside0.mk (ge_go (a := w.heap.size) hg (below_size z8_8)); have n6_ := Aside0.mk (ge_go (a := w.heap.size) hg (below_size z8_8)); have n7_ := Aside0.mk (nb_lt hg (blk_ltB BK205 z8_1)); have n8_ := Aside0.mk (nb_gt hg (blk_ltB BK205 z8_1)); have n9_ := Aside0.mk (nb_lt hg (blk_ltB BK206 z8_2)); have n10_ := Aside0.mk (nb_gt hg (blk_ltB BK206 z8_2)); have n11_ := Aside0.mk (nb_lt hg (blk_ltB BK207 z8_3)); have n12_ := Aside0.mk (nb_gt hg (blk_ltB BK207 z8_3)); clear BK205; clear BK206; clear BK207; clear HB; have BK205 := n0_; have BK206 := n1_; have BK207 := n2_; have HB := n3_; have BK208 := n4_; have GW208 := n5_; have GE208 := n6_; have NB205_208 := n7_; have NB208_205 := n8_; have NB206_208 := n9_; have NB208_206 := n10_; have NB207_208 := n11_; have NB208_207 := n12_; clear n0_ n1_ n2_ n3_ n4_ n5_ n6_ n7_ n8_ n9_ n10_ n11_ n12_; clear hb hbox hg) | ((with_reducible refine gate_dst (N := 10) rfl ?_); refine boxz (cs := #[.int .i64 0, .int .i64 0]) (t := 52) rfl ?_; intro gb209 hg w11 hbox hb; have n0_ := Aside0.mk (blk_belowB BK205 z8_1 hb); have n1_ := Aside0.mk (blk_belowB BK206 z8_2 hb); have n2_ := Aside0.mk (blk_belowB BK207 z8_3 hb); have n3_ := Aside0.mk (blk_belowB BK208 z8_4 hb); have n4_ := Aside0.mk (below_step z8_7 hb); have n5_ := Aside0.mk (hbox); have n6_ := Aside0.mk (ge_go (a := w.heap.size) hg (below_size z8_7)); have n7_ := Aside0.mk (ge_go (a := w.heap.size) hg (below_size z8_7)); have n8_ := Aside0.mk (nb_lt hg (blk_ltB BK205 z8_1)); have n9_ := Aside0.mk (nb_gt hg (blk_ltB BK205 z8_1)); have n10_ := Aside0.mk (nb_lt hg (blk_ltB BK206 z8_2)); have n11_ := Aside0.mk (nb_gt hg (blk_ltB BK206 z8_2)); have n12_ := Aside0.mk (nb_lt hg (blk_ltB BK207 z8_3)); have n13_ := Aside0.mk (nb_gt hg (blk_ltB BK207 z8_3)); have n14_ := Aside0.mk (nb_lt hg (blk_ltB BK208 z8_4)); have n15_ := Aside0.mk (nb_gt hg (blk_ltB BK208 z8_4)); clear BK205; clear BK206; clear BK207; clear BK208; clear HB; have BK205 := n0_; have BK206 := n1_; have BK207 := n2_; have BK208 := n3_; have HB := n4_; have BK209 := n5_; have GW209 := n6_; have GE209 := n7_; have NB205_209 := n8_; have NB209_205 := n9_; have NB206_209 := n10_; have NB209_206 := n11_; have NB207_209 := n12_; have NB209_207 := n13_; have NB208_209 := n14_; have NB209_208 := n15_; clear n0_ n1_ n2_ n3_ n4_ n5_ n6_ n7_ n8_ n9_ n10_ n11_ n12_ n13_ n14_ n15_; clear hb hbox hg))
 (try simp only [Act.put, List.setIfInBounds_toArray, List.set_cons_zero, List.set_cons_succ])
 go_cut [31] (fun v31 wc => ∃ (kq : Nat) (x31_5 : Bool), v31 = .bool x31_5 ∧ Aside0 (spec_CubicAt.j0 kq a4 x31_5 a0_0 a0_1 a1_0 a1_1 a2_0 a2_1 a3_0 a3_1 = some (r1, r2)) ∧ Aside0 (kq ≤ k) ∧ Aside0 (wc.heap[gb205]? = some (.cells #[.int .i64 a0_0, .int .i64 a0_1] 52 (0, 0))) ∧ Aside0 (wc.heap[gb206]? = some (.cells #[.int .i64 a1_0, .int .i64 a1_1] 52 (0, 0))) ∧ Aside0 (wc.heap[gb207]? = some (.cells #[.int .i64 a2_0, .int .i64 a2_1] 52 (0, 0))) ∧ Aside0 (wc.heap[gb208]? = some (.cells #[.int .i64 a3_0, .int .i64 a3_1] 52 (0, 0))) ∧ Aside0 (wc.heap[gb209]? = some (.cells #[.int .i64 0, .int .i64 0] 52 (0, 0))) ∧ Aside0 (Below w.heap.size w wc))
 case first =>
  have H := HC6.out; clear HC6
  replace H := Option.bind_eq_some_iff.mp H
  obtain ⟨t210, A120, H⟩ := H
  try dsimp only at H
  have A12 := Aside0.mk A120
  clear A120
  by_cases c13 : t210 = true
  ·subst c13
   have H1 : ((spec_PointOk.f a1_0 a1_1).bind fun t211 => (if t211 = true then ((spec_PointOk.f a2_0 a2_1).bind fun t212 => (if t212 = true then ((spec_PointOk.f a3_0 a3_1).bind fun t213 => (spec_CubicAt.j0 k a4 (!t213) a0_0 a0_1 a1_0 a1_1 a2_0 a2_1 a3_0 a3_1)) else (spec_CubicAt.j0 k a4 true a0_0 a0_1 a1_0 a1_1 a2_0 a2_1 a3_0 a3_1))) else (spec_CubicAt.j0 k a4 true a0_0 a0_1 a1_0 a1_1 a2_0 a2_1 a3_0 a3_1))) = some (r1, r2) := by rw [if_pos rfl] at H; exact H
   clear H; have H := H1; clear H1
   replace H := Option.bind_eq_some_iff.mp H
   obtain ⟨t211, A140, H⟩ := H
   try dsimp only at H
   have A14 := Aside0.mk A140
   clear A140
   by_cases c15 : t211 = true
   ·subst c15
    have H1 : ((spec_PointOk.f a2_0 a2_1).bind fun t212 => (if t212 = true then ((spec_PointOk.f a3_0 a3_1).bind fun t213 => (spec_CubicAt.j0 k a4 (!t213) a0_0 a0_1 a1_0 a1_1 a2_0 a2_1 a3_0 a3_1)) else (spec_CubicAt.j0 k a4 true a0_0 a0_1 a1_0 a1_1 a2_0 a2_1 a3_0 a3_1))) = some (r1, r2) := by rw [if_pos rfl] at H; exact H
    clear H; have H := H1; clear H1
    replace H := Option.bind_eq_some_iff.mp H
    obtain ⟨t212, A160, H⟩ := H
    try dsimp only at H
    have A16 := Aside0.mk A160
    clear A160
    by_cases c17 : t212 = true
    ·subst c17
     have H1 : ((spec_PointOk.f a3_0 a3_1).bind fun t213 => (spec_CubicAt.j0 k a4 (!t213) a0_0 a0_1 a1_0 a1_1 a2_0 a2_1 a3_0 a3_1)) = some (r1, r2) := by rw [if_pos rfl] at H; exact H
     clear H; have H := H1; clear H1
     replace H := Option.bind_eq_some_iff.mp H
     obtain ⟨t213, A180, H⟩ := H
     try dsimp only at H
     have A18 := Aside0.mk A180
     clear A180
     have H' := Aside0.mk H
     clear H; have hnb19 := NB205_206.out; have hnc19 := NB206_205.out; have hnb20 := NB205_207.out; have hnc20 := NB207_205.out; have hnb21 := NB205_208.out; have hnc21 := NB208_205.out; have hnb22 := NB205_209.out; have hnc22 := NB209_205.out
     obtain ⟨_, _, _, _⟩ := be_2 BK205.out
     go_wp2_with (first | ((with_reducible refine gate_callee (f := 117) rfl ?_); refine goesL_ (some 15) rfl rfl Try.func117 (by kernel_rfl) rfl #[.agg #[.int .i64 a0_0, .int .i64 a0_1]] rfl z8_6 ?_; (with_reducible refine (spec_PointOk.calls a0_0 a0_1 true _ A12.out).mono ?_); rintro e w24 ⟨rfl, hb⟩; refine ⟨_, rfl, ?_⟩; have n0_ := Aside0.mk (blk_belowB BK205 z8_1 hb); have n1_ := Aside0.mk (blk_belowB BK206 z8_2 hb); have n2_ := Aside0.mk (blk_belowB BK207 z8_3 hb); have n3_ := Aside0.mk (blk_belowB BK208 z8_4 hb); have n4_ := Aside0.mk (blk_belowB BK209 z8_5 hb); have n5_ := Aside0.mk (below_step z8_0 hb); clear BK205; clear BK206; clear BK207; clear BK208; clear BK209; clear HB; have BK205 := n0_; have BK206 := n1_; have BK207 := n2_; have BK208 := n3_; have BK209 := n4_; have HB := n5_; clear n0_ n1_ n2_ n3_ n4_ n5_; (try clear hb); have hnb25 := NB206_207.out; have hnc25 := NB207_206.out; have hnb26 := NB206_208.out; have hnc26 := NB208_206.out; have hnb27 := NB206_209.out; have hnc27 := NB209_206.out; obtain ⟨_, _, _, _⟩ := be_2 BK206.out) | (go_at_call 117; (with_reducible refine (spec_PointOk.calls a1_0 a1_1 true _ A14.out).mono ?_); rintro e w29 ⟨rfl, hb⟩; have n0_ := Aside0.mk (blk_belowB BK205 z8_1 hb); have n1_ := Aside0.mk (blk_belowB BK206 z8_2 hb); have n2_ := Aside0.mk (blk_belowB BK207 z8_3 hb); have n3_ := Aside0.mk (blk_belowB BK208 z8_4 hb); have n4_ := Aside0.mk (blk_belowB BK209 z8_5 hb); have n5_ := Aside0.mk (below_step z8_0 hb); clear BK205; clear BK206; clear BK207; clear BK208; clear BK209; clear HB; have BK205 := n0_; have BK206 := n1_; have BK207 := n2_; have BK208 := n3_; have BK209 := n4_; have HB := n5_; clear n0_ n1_ n2_ n3_ n4_ n5_; (try clear hb); have hnb30 := NB207_208.out; have hnc30 := NB208_207.out; have hnb31 := NB207_209.out; have hnc31 := NB209_207.out; obtain ⟨_, _, _, _⟩ := be_2 BK207.out) | (go_at_call 117; (with_reducible refine (spec_PointOk.calls a2_0 a2_1 true _ A16.out).mono ?_); rintro e w33 ⟨rfl, hb⟩; have n0_ := Aside0.mk (blk_belowB BK205 z8_1 hb); have n1_ := Aside0.mk (blk_belowB BK206 z8_2 hb); have n2_ := Aside0.mk (blk_belowB BK207 z8_3 hb); have n3_ := Aside0.mk (blk_belowB BK208 z8_4 hb); have n4_ := Aside0.mk (blk_belowB BK209 z8_5 hb); have n5_ := Aside0.mk (below_step z8_0 hb); clear BK205; clear BK206; clear BK207; clear BK208; clear BK209; clear HB; have BK205 := n0_; have BK206 := n1_; have BK207 := n2_; have BK208 := n3_; have BK209 := n4_; have HB := n5_; clear n0_ n1_ n2_ n3_ n4_ n5_; (try clear hb); have hnb34 := NB208_209.out; have hnc34 := NB209_208.out; obtain ⟨_, _, _, _⟩ := be_2 BK208.out) | (go_at_call 117; (with_reducible refine (spec_PointOk.calls a3_0 a3_1 t213 _ A18.out).mono ?_); rintro e w36 ⟨rfl, hb⟩; have n0_ := Aside0.mk (blk_belowB BK205 z8_1 hb); have n1_ := Aside0.mk (blk_belowB BK206 z8_2 hb); have n2_ := Aside0.mk (blk_belowB BK207 z8_3 hb); have n3_ := Aside0.mk (blk_belowB BK208 z8_4 hb); have n4_ := Aside0.mk (blk_belowB BK209 z8_5 hb); have n5_ := Aside0.mk (below_step z8_0 hb); clear BK205; clear BK206; clear BK207; clear BK208; clear BK209; clear HB; have BK205 := n0_; have BK206 := n1_; have BK207 := n2_; have BK208 := n3_; have BK209 := n4_; have HB := n5_; clear n0_ n1_ n2_ n3_ n4_ n5_; (try clear hb)))
     go_meet
     case rel => exact ⟨_, (!t213), (by first | rfl | (simp; done) | (simp [*]; done)), H', ⟨by first | omega | exact Nat.le_refl _⟩, ⟨by (with_reducible repeat (first | refine blk_drewN ?_ _ | refine blk_drew ?_ | refine blk_alloc ?_ _)); exact BK205.out⟩, ⟨by (with_reducible repeat (first | refine blk_drewN ?_ _ | refine blk_drew ?_ | refine blk_alloc ?_ _)); exact BK206.out⟩, ⟨by (with_reducible repeat (first | refine blk_drewN ?_ _ | refine blk_drew ?_ | refine blk_alloc ?_ _)); exact BK207.out⟩, ⟨by (with_reducible repeat (first | refine blk_drewN ?_ _ | refine blk_drew ?_ | refine blk_alloc ?_ _)); exact BK208.out⟩, ⟨by (with_reducible repeat (first | refine blk_drewN ?_ _ | refine blk_drew ?_ | refine blk_alloc ?_ _)); exact BK209.out⟩, ⟨by repeat (first | (with_reducible first | exact HB.out | apply below_alloc | apply pw_below_drewN | apply below_drew1 | refine below_set ?_ GE205.out | refine below_set ?_ GE206.out | refine below_set ?_ GE207.out | refine below_set ?_ GE208.out | refine below_set ?_ GE209.out) | exact HB.out)⟩⟩
    ·replace c17 := Bool.eq_false_iff.mpr c17
     subst c17
     have H1 : (spec_CubicAt.j0 k a4 true a0_0 a0_1 a1_0 a1_1 a2_0 a2_1 a3_0 a3_1) = some (r1, r2) := by rw [if_neg (show ¬ (false = true) by decide)] at H; exact H
     clear H; have H := H1; clear H1
     have H' := Aside0.mk H
     clear H; have hnb37 := NB205_206.out; have hnc37 := NB206_205.out; have hnb38 := NB205_207.out; have hnc38 := NB207_205.out; have hnb39 := NB205_208.out; have hnc39 := NB208_205.out; have hnb40 := NB205_209.out; have hnc40 := NB209_205.out
     obtain ⟨_, _, _, _⟩ := be_2 BK205.out
     go_wp2_with (first | ((with_reducible refine gate_callee (f := 117) rfl ?_); refine goesL_ (some 15) rfl rfl Try.func117 (by kernel_rfl) rfl #[.agg #[.int .i64 a0_0, .int .i64 a0_1]] rfl z8_6 ?_; (with_reducible refine (spec_PointOk.calls a0_0 a0_1 true _ A12.out).mono ?_); rintro e w42 ⟨rfl, hb⟩; refine ⟨_, rfl, ?_⟩; have n0_ := Aside0.mk (blk_belowB BK205 z8_1 hb); have n1_ := Aside0.mk (blk_belowB BK206 z8_2 hb); have n2_ := Aside0.mk (blk_belowB BK207 z8_3 hb); have n3_ := Aside0.mk (blk_belowB BK208 z8_4 hb); have n4_ := Aside0.mk (blk_belowB BK209 z8_5 hb); have n5_ := Aside0.mk (below_step z8_0 hb); clear BK205; clear BK206; clear BK207; clear BK208; clear BK209; clear HB; have BK205 := n0_; have BK206 := n1_; have BK207 := n2_; have BK208 := n3_; have BK209 := n4_; have HB := n5_; clear n0_ n1_ n2_ n3_ n4_ n5_; (try clear hb); have hnb43 := NB206_207.out; have hnc43 := NB207_206.out; have hnb44 := NB206_208.out; have hnc44 := NB208_206.out; have hnb45 := NB206_209.out; have hnc45 := NB209_206.out; obtain ⟨_, _, _, _⟩ := be_2 BK206.out) | (go_at_call 117; (with_reducible refine (spec_PointOk.calls a1_0 a1_1 true _ A14.out).mono ?_); rintro e w47 ⟨rfl, hb⟩; have n0_ := Aside0.mk (blk_belowB BK205 z8_1 hb); have n1_ := Aside0.mk (blk_belowB BK206 z8_2 hb); have n2_ := Aside0.mk (blk_belowB BK207 z8_3 hb); have n3_ := Aside0.mk (blk_belowB BK208 z8_4 hb); have n4_ := Aside0.mk (blk_belowB BK209 z8_5 hb); have n5_ := Aside0.mk (below_step z8_0 hb); clear BK205; clear BK206; clear BK207; clear BK208; clear BK209; clear HB; have BK205 := n0_; have BK206 := n1_; have BK207 := n2_; have BK208 := n3_; have BK209 := n4_; have HB := n5_; clear n0_ n1_ n2_ n3_ n4_ n5_; (try clear hb); have hnb48 := NB207_208.out; have hnc48 := NB208_207.out; have hnb49 := NB207_209.out; have hnc49 := NB209_207.out; obtain ⟨_, _, _, _⟩ := be_2 BK207.out) | (go_at_call 117; (with_reducible refine (spec_PointOk.calls a2_0 a2_1 false _ A16.out).mono ?_); rintro e w51 ⟨rfl, hb⟩; have n0_ := Aside0.mk (blk_belowB BK205 z8_1 hb); have n1_ := Aside0.mk (blk_belowB BK206 z8_2 hb); have n2_ := Aside0.mk (blk_belowB BK207 z8_3 hb); have n3_ := Aside0.mk (blk_belowB BK208 z8_4 hb); have n4_ := Aside0.mk (blk_belowB BK209 z8_5 hb); have n5_ := Aside0.mk (below_step z8_0 hb); clear BK205; clear BK206; clear BK207; clear BK208; clear BK209; clear HB; have BK205 := n0_; have BK206 := n1_; have BK207 := n2_; have BK208 := n3_; have BK209 := n4_; have HB := n5_; clear n0_ n1_ n2_ n3_ n4_ n5_; (try clear hb)))
     go_meet
     case rel => exact ⟨_, (true), (by first | rfl | (simp; done) | (simp [*]; done)), H', ⟨by first | omega | exact Nat.le_refl _⟩, ⟨by (with_reducible repeat (first | refine blk_drewN ?_ _ | refine blk_drew ?_ | refine blk_alloc ?_ _)); exact BK205.out⟩, ⟨by (with_reducible repeat (first | refine blk_drewN ?_ _ | refine blk_drew ?_ | refine blk_alloc ?_ _)); exact BK206.out⟩, ⟨by (with_reducible repeat (first | refine blk_drewN ?_ _ | refine blk_drew ?_ | refine blk_alloc ?_ _)); exact BK207.out⟩, ⟨by (with_reducible repeat (first | refine blk_drewN ?_ _ | refine blk_drew ?_ | refine blk_alloc ?_ _)); exact BK208.out⟩, ⟨by (with_reducible repeat (first | refine blk_drewN ?_ _ | refine blk_drew ?_ | refine blk_alloc ?_ _)); exact BK209.out⟩, ⟨by repeat (first | (with_reducible first | exact HB.out | apply below_alloc | apply pw_below_drewN | apply below_drew1 | refine below_set ?_ GE205.out | refine below_set ?_ GE206.out | refine below_set ?_ GE207.out | refine below_set ?_ GE208.out | refine below_set ?_ GE209.out) | exact HB.out)⟩⟩
   ·replace c15 := Bool.eq_false_iff.mpr c15
    subst c15
    have H1 : (spec_CubicAt.j0 k a4 true a0_0 a0_1 a1_0 a1_1 a2_0 a2_1 a3_0 a3_1) = some (r1, r2) := by rw [if_neg (show ¬ (false = true) by decide)] at H; exact H
    clear H; have H := H1; clear H1
    have H' := Aside0.mk H
    clear H; have hnb52 := NB205_206.out; have hnc52 := NB206_205.out; have hnb53 := NB205_207.out; have hnc53 := NB207_205.out; have hnb54 := NB205_208.out; have hnc54 := NB208_205.out; have hnb55 := NB205_209.out; have hnc55 := NB209_205.out
    obtain ⟨_, _, _, _⟩ := be_2 BK205.out
    go_wp2_with (first | ((with_reducible refine gate_callee (f := 117) rfl ?_); refine goesL_ (some 15) rfl rfl Try.func117 (by kernel_rfl) rfl #[.agg #[.int .i64 a0_0, .int .i64 a0_1]] rfl z8_6 ?_; (with_reducible refine (spec_PointOk.calls a0_0 a0_1 true _ A12.out).mono ?_); rintro e w57 ⟨rfl, hb⟩; refine ⟨_, rfl, ?_⟩; have n0_ := Aside0.mk (blk_belowB BK205 z8_1 hb); have n1_ := Aside0.mk (blk_belowB BK206 z8_2 hb); have n2_ := Aside0.mk (blk_belowB BK207 z8_3 hb); have n3_ := Aside0.mk (blk_belowB BK208 z8_4 hb); have n4_ := Aside0.mk (blk_belowB BK209 z8_5 hb); have n5_ := Aside0.mk (below_step z8_0 hb); clear BK205; clear BK206; clear BK207; clear BK208; clear BK209; clear HB; have BK205 := n0_; have BK206 := n1_; have BK207 := n2_; have BK208 := n3_; have BK209 := n4_; have HB := n5_; clear n0_ n1_ n2_ n3_ n4_ n5_; (try clear hb); have hnb58 := NB206_207.out; have hnc58 := NB207_206.out; have hnb59 := NB206_208.out; have hnc59 := NB208_206.out; have hnb60 := NB206_209.out; have hnc60 := NB209_206.out; obtain ⟨_, _, _, _⟩ := be_2 BK206.out) | (go_at_call 117; (with_reducible refine (spec_PointOk.calls a1_0 a1_1 false _ A14.out).mono ?_); rintro e w62 ⟨rfl, hb⟩; have n0_ := Aside0.mk (blk_belowB BK205 z8_1 hb); have n1_ := Aside0.mk (blk_belowB BK206 z8_2 hb); have n2_ := Aside0.mk (blk_belowB BK207 z8_3 hb); have n3_ := Aside0.mk (blk_belowB BK208 z8_4 hb); have n4_ := Aside0.mk (blk_belowB BK209 z8_5 hb); have n5_ := Aside0.mk (below_step z8_0 hb); clear BK205; clear BK206; clear BK207; clear BK208; clear BK209; clear HB; have BK205 := n0_; have BK206 := n1_; have BK207 := n2_; have BK208 := n3_; have BK209 := n4_; have HB := n5_; clear n0_ n1_ n2_ n3_ n4_ n5_; (try clear hb)))
    go_meet
    case rel => exact ⟨_, (true), (by first | rfl | (simp; done) | (simp [*]; done)), H', ⟨by first | omega | exact Nat.le_refl _⟩, ⟨by (with_reducible repeat (first | refine blk_drewN ?_ _ | refine blk_drew ?_ | refine blk_alloc ?_ _)); exact BK205.out⟩, ⟨by (with_reducible repeat (first | refine blk_drewN ?_ _ | refine blk_drew ?_ | refine blk_alloc ?_ _)); exact BK206.out⟩, ⟨by (with_reducible repeat (first | refine blk_drewN ?_ _ | refine blk_drew ?_ | refine blk_alloc ?_ _)); exact BK207.out⟩, ⟨by (with_reducible repeat (first | refine blk_drewN ?_ _ | refine blk_drew ?_ | refine blk_alloc ?_ _)); exact BK208.out⟩, ⟨by (with_reducible repeat (first | refine blk_drewN ?_ _ | refine blk_drew ?_ | refine blk_alloc ?_ _)); exact BK209.out⟩, ⟨by repeat (first | (with_reducible first | exact HB.out | apply below_alloc | apply pw_below_drewN | apply below_drew1 | refine below_set ?_ GE205.out | refine below_set ?_ GE206.out | refine below_set ?_ GE207.out | refine below_set ?_ GE208.out | refine below_set ?_ GE209.out) | exact HB.out)⟩⟩
  ·replace c13 := Bool.eq_false_iff.mpr c13
   subst c13
   have H1 : (spec_CubicAt.j0 k a4 true a0_0 a0_1 a1_0 a1_1 a2_0 a2_1 a3_0 a3_1) = some (r1, r2) := by rw [if_neg (show ¬ (false = true) by decide)] at H; exact H
   clear H; have H := H1; clear H1
   have H' := Aside0.mk H
   clear H; have hnb63 := NB205_206.out; have hnc63 := NB206_205.out; have hnb64 := NB205_207.out; have hnc64 := NB207_205.out; have hnb65 := NB205_208.out; have hnc65 := NB208_205.out; have hnb66 := NB205_209.out; have hnc66 := NB209_205.out
   obtain ⟨_, _, _, _⟩ := be_2 BK205.out
   go_wp2_with (first | ((with_reducible refine gate_callee (f := 117) rfl ?_); refine goesL_ (some 15) rfl rfl Try.func117 (by kernel_rfl) rfl #[.agg #[.int .i64 a0_0, .int .i64 a0_1]] rfl z8_6 ?_; (with_reducible refine (spec_PointOk.calls a0_0 a0_1 false _ A12.out).mono ?_); rintro e w68 ⟨rfl, hb⟩; refine ⟨_, rfl, ?_⟩; have n0_ := Aside0.mk (blk_belowB BK205 z8_1 hb); have n1_ := Aside0.mk (blk_belowB BK206 z8_2 hb); have n2_ := Aside0.mk (blk_belowB BK207 z8_3 hb); have n3_ := Aside0.mk (blk_belowB BK208 z8_4 hb); have n4_ := Aside0.mk (blk_belowB BK209 z8_5 hb); have n5_ := Aside0.mk (below_step z8_0 hb); clear BK205; clear BK206; clear BK207; clear BK208; clear BK209; clear HB; have BK205 := n0_; have BK206 := n1_; have BK207 := n2_; have BK208 := n3_; have BK209 := n4_; have HB := n5_; clear n0_ n1_ n2_ n3_ n4_ n5_; (try clear hb)))
   go_meet
   case rel => exact ⟨_, (true), (by first | rfl | (simp; done) | (simp [*]; done)), H', ⟨by first | omega | exact Nat.le_refl _⟩, ⟨by (with_reducible repeat (first | refine blk_drewN ?_ _ | refine blk_drew ?_ | refine blk_alloc ?_ _)); exact BK205.out⟩, ⟨by (with_reducible repeat (first | refine blk_drewN ?_ _ | refine blk_drew ?_ | refine blk_alloc ?_ _)); exact BK206.out⟩, ⟨by (with_reducible repeat (first | refine blk_drewN ?_ _ | refine blk_drew ?_ | refine blk_alloc ?_ _)); exact BK207.out⟩, ⟨by (with_reducible repeat (first | refine blk_drewN ?_ _ | refine blk_drew ?_ | refine blk_alloc ?_ _)); exact BK208.out⟩, ⟨by (with_reducible repeat (first | refine blk_drewN ?_ _ | refine blk_drew ?_ | refine blk_alloc ?_ _)); exact BK209.out⟩, ⟨by repeat (first | (with_reducible first | exact HB.out | apply below_alloc | apply pw_below_drewN | apply below_drew1 | refine below_set ?_ GE205.out | refine below_set ?_ GE206.out | refine below_set ?_ GE207.out | refine below_set ?_ GE208.out | refine below_set ?_ GE209.out) | exact HB.out)⟩⟩
 case rest =>
  clear HC6; try clear c1
  try clear c2
  try clear p2
  try clear c3
  try clear c4
  try clear c5
  try clear c6
  try clear c11
  try clear c13
  try clear c15
  try clear c17
  try clear c19
  try clear c20
  try clear c21
  try clear c22
  try clear c25
  try clear c26
  try clear c27
  try clear c30
  try clear c31
  try clear c34
  try clear c37
  try clear c38
  try clear c39
  try clear c40
  try clear c43
  try clear c44
  try clear c45
  try clear c48
  try clear c49
  try clear c52
  try clear c53
  try clear c54
  try clear c55
  try clear c58
  try clear c59
  try clear c60
  try clear c63
  try clear c64
  try clear c65
  try clear c66
  try clear hcz23_0
  try clear hcz23_1
  try clear hcz28_0
  try clear hcz28_1
  try clear hcz32_0
  try clear hcz32_1
  try clear hcz35_0
  try clear hcz35_1
  try clear hcz41_0
  try clear hcz41_1
  try clear hcz46_0
  try clear hcz46_1
  try clear hcz50_0
  try clear hcz50_1
  try clear hcz56_0
  try clear hcz56_1
  try clear hcz61_0
  try clear hcz61_1
  try clear hcz67_0
  try clear hcz67_1
  try clear hfz23_0
  try clear hfz23_1
  try clear hfz28_0
  try clear hfz28_1
  try clear hfz32_0
  try clear hfz32_1
  try clear hfz35_0
  try clear hfz35_1
  try clear hfz41_0
  try clear hfz41_1
  try clear hfz46_0
  try clear hfz46_1
  try clear hfz50_0
  try clear hfz50_1
  try clear hfz56_0
  try clear hfz56_1
  try clear hfz61_0
  try clear hfz61_1
  try clear hfz67_0
  try clear hfz67_1
  obtain ⟨kq, x31_5, rfl, HA, HJ5, BK205, BK206, BK207, BK208, BK209, HB⟩ := hcut
  cases kq with
  | zero => exact absurd HA.out (by simp [spec_CubicAt.j0])
  | succ kj5 =>
   have H := HA.out; clear HA
   simp only [spec_CubicAt.j0] at H
   by_cases c69 : x31_5 = true
   ·subst c69
    have H1 : (some (0, 0)) = some (r1, r2) := by rw [if_pos rfl] at H; exact H
    clear H; have H := H1; clear H1
    simp only [Option.some.injEq, Prod.mk.injEq] at H
    obtain ⟨rfl, rfl⟩ := H
    have hnb70 := NB209_205.out; have hnc70 := NB205_209.out; have hnb71 := NB209_206.out; have hnc71 := NB206_209.out; have hnb72 := NB209_207.out; have hnc72 := NB207_209.out; have hnb73 := NB209_208.out; have hnc73 := NB208_209.out
    obtain ⟨_, _, _, _⟩ := be_2 BK209.out
    go_wp2
    refine bodyPost_ret (results_cell_row rfl _ _ gb209 52 #[.int .i64 0, .int .i64 0] (0, 0) _ rfl z8_12 Try.underlying52 rfl (by kernel_rfl)) rfl ?_
    exact ⟨(by first | rfl | (simp [errW_none, errW_some] <;> rfl) | (simp [*, errW_none, errW_some] <;> rfl)), z8_0⟩
   ·replace c69 := Bool.eq_false_iff.mpr c69
    subst c69
    have H1 : ((spec_Clamp.f a4 0 8).bind fun t214 => ((spec_RoundDiv.f (wrap64 ((wrap64 ((wrap64 ((wrap64 ((wrap64 ((wrap64 ((wrap64 (8 - t214)) * (wrap64 (8 - t214)))) * (wrap64 (8 - t214)))) * a0_0)) + (wrap64 ((wrap64 ((wrap64 ((wrap64 (3 * t214)) * (wrap64 (8 - t214)))) * (wrap64 (8 - t214)))) * a1_0)))) + (wrap64 ((wrap64 ((wrap64 ((wrap64 (3 * t214)) * t214)) * (wrap64 (8 - t214)))) * a2_0)))) + (wrap64 ((wrap64 ((wrap64 (t214 * t214)) * t214)) * a3_0)))) 512).bind fun t215 => ((spec_RoundDiv.f (wrap64 ((wrap64 ((wrap64 ((wrap64 ((wrap64 ((wrap64 ((wrap64 (8 - t214)) * (wrap64 (8 - t214)))) * (wrap64 (8 - t214)))) * a0_1)) + (wrap64 ((wrap64 ((wrap64 ((wrap64 (3 * t214)) * (wrap64 (8 - t214)))) * (wrap64 (8 - t214)))) * a1_1)))) + (wrap64 ((wrap64 ((wrap64 ((wrap64 (3 * t214)) * t214)) * (wrap64 (8 - t214)))) * a2_1)))) + (wrap64 ((wrap64 ((wrap64 (t214 * t214)) * t214)) * a3_1)))) 512).bind fun t216 => (some (t215, t216))))) = some (r1, r2) := by rw [if_neg (show ¬ (false = true) by decide)] at H; exact H
    clear H; have H := H1; clear H1
    replace H := Option.bind_eq_some_iff.mp H
    obtain ⟨t214, A750, H⟩ := H
    try dsimp only at H
    have A75 := Aside0.mk A750
    clear A750
    replace H := Option.bind_eq_some_iff.mp H
    obtain ⟨t215, A760, H⟩ := H
    try dsimp only at H
    have A76 := Aside0.mk A760
    clear A760
    replace H := Option.bind_eq_some_iff.mp H
    obtain ⟨t216, A770, H⟩ := H
    try dsimp only at H
    have A77 := Aside0.mk A770
    clear A770
    simp only [Option.some.injEq, Prod.mk.injEq] at H
    obtain ⟨rfl, rfl⟩ := H
    go_wp2_with (first | ((with_reducible refine gate_callee (f := 118) rfl ?_); refine goesL_ (some 34) rfl rfl Try.func118 (by kernel_rfl) rfl #[.int .i64 a4, .int .i64 0, .int .i64 8] rfl z8_6 ?_; (with_reducible refine (spec_Clamp.calls a4 0 8 t214 _ A75.out).mono ?_); rintro e w' ⟨rfl, ⟨nd, rfl⟩⟩; refine ⟨_, rfl, ?_⟩; (try (rw [drewN_self wc]; generalize hq_ : World.drewN wc _ = wc; have n0_ : Aside0 (wc.heap[gb205]? = some (.cells #[.int .i64 a0_0, .int .i64 a0_1] 52 (0, 0))) := ⟨by rw [← hq_]; exact z8_1⟩; have n1_ : Aside0 (wc.heap[gb206]? = some (.cells #[.int .i64 a1_0, .int .i64 a1_1] 52 (0, 0))) := ⟨by rw [← hq_]; exact z8_2⟩; have n2_ : Aside0 (wc.heap[gb207]? = some (.cells #[.int .i64 a2_0, .int .i64 a2_1] 52 (0, 0))) := ⟨by rw [← hq_]; exact z8_3⟩; have n3_ : Aside0 (wc.heap[gb208]? = some (.cells #[.int .i64 a3_0, .int .i64 a3_1] 52 (0, 0))) := ⟨by rw [← hq_]; exact z8_4⟩; have n4_ : Aside0 (wc.heap[gb209]? = some (.cells #[.int .i64 0, .int .i64 0] 52 (0, 0))) := ⟨by rw [← hq_]; exact z8_5⟩; have n5_ : Aside0 (Below w.heap.size w wc) := ⟨by rw [← hq_]; exact z8_0⟩; clear BK205 BK206 BK207 BK208 BK209 HB hq_; have BK205 := n0_; have BK206 := n1_; have BK207 := n2_; have BK208 := n3_; have BK209 := n4_; have HB := n5_; clear n0_ n1_ n2_ n3_ n4_ n5_)); (try have hcy82_0 : wc.cell? ⟨gb205, 0, none⟩ = some (.int .i64 a0_0) := (blk_cell BK205.out 0).trans rfl); (try have hcy82_1 : wc.cell? ⟨gb205, 1, none⟩ = some (.int .i64 a0_1) := (blk_cell BK205.out 1).trans rfl); (try have hcy86_0 : wc.cell? ⟨gb206, 0, none⟩ = some (.int .i64 a1_0) := (blk_cell BK206.out 0).trans rfl); (try have hcy86_1 : wc.cell? ⟨gb206, 1, none⟩ = some (.int .i64 a1_1) := (blk_cell BK206.out 1).trans rfl); (try have hcy89_0 : wc.cell? ⟨gb207, 0, none⟩ = some (.int .i64 a2_0) := (blk_cell BK207.out 0).trans rfl); (try have hcy89_1 : wc.cell? ⟨gb207, 1, none⟩ = some (.int .i64 a2_1) := (blk_cell BK207.out 1).trans rfl); (try have hcy91_0 : wc.cell? ⟨gb208, 0, none⟩ = some (.int .i64 a3_0) := (blk_cell BK208.out 0).trans rfl); (try have hcy91_1 : wc.cell? ⟨gb208, 1, none⟩ = some (.int .i64 a3_1) := (blk_cell BK208.out 1).trans rfl); (try have hcy92_0 : wc.cell? ⟨gb209, 0, none⟩ = some (.int .i64 0) := (blk_cell BK209.out 0).trans rfl); (try have hcy92_1 : wc.cell? ⟨gb209, 1, none⟩ = some (.int .i64 0) := (blk_cell BK209.out 1).trans rfl); have hnb78 := NB205_206.out; have hnc78 := NB206_205.out; have hnb79 := NB205_207.out; have hnc79 := NB207_205.out; have hnb80 := NB205_208.out; have hnc80 := NB208_205.out; have hnb81 := NB205_209.out; have hnc81 := NB209_205.out; obtain ⟨_, _, _, _⟩ := be_2 BK205.out; have hnb83 := NB206_207.out; have hnc83 := NB207_206.out; have hnb84 := NB206_208.out; have hnc84 := NB208_206.out; have hnb85 := NB206_209.out; have hnc85 := NB209_206.out; obtain ⟨_, _, _, _⟩ := be_2 BK206.out; have hnb87 := NB207_208.out; have hnc87 := NB208_207.out; have hnb88 := NB207_209.out; have hnc88 := NB209_207.out; obtain ⟨_, _, _, _⟩ := be_2 BK207.out; have hnb90 := NB208_209.out; have hnc90 := NB209_208.out; obtain ⟨_, _, _, _⟩ := be_2 BK208.out) | ((with_reducible refine gate_callee (f := 119) rfl ?_); refine goesL_ (some 112) rfl rfl Try.func119 (by kernel_rfl) rfl #[.int .i64 (wrap64 ((wrap64 ((wrap64 ((wrap64 ((wrap64 ((wrap64 ((wrap64 (8 - t214)) * (wrap64 (8 - t214)))) * (wrap64 (8 - t214)))) * a0_0)) + (wrap64 ((wrap64 ((wrap64 ((wrap64 (3 * t214)) * (wrap64 (8 - t214)))) * (wrap64 (8 - t214)))) * a1_0)))) + (wrap64 ((wrap64 ((wrap64 ((wrap64 (3 * t214)) * t214)) * (wrap64 (8 - t214)))) * a2_0)))) + (wrap64 ((wrap64 ((wrap64 (t214 * t214)) * t214)) * a3_0)))), .int .i64 512] rfl z8_6 ?_; (with_reducible refine (spec_RoundDiv.calls (wrap64 ((wrap64 ((wrap64 ((wrap64 ((wrap64 ((wrap64 ((wrap64 (8 - t214)) * (wrap64 (8 - t214)))) * (wrap64 (8 - t214)))) * a0_0)) + (wrap64 ((wrap64 ((wrap64 ((wrap64 (3 * t214)) * (wrap64 (8 - t214)))) * (wrap64 (8 - t214)))) * a1_0)))) + (wrap64 ((wrap64 ((wrap64 ((wrap64 (3 * t214)) * t214)) * (wrap64 (8 - t214)))) * a2_0)))) + (wrap64 ((wrap64 ((wrap64 (t214 * t214)) * t214)) * a3_0)))) 512 t215 _ A76.out).mono ?_); rintro e w' ⟨rfl, ⟨nd, rfl⟩⟩; refine ⟨_, rfl, ?_⟩; (try (rw [drewN_self wc]; generalize hq_ : World.drewN wc _ = wc; have n0_ : Aside0 (wc.heap[gb205]? = some (.cells #[.int .i64 a0_0, .int .i64 a0_1] 52 (0, 0))) := ⟨by rw [← hq_]; exact z8_1⟩; have n1_ : Aside0 (wc.heap[gb206]? = some (.cells #[.int .i64 a1_0, .int .i64 a1_1] 52 (0, 0))) := ⟨by rw [← hq_]; exact z8_2⟩; have n2_ : Aside0 (wc.heap[gb207]? = some (.cells #[.int .i64 a2_0, .int .i64 a2_1] 52 (0, 0))) := ⟨by rw [← hq_]; exact z8_3⟩; have n3_ : Aside0 (wc.heap[gb208]? = some (.cells #[.int .i64 a3_0, .int .i64 a3_1] 52 (0, 0))) := ⟨by rw [← hq_]; exact z8_4⟩; have n4_ : Aside0 (wc.heap[gb209]? = some (.cells #[.int .i64 0, .int .i64 0] 52 (0, 0))) := ⟨by rw [← hq_]; exact z8_5⟩; have n5_ : Aside0 (Below w.heap.size w wc) := ⟨by rw [← hq_]; exact z8_0⟩; clear BK205 BK206 BK207 BK208 BK209 HB hq_; have BK205 := n0_; have BK206 := n1_; have BK207 := n2_; have BK208 := n3_; have BK209 := n4_; have HB := n5_; clear n0_ n1_ n2_ n3_ n4_ n5_)); (try have hcy82_0 : wc.cell? ⟨gb205, 0, none⟩ = some (.int .i64 a0_0) := (blk_cell BK205.out 0).trans rfl); (try have hcy82_1 : wc.cell? ⟨gb205, 1, none⟩ = some (.int .i64 a0_1) := (blk_cell BK205.out 1).trans rfl); (try have hcy86_0 : wc.cell? ⟨gb206, 0, none⟩ = some (.int .i64 a1_0) := (blk_cell BK206.out 0).trans rfl); (try have hcy86_1 : wc.cell? ⟨gb206, 1, none⟩ = some (.int .i64 a1_1) := (blk_cell BK206.out 1).trans rfl); (try have hcy89_0 : wc.cell? ⟨gb207, 0, none⟩ = some (.int .i64 a2_0) := (blk_cell BK207.out 0).trans rfl); (try have hcy89_1 : wc.cell? ⟨gb207, 1, none⟩ = some (.int .i64 a2_1) := (blk_cell BK207.out 1).trans rfl); (try have hcy91_0 : wc.cell? ⟨gb208, 0, none⟩ = some (.int .i64 a3_0) := (blk_cell BK208.out 0).trans rfl); (try have hcy91_1 : wc.cell? ⟨gb208, 1, none⟩ = some (.int .i64 a3_1) := (blk_cell BK208.out 1).trans rfl); (try have hcy92_0 : wc.cell? ⟨gb209, 0, none⟩ = some (.int .i64 0) := (blk_cell BK209.out 0).trans rfl); (try have hcy92_1 : wc.cell? ⟨gb209, 1, none⟩ = some (.int .i64 0) := (blk_cell BK209.out 1).trans rfl)) | ((with_reducible refine gate_callee (f := 119) rfl ?_); refine goesL_ (some 114) rfl rfl Try.func119 (by kernel_rfl) rfl #[.int .i64 (wrap64 ((wrap64 ((wrap64 ((wrap64 ((wrap64 ((wrap64 ((wrap64 (8 - t214)) * (wrap64 (8 - t214)))) * (wrap64 (8 - t214)))) * a0_1)) + (wrap64 ((wrap64 ((wrap64 ((wrap64 (3 * t214)) * (wrap64 (8 - t214)))) * (wrap64 (8 - t214)))) * a1_1)))) + (wrap64 ((wrap64 ((wrap64 ((wrap64 (3 * t214)) * t214)) * (wrap64 (8 - t214)))) * a2_1)))) + (wrap64 ((wrap64 ((wrap64 (t214 * t214)) * t214)) * a3_1)))), .int .i64 512] rfl z8_6 ?_; (with_reducible refine (spec_RoundDiv.calls (wrap64 ((wrap64 ((wrap64 ((wrap64 ((wrap64 ((wrap64 ((wrap64 (8 - t214)) * (wrap64 (8 - t214)))) * (wrap64 (8 - t214)))) * a0_1)) + (wrap64 ((wrap64 ((wrap64 ((wrap64 (3 * t214)) * (wrap64 (8 - t214)))) * (wrap64 (8 - t214)))) * a1_1)))) + (wrap64 ((wrap64 ((wrap64 ((wrap64 (3 * t214)) * t214)) * (wrap64 (8 - t214)))) * a2_1)))) + (wrap64 ((wrap64 ((wrap64 (t214 * t214)) * t214)) * a3_1)))) 512 t216 _ A77.out).mono ?_); rintro e w' ⟨rfl, ⟨nd, rfl⟩⟩; refine ⟨_, rfl, ?_⟩; (try (rw [drewN_self wc]; generalize hq_ : World.drewN wc _ = wc; have n0_ : Aside0 (wc.heap[gb205]? = some (.cells #[.int .i64 a0_0, .int .i64 a0_1] 52 (0, 0))) := ⟨by rw [← hq_]; exact z8_1⟩; have n1_ : Aside0 (wc.heap[gb206]? = some (.cells #[.int .i64 a1_0, .int .i64 a1_1] 52 (0, 0))) := ⟨by rw [← hq_]; exact z8_2⟩; have n2_ : Aside0 (wc.heap[gb207]? = some (.cells #[.int .i64 a2_0, .int .i64 a2_1] 52 (0, 0))) := ⟨by rw [← hq_]; exact z8_3⟩; have n3_ : Aside0 (wc.heap[gb208]? = some (.cells #[.int .i64 a3_0, .int .i64 a3_1] 52 (0, 0))) := ⟨by rw [← hq_]; exact z8_4⟩; have n4_ : Aside0 (wc.heap[gb209]? = some (.cells #[.int .i64 0, .int .i64 0] 52 (0, 0))) := ⟨by rw [← hq_]; exact z8_5⟩; have n5_ : Aside0 (Below w.heap.size w wc) := ⟨by rw [← hq_]; exact z8_0⟩; clear BK205 BK206 BK207 BK208 BK209 HB hq_; have BK205 := n0_; have BK206 := n1_; have BK207 := n2_; have BK208 := n3_; have BK209 := n4_; have HB := n5_; clear n0_ n1_ n2_ n3_ n4_ n5_)); (try have hcy82_0 : wc.cell? ⟨gb205, 0, none⟩ = some (.int .i64 a0_0) := (blk_cell BK205.out 0).trans rfl); (try have hcy82_1 : wc.cell? ⟨gb205, 1, none⟩ = some (.int .i64 a0_1) := (blk_cell BK205.out 1).trans rfl); (try have hcy86_0 : wc.cell? ⟨gb206, 0, none⟩ = some (.int .i64 a1_0) := (blk_cell BK206.out 0).trans rfl); (try have hcy86_1 : wc.cell? ⟨gb206, 1, none⟩ = some (.int .i64 a1_1) := (blk_cell BK206.out 1).trans rfl); (try have hcy89_0 : wc.cell? ⟨gb207, 0, none⟩ = some (.int .i64 a2_0) := (blk_cell BK207.out 0).trans rfl); (try have hcy89_1 : wc.cell? ⟨gb207, 1, none⟩ = some (.int .i64 a2_1) := (blk_cell BK207.out 1).trans rfl); (try have hcy91_0 : wc.cell? ⟨gb208, 0, none⟩ = some (.int .i64 a3_0) := (blk_cell BK208.out 0).trans rfl); (try have hcy91_1 : wc.cell? ⟨gb208, 1, none⟩ = some (.int .i64 a3_1) := (blk_cell BK208.out 1).trans rfl); (try have hcy92_0 : wc.cell? ⟨gb209, 0, none⟩ = some (.int .i64 0) := (blk_cell BK209.out 0).trans rfl); (try have hcy92_1 : wc.cell? ⟨gb209, 1, none⟩ = some (.int .i64 0) := (blk_cell BK209.out 1).trans rfl); obtain ⟨_, _, _, _⟩ := be_2 BK209.out))
    refine bodyPost_ret (results_cell_row rfl _ _ gb209 52 #[.int .i64 t215, .int .i64 t216] (0, 0) _ rfl z8_12 Try.underlying52 rfl (by kernel_rfl)) rfl ?_
    exact ⟨(by first | rfl | (simp [errW_none, errW_some] <;> rfl) | (simp [*, errW_none, errW_some] <;> rfl)), z8_0⟩

end Go.Proofs.Ytghbenapnhcllaa.MFnMaskOf
