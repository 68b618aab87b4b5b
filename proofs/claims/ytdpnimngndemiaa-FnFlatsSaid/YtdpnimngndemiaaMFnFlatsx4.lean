/- Functions of the program as Lean functions, and the proof that a call comes to just these: machine text of this session's own program (myprint.py). -/
import Derived.Test.YtdpnimngndemiaaMFnFlatsx0
import Derived.Test.YtdpnimngndemiaaMFnFlatsx2
namespace Go.Proofs.Ytdpnimngndemiaa.MFnFlats
open Go.RowKit Go.Proofs.YtdpnimngndemiaaW.PrintWords Go.Proofs.YtdpnimngndemiaaW.PrintLast Go.Proofs.YtdpnimngndemiaaW.PrintMore
attribute [local go_sem] max2_int min2_int max_two min_two max_three min_three max_four min_four   -- for this text's walks alone
set_option linter.unusedVariables false
set_option linter.unusedSimpArgs false

theorem z4_0 {P : Prop} (h : P := by repeat (first | (with_reducible first | exact HB.out | apply below_alloc | apply pw_below_drewN | apply below_drew1 | refine below_set ?_ GE128.out | refine below_set ?_ GE129.out | refine below_set ?_ GE130.out | refine below_set ?_ GE131.out | refine below_set ?_ GE132.out) | exact HB.out)) : P := h
theorem z4_1 {P : Prop} (h : P := by (try simp only [List.map_toArray, List.map_cons, List.map_nil]); first | done | rfl | (simp only [List.length_drop, List.length_take]; rfl)) : P := h
theorem z4_2 {P : Prop} (h : P := by repeat (first | (with_reducible first | exact HB.out | apply below_alloc | apply pw_below_drewN | apply below_drew1 | refine below_set ?_ GE128.out | refine below_set ?_ GE129.out | refine below_set ?_ GE130.out | refine below_set ?_ GE131.out) | exact HB.out)) : P := h
theorem z4_3 {P : Prop} (h : P := by repeat (first | (with_reducible first | exact HB.out | apply below_alloc | apply pw_below_drewN | apply below_drew1 | refine below_set ?_ GE128.out | refine below_set ?_ GE129.out | refine below_set ?_ GE130.out) | exact HB.out)) : P := h
theorem z4_4 {P : Prop} (h : P := by repeat (first | (with_reducible first | exact HB.out | apply below_alloc | apply pw_below_drewN | apply below_drew1 | refine below_set ?_ GE128.out | refine below_set ?_ GE129.out) | exact HB.out)) : P := h
theorem z4_5 {P : Prop} (h : P := by repeat (first | (with_reducible first | exact HB.out | apply below_alloc | apply pw_below_drewN | apply below_drew1 | refine below_set ?_ GE128.out) | exact HB.out)) : P := h
theorem z4_6 {P : Prop} (h : P := by repeat (first | (with_reducible first | exact HB.out | apply below_alloc | apply pw_below_drewN | apply below_drew1) | exact HB.out)) : P := h
theorem z4_7 {P : Prop} (h : P := by apply blk_fin; (focus ((with_reducible repeat (first | apply blk_putQ | refine blk_drewN ?_ _ | refine blk_drew ?_ | refine blk_alloc ?_ _)); exact BK132.out)); first | (simp only [List.setIfInBounds_toArray, List.set_cons_zero, List.set_cons_succ]; done) | rfl) : P := h
/-! ### spec_CubicAt: function 23 -/
def spec_CubicAt.j0 : Nat → Int → Bool → Int → Int → Int → Int → Int → Int → Int → Int → Option (Int × Int)
 | 0, _, _, _, _, _, _, _, _, _, _ => none
 | k + 1, x4, x31, x129000, x129001, x130000, x130001, x131000, x131001, x132000, x132001 => if x31 = true then (some (0, 0)) else ((spec_Clamp.f x4 0 8).bind fun t137 => ((spec_RoundDiv.f (wrap64 ((wrap64 ((wrap64 ((wrap64 ((wrap64 ((wrap64 ((wrap64 (8 - t137)) * (wrap64 (8 - t137)))) * (wrap64 (8 - t137)))) * x129000)) + (wrap64 ((wrap64 ((wrap64 ((wrap64 (3 * t137)) * (wrap64 (8 - t137)))) * (wrap64 (8 - t137)))) * x130000)))) + (wrap64 ((wrap64 ((wrap64 ((wrap64 (3 * t137)) * t137)) * (wrap64 (8 - t137)))) * x131000)))) + (wrap64 ((wrap64 ((wrap64 (t137 * t137)) * t137)) * x132000)))) 512).bind fun t138 => ((spec_RoundDiv.f (wrap64 ((wrap64 ((wrap64 ((wrap64 ((wrap64 ((wrap64 ((wrap64 (8 - t137)) * (wrap64 (8 - t137)))) * (wrap64 (8 - t137)))) * x129001)) + (wrap64 ((wrap64 ((wrap64 ((wrap64 (3 * t137)) * (wrap64 (8 - t137)))) * (wrap64 (8 - t137)))) * x130001)))) + (wrap64 ((wrap64 ((wrap64 ((wrap64 (3 * t137)) * t137)) * (wrap64 (8 - t137)))) * x131001)))) + (wrap64 ((wrap64 ((wrap64 (t137 * t137)) * t137)) * x132001)))) 512).bind fun t139 => (some (t138, t139)))))
def spec_CubicAt.f (k : Nat) (a0_0 : Int) (a0_1 : Int) (a1_0 : Int) (a1_1 : Int) (a2_0 : Int) (a2_1 : Int) (a3_0 : Int) (a3_1 : Int) (a4 : Int) : Option (Int × Int) := (spec_PointOk.f a0_0 a0_1).bind fun t133 => (if t133 = true then ((spec_PointOk.f a1_0 a1_1).bind fun t134 => (if t134 = true then ((spec_PointOk.f a2_0 a2_1).bind fun t135 => (if t135 = true then ((spec_PointOk.f a3_0 a3_1).bind fun t136 => (spec_CubicAt.j0 k a4 (!t136) a0_0 a0_1 a1_0 a1_1 a2_0 a2_1 a3_0 a3_1)) else (spec_CubicAt.j0 k a4 true a0_0 a0_1 a1_0 a1_1 a2_0 a2_1 a3_0 a3_1))) else (spec_CubicAt.j0 k a4 true a0_0 a0_1 a1_0 a1_1 a2_0 a2_1 a3_0 a3_1))) else (spec_CubicAt.j0 k a4 true a0_0 a0_1 a1_0 a1_1 a2_0 a2_1 a3_0 a3_1))
theorem spec_CubicAt.mono_l : ∀ k, (∀ y0 y1 y2 y3 y4 y5 y6 y7 y8 y9, LeO (spec_CubicAt.j0 k y0 y1 y2 y3 y4 y5 y6 y7 y8 y9) (spec_CubicAt.j0 (k + 1) y0 y1 y2 y3 y4 y5 y6 y7 y8 y9))
 | 0 => fun _ _ _ _ _ _ _ _ _ _ r h => by simp [spec_CubicAt.j0] at h
 | k + 1 => by
  have ih0 := spec_CubicAt.mono_l k
  ·intro y0 y1 y2 y3 y4 y5 y6 y7 y8 y9
   unfold spec_CubicAt.j0
   repeat' first
   | (with_reducible exact ih0 _ _ _ _ _ _ _ _ _ _)
   | (with_reducible exact LeO.refl _)
   | (with_reducible exact LeO.none _)
   | (with_reducible refine LeO.ite ?_ ?_)
   | (with_reducible refine LeO.bind ?_ (fun _ => ?_))
theorem spec_CubicAt.mono : ∀ a0 a1 a2 a3 a4 a5 a6 a7 a8 k, LeO (spec_CubicAt.f k a0 a1 a2 a3 a4 a5 a6 a7 a8) (spec_CubicAt.f (k + 1) a0 a1 a2 a3 a4 a5 a6 a7 a8) := by
 intro a0 a1 a2 a3 a4 a5 a6 a7 a8 k
 have ih0 := spec_CubicAt.mono_l k
 unfold spec_CubicAt.f
 repeat' first
   | (with_reducible exact ih0 _ _ _ _ _ _ _ _ _ _)
   | (with_reducible exact LeO.refl _)
   | (with_reducible exact LeO.none _)
   | (with_reducible refine LeO.ite ?_ ?_)
   | (with_reducible refine LeO.bind ?_ (fun _ => ?_))
set_option maxHeartbeats 8000000 in
set_option maxRecDepth 100000 in
theorem spec_CubicAt.calls (k : Nat) (a0_0 : Int) (a0_1 : Int) (a1_0 : Int) (a1_1 : Int) (a2_0 : Int) (a2_1 : Int) (a3_0 : Int) (a3_1 : Int) (a4 : Int) (r1 : Int) (r2 : Int) (w : World) (h : spec_CubicAt.f k a0_0 a0_1 a1_0 a1_1 a2_0 a2_1 a3_0 a3_1 a4 = some (r1, r2)) :
  Calls Try.prog 23 #[.agg #[.int .i64 a0_0, .int .i64 a0_1], .agg #[.int .i64 a1_0, .int .i64 a1_1], .agg #[.int .i64 a2_0, .int .i64 a2_1], .agg #[.int .i64 a3_0, .int .i64 a3_1], .int .i64 a4] w fun e w' => e = .returned (.agg #[.int .i64 r1, .int .i64 r2]) ∧ Below w.heap.size w w' := by
 have hu46 := Try.underlying46
 have HB := mk0 (Below.refl w.heap.size w)
 have H : ((spec_PointOk.f a0_0 a0_1).bind fun t133 => (if t133 = true then ((spec_PointOk.f a1_0 a1_1).bind fun t134 => (if t134 = true then ((spec_PointOk.f a2_0 a2_1).bind fun t135 => (if t135 = true then ((spec_PointOk.f a3_0 a3_1).bind fun t136 => (spec_CubicAt.j0 k a4 (!t136) a0_0 a0_1 a1_0 a1_1 a2_0 a2_1 a3_0 a3_1)) else (spec_CubicAt.j0 k a4 true a0_0 a0_1 a1_0 a1_1 a2_0 a2_1 a3_0 a3_1))) else (spec_CubicAt.j0 k a4 true a0_0 a0_1 a1_0 a1_1 a2_0 a2_1 a3_0 a3_1))) else (spec_CubicAt.j0 k a4 true a0_0 a0_1 a1_0 a1_1 a2_0 a2_1 a3_0 a3_1))) = some (r1, r2) := h
 clear h
 have HC6 := mk0 H
 clear H
 go_enter Try.func23, Try.ntmps23
 go_upto_region 1 with (first | ((with_reducible refine gate_dst (N := 5) rfl ?_); refine boxz (cs := #[.int .i64 a0_0, .int .i64 a0_1]) (t := 46) rfl ?_; intro gb128 hg w7 hbox hb; have n0_ := mk0 (below_step z4_6 hb); have n1_ := mk0 (hbox); have GW128 := mk0 (ge_go (a := w.heap.size) hg (below_size z4_6)); have GE128 := GW128; clear HB; have HB := n0_; have BK128 := n1_; clear n0_ n1_ ; clear hb hbox hg) | ((with_reducible refine gate_dst (N := 6) rfl ?_); refine boxz (cs := #[.int .i64 a1_0, .int .i64 a1_1]) (t := 46) rfl ?_; intro gb129 hg w8 hbox hb; have n0_ := mk0 (blk_belowB BK128 (pkb BK128) hb); have n1_ := mk0 (below_step z4_5 hb); have n2_ := mk0 (hbox); have GW129 := mk0 (ge_go (a := w.heap.size) hg (below_size z4_5)); have GE129 := GW129; have NB128_129 := mk0 (nb_lt hg (blk_ltB BK128 (pkb BK128))); have NB129_128 := mk0 (nb_gt hg (blk_ltB BK128 (pkb BK128))); clear BK128 HB; have BK128 := n0_; have HB := n1_; have BK129 := n2_; clear n0_ n1_ n2_ ; clear hb hbox hg) | ((with_reducible refine gate_dst (N := 7) rfl ?_); refine boxz (cs := #[.int .i64 a2_0, .int .i64 a2_1]) (t := 46) rfl ?_; intro gb130 hg w9 hbox hb; have n0_ := mk0 (blk_belowB BK128 (pkb BK128) hb); have n1_ := mk0 (blk_belowB BK129 (pkb BK129) hb); have n2_ := mk0 (below_step z4_4 hb); have n3_ := mk0 (hbox); have GW130 := mk0 (ge_go (a := w.heap.size) hg (below_size z4_4)); have GE130 := GW130; have NB128_130 := mk0 (nb_lt hg (blk_ltB BK128 (pkb BK128))); have NB130_128 := mk0 (nb_gt hg (blk_ltB BK128 (pkb BK128))); have NB129_130 := mk0 (nb_lt hg (blk_ltB BK129 (pkb BK129))); have NB130_129 := mk0 (nb_gt hg (blk_ltB BK129 (pkb BK129))); clear BK128 BK129 HB; have BK128 := n0_; have BK129 := n1_; have HB := n2_; have BK130 := n3_; clear n0_ n1_ n2_ n3_ ; clear hb hbox hg) | ((with_reducible refine gate_dst (N := 8) rfl ?_); refine boxz (cs := #[.int .i64 a3_0, .int .i64 a3_1]) (t := 46) rfl ?_; intro gb131 hg w10 hbox hb; have n0_ := mk0 (blk_belowB BK128 (pkb BK128) hb); have n1_ := mk0 (blk_belowB BK129 (pkb BK129) hb); have n2_ := mk0 (blk_belowB BK130 (pkb BK130) hb); have n3_ := mk0 (below_step z4_3 hb); have n4_ := mk0 (hbox); have GW131 := mk0 (ge_go (a := w.heap.size) hg (below_size z4_3)); have GE131 := GW131; have NB128_131 := mk0 (nb_lt hg (blk_ltB BK128 (pkb BK128))); have NB131_128 := mk0 (nb_gt hg (blk_ltB BK128 (pkb BK128))); have NB129_131 := mk0 (nb_lt hg (blk_ltB BK129 (pkb BK129))); have NB131_129 := mk0 (nb_gt hg (blk_ltB BK129 (pkb BK129))); have NB130_131 := mk0 (nb_lt hg (blk_ltB BK130 (pkb BK130))); have NB131_130 := mk0 (nb_gt hg (blk_ltB BK130 (pkb BK130))); clear BK128 BK129 BK130 HB; have BK128 := n0_; have BK129 := n1_; have BK130 := n2_; have HB := n3_; have BK131 := n4_; clear n0_ n1_ n2_ n3_ n4_ ; clear hb hbox hg) | ((with_reducible refine gate_dst (N := 10) rfl ?_); refine boxz (cs := #[.int .i64 0, .int .i64 0]) (t := 46) rfl ?_; intro gb132 hg w11 hbox hb; have n0_ := mk0 (blk_belowB BK128 (pkb BK128) hb); have n1_ := mk0 (blk_belowB BK129 (pkb BK129) hb); have n2_ := mk0 (blk_belowB BK130 (pkb BK130) hb); have n3_ := mk0 (blk_belowB BK131 (pkb BK131) hb); have n4_ := mk0 (below_step z4_2 hb); have n5_ := mk0 (hbox); have GW132 := mk0 (ge_go (a := w.heap.size) hg (below_size z4_2)); have GE132 := GW132; have NB128_132 := mk0 (nb_lt hg (blk_ltB BK128 (pkb BK128))); have NB132_128 := mk0 (nb_gt hg (blk_ltB BK128 (pkb BK128))); have NB129_132 := mk0 (nb_lt hg (blk_ltB BK129 (pkb BK129))); have NB132_129 := mk0 (nb_gt hg (blk_ltB BK129 (pkb BK129))); have NB130_132 := mk0 (nb_lt hg (blk_ltB BK130 (pkb BK130))); have NB132_130 := mk0 (nb_gt hg (blk_ltB BK130 (pkb BK130))); have NB131_132 := mk0 (nb_lt hg (blk_ltB BK131 (pkb BK131))); have NB132_131 := mk0 (nb_gt hg (blk_ltB BK131 (pkb BK131))); clear BK128 BK129 BK130 BK131 HB; have BK128 := n0_; have BK129 := n1_; have BK130 := n2_; have BK131 := n3_; have HB := n4_; have BK132 := n5_; clear n0_ n1_ n2_ n3_ n4_ n5_ ; clear hb hbox hg))
 (try simp only [Act.put, List.setIfInBounds_toArray, List.set_cons_zero, List.set_cons_succ])
 go_cut [31] (fun v31 wc => ∃ (kq : Nat) (x31_5 : Bool), v31 = .bool x31_5 ∧ Aside0 (spec_CubicAt.j0 kq a4 x31_5 a0_0 a0_1 a1_0 a1_1 a2_0 a2_1 a3_0 a3_1 = some (r1, r2)) ∧ Aside0 (kq ≤ k) ∧ Aside0 (wc.heap[gb128]? = some (.cells #[.int .i64 a0_0, .int .i64 a0_1] 46 (0, 0))) ∧ Aside0 (wc.heap[gb129]? = some (.cells #[.int .i64 a1_0, .int .i64 a1_1] 46 (0, 0))) ∧ Aside0 (wc.heap[gb130]? = some (.cells #[.int .i64 a2_0, .int .i64 a2_1] 46 (0, 0))) ∧ Aside0 (wc.heap[gb131]? = some (.cells #[.int .i64 a3_0, .int .i64 a3_1] 46 (0, 0))) ∧ Aside0 (wc.heap[gb132]? = some (.cells #[.int .i64 0, .int .i64 0] 46 (0, 0))) ∧ Aside0 (Below w.heap.size w wc))
 case first =>
  have H := HC6.out; clear HC6
  replace H := Option.bind_eq_some_iff.mp H
  obtain ⟨t133, A120, H⟩ := H
  try dsimp only at H
  have A12 := mk0 A120
  clear A120
  by_cases c13 : t133 = true
  rotate_left
  ·replace c13 := Bool.eq_false_iff.mpr c13
   subst c13
   rw [if_neg (show ¬ (false = true) by decide)] at H
   have H' := mk0 H
   clear H; have hnb63 := NB128_129.out; have hnc63 := NB129_128.out; have hnb64 := NB128_130.out; have hnc64 := NB130_128.out; have hnb65 := NB128_131.out; have hnc65 := NB131_128.out; have hnb66 := NB128_132.out; have hnc66 := NB132_128.out
   obtain ⟨_, _, _, _⟩ := be_2 BK128.out
   go_wp2_with (first | ((with_reducible refine gate_callee (f := 39) rfl ?_); refine goesL_ (some 15) rfl rfl Try.func39 (by kernel_rfl) rfl #[.agg #[.int .i64 a0_0, .int .i64 a0_1]] rfl z4_1 ?_; (with_reducible refine (spec_PointOk.calls a0_0 a0_1 false _ A12.out).mono ?_); rintro e w68 ⟨rfl, hb⟩; refine ⟨_, rfl, ?_⟩; have n0_ := mk0 (blk_belowB BK128 (pkb BK128) hb); have n1_ := mk0 (blk_belowB BK129 (pkb BK129) hb); have n2_ := mk0 (blk_belowB BK130 (pkb BK130) hb); have n3_ := mk0 (blk_belowB BK131 (pkb BK131) hb); have n4_ := mk0 (blk_belowB BK132 (pkb BK132) hb); have n5_ := mk0 (below_step z4_0 hb); clear BK128 BK129 BK130 BK131 BK132 HB; have BK128 := n0_; have BK129 := n1_; have BK130 := n2_; have BK131 := n3_; have BK132 := n4_; have HB := n5_; clear n0_ n1_ n2_ n3_ n4_ n5_; (try clear hb)))
   go_meet
   case rel => exact ⟨_, (true), rs0, H', ⟨(by first | omega | exact Nat.le_refl _)⟩, ⟨pkb BK128⟩, ⟨pkb BK129⟩, ⟨pkb BK130⟩, ⟨pkb BK131⟩, ⟨pkb BK132⟩, ⟨z4_0⟩⟩
  subst c13
  rw [if_pos rfl] at H
  replace H := Option.bind_eq_some_iff.mp H
  obtain ⟨t134, A140, H⟩ := H
  try dsimp only at H
  have A14 := mk0 A140
  clear A140
  by_cases c15 : t134 = true
  rotate_left
  ·replace c15 := Bool.eq_false_iff.mpr c15
   subst c15
   rw [if_neg (show ¬ (false = true) by decide)] at H
   have H' := mk0 H
   clear H; have hnb52 := NB128_129.out; have hnc52 := NB129_128.out; have hnb53 := NB128_130.out; have hnc53 := NB130_128.out; have hnb54 := NB128_131.out; have hnc54 := NB131_128.out; have hnb55 := NB128_132.out; have hnc55 := NB132_128.out
   obtain ⟨_, _, _, _⟩ := be_2 BK128.out
   go_wp2_with (first | ((with_reducible refine gate_callee (f := 39) rfl ?_); refine goesL_ (some 15) rfl rfl Try.func39 (by kernel_rfl) rfl #[.agg #[.int .i64 a0_0, .int .i64 a0_1]] rfl z4_1 ?_; (with_reducible refine (spec_PointOk.calls a0_0 a0_1 true _ A12.out).mono ?_); rintro e w57 ⟨rfl, hb⟩; refine ⟨_, rfl, ?_⟩; have n0_ := mk0 (blk_belowB BK128 (pkb BK128) hb); have n1_ := mk0 (blk_belowB BK129 (pkb BK129) hb); have n2_ := mk0 (blk_belowB BK130 (pkb BK130) hb); have n3_ := mk0 (blk_belowB BK131 (pkb BK131) hb); have n4_ := mk0 (blk_belowB BK132 (pkb BK132) hb); have n5_ := mk0 (below_step z4_0 hb); clear BK128 BK129 BK130 BK131 BK132 HB; have BK128 := n0_; have BK129 := n1_; have BK130 := n2_; have BK131 := n3_; have BK132 := n4_; have HB := n5_; clear n0_ n1_ n2_ n3_ n4_ n5_; (try clear hb); have hnb58 := NB129_130.out; have hnc58 := NB130_129.out; have hnb59 := NB129_131.out; have hnc59 := NB131_129.out; have hnb60 := NB129_132.out; have hnc60 := NB132_129.out; obtain ⟨_, _, _, _⟩ := be_2 BK129.out) | (go_at_call 39; (with_reducible refine (spec_PointOk.calls a1_0 a1_1 false _ A14.out).mono ?_); rintro e w62 ⟨rfl, hb⟩; have n0_ := mk0 (blk_belowB BK128 (pkb BK128) hb); have n1_ := mk0 (blk_belowB BK129 (pkb BK129) hb); have n2_ := mk0 (blk_belowB BK130 (pkb BK130) hb); have n3_ := mk0 (blk_belowB BK131 (pkb BK131) hb); have n4_ := mk0 (blk_belowB BK132 (pkb BK132) hb); have n5_ := mk0 (below_step z4_0 hb); clear BK128 BK129 BK130 BK131 BK132 HB; have BK128 := n0_; have BK129 := n1_; have BK130 := n2_; have BK131 := n3_; have BK132 := n4_; have HB := n5_; clear n0_ n1_ n2_ n3_ n4_ n5_; (try clear hb)))
   go_meet
   case rel => exact ⟨_, (true), rs0, H', ⟨(by first | omega | exact Nat.le_refl _)⟩, ⟨pkb BK128⟩, ⟨pkb BK129⟩, ⟨pkb BK130⟩, ⟨pkb BK131⟩, ⟨pkb BK132⟩, ⟨z4_0⟩⟩
  subst c15
  rw [if_pos rfl] at H
  replace H := Option.bind_eq_some_iff.mp H
  obtain ⟨t135, A160, H⟩ := H
  try dsimp only at H
  have A16 := mk0 A160
  clear A160
  by_cases c17 : t135 = true
  rotate_left
  ·replace c17 := Bool.eq_false_iff.mpr c17
   subst c17
   rw [if_neg (show ¬ (false = true) by decide)] at H
   have H' := mk0 H
   clear H; have hnb37 := NB128_129.out; have hnc37 := NB129_128.out; have hnb38 := NB128_130.out; have hnc38 := NB130_128.out; have hnb39 := NB128_131.out; have hnc39 := NB131_128.out; have hnb40 := NB128_132.out; have hnc40 := NB132_128.out
   obtain ⟨_, _, _, _⟩ := be_2 BK128.out
   go_wp2_with (first | ((with_reducible refine gate_callee (f := 39) rfl ?_); refine goesL_ (some 15) rfl rfl Try.func39 (by kernel_rfl) rfl #[.agg #[.int .i64 a0_0, .int .i64 a0_1]] rfl z4_1 ?_; (with_reducible refine (spec_PointOk.calls a0_0 a0_1 true _ A12.out).mono ?_); rintro e w42 ⟨rfl, hb⟩; refine ⟨_, rfl, ?_⟩; have n0_ := mk0 (blk_belowB BK128 (pkb BK128) hb); have n1_ := mk0 (blk_belowB BK129 (pkb BK129) hb); have n2_ := mk0 (blk_belowB BK130 (pkb BK130) hb); have n3_ := mk0 (blk_belowB BK131 (pkb BK131) hb); have n4_ := mk0 (blk_belowB BK132 (pkb BK132) hb); have n5_ := mk0 (below_step z4_0 hb); clear BK128 BK129 BK130 BK131 BK132 HB; have BK128 := n0_; have BK129 := n1_; have BK130 := n2_; have BK131 := n3_; have BK132 := n4_; have HB := n5_; clear n0_ n1_ n2_ n3_ n4_ n5_; (try clear hb); have hnb43 := NB129_130.out; have hnc43 := NB130_129.out; have hnb44 := NB129_131.out; have hnc44 := NB131_129.out; have hnb45 := NB129_132.out; have hnc45 := NB132_129.out; obtain ⟨_, _, _, _⟩ := be_2 BK129.out) | (go_at_call 39; (with_reducible refine (spec_PointOk.calls a1_0 a1_1 true _ A14.out).mono ?_); rintro e w47 ⟨rfl, hb⟩; have n0_ := mk0 (blk_belowB BK128 (pkb BK128) hb); have n1_ := mk0 (blk_belowB BK129 (pkb BK129) hb); have n2_ := mk0 (blk_belowB BK130 (pkb BK130) hb); have n3_ := mk0 (blk_belowB BK131 (pkb BK131) hb); have n4_ := mk0 (blk_belowB BK132 (pkb BK132) hb); have n5_ := mk0 (below_step z4_0 hb); clear BK128 BK129 BK130 BK131 BK132 HB; have BK128 := n0_; have BK129 := n1_; have BK130 := n2_; have BK131 := n3_; have BK132 := n4_; have HB := n5_; clear n0_ n1_ n2_ n3_ n4_ n5_; (try clear hb); have hnb48 := NB130_131.out; have hnc48 := NB131_130.out; have hnb49 := NB130_132.out; have hnc49 := NB132_130.out; obtain ⟨_, _, _, _⟩ := be_2 BK130.out) | (go_at_call 39; (with_reducible refine (spec_PointOk.calls a2_0 a2_1 false _ A16.out).mono ?_); rintro e w51 ⟨rfl, hb⟩; have n0_ := mk0 (blk_belowB BK128 (pkb BK128) hb); have n1_ := mk0 (blk_belowB BK129 (pkb BK129) hb); have n2_ := mk0 (blk_belowB BK130 (pkb BK130) hb); have n3_ := mk0 (blk_belowB BK131 (pkb BK131) hb); have n4_ := mk0 (blk_belowB BK132 (pkb BK132) hb); have n5_ := mk0 (below_step z4_0 hb); clear BK128 BK129 BK130 BK131 BK132 HB; have BK128 := n0_; have BK129 := n1_; have BK130 := n2_; have BK131 := n3_; have BK132 := n4_; have HB := n5_; clear n0_ n1_ n2_ n3_ n4_ n5_; (try clear hb)))
   go_meet
   case rel => exact ⟨_, (true), rs0, H', ⟨(by first | omega | exact Nat.le_refl _)⟩, ⟨pkb BK128⟩, ⟨pkb BK129⟩, ⟨pkb BK130⟩, ⟨pkb BK131⟩, ⟨pkb BK132⟩, ⟨z4_0⟩⟩
  subst c17
  rw [if_pos rfl] at H
  replace H := Option.bind_eq_some_iff.mp H
  obtain ⟨t136, A180, H⟩ := H
  try dsimp only at H
  have A18 := mk0 A180
  clear A180
  have H' := mk0 H
  clear H; have hnb19 := NB128_129.out; have hnc19 := NB129_128.out; have hnb20 := NB128_130.out; have hnc20 := NB130_128.out; have hnb21 := NB128_131.out; have hnc21 := NB131_128.out; have hnb22 := NB128_132.out; have hnc22 := NB132_128.out
  obtain ⟨_, _, _, _⟩ := be_2 BK128.out
  go_wp2_with (first | ((with_reducible refine gate_callee (f := 39) rfl ?_); refine goesL_ (some 15) rfl rfl Try.func39 (by kernel_rfl) rfl #[.agg #[.int .i64 a0_0, .int .i64 a0_1]] rfl z4_1 ?_; (with_reducible refine (spec_PointOk.calls a0_0 a0_1 true _ A12.out).mono ?_); rintro e w24 ⟨rfl, hb⟩; refine ⟨_, rfl, ?_⟩; have n0_ := mk0 (blk_belowB BK128 (pkb BK128) hb); have n1_ := mk0 (blk_belowB BK129 (pkb BK129) hb); have n2_ := mk0 (blk_belowB BK130 (pkb BK130) hb); have n3_ := mk0 (blk_belowB BK131 (pkb BK131) hb); have n4_ := mk0 (blk_belowB BK132 (pkb BK132) hb); have n5_ := mk0 (below_step z4_0 hb); clear BK128 BK129 BK130 BK131 BK132 HB; have BK128 := n0_; have BK129 := n1_; have BK130 := n2_; have BK131 := n3_; have BK132 := n4_; have HB := n5_; clear n0_ n1_ n2_ n3_ n4_ n5_; (try clear hb); have hnb25 := NB129_130.out; have hnc25 := NB130_129.out; have hnb26 := NB129_131.out; have hnc26 := NB131_129.out; have hnb27 := NB129_132.out; have hnc27 := NB132_129.out; obtain ⟨_, _, _, _⟩ := be_2 BK129.out) | (go_at_call 39; (with_reducible refine (spec_PointOk.calls a1_0 a1_1 true _ A14.out).mono ?_); rintro e w29 ⟨rfl, hb⟩; have n0_ := mk0 (blk_belowB BK128 (pkb BK128) hb); have n1_ := mk0 (blk_belowB BK129 (pkb BK129) hb); have n2_ := mk0 (blk_belowB BK130 (pkb BK130) hb); have n3_ := mk0 (blk_belowB BK131 (pkb BK131) hb); have n4_ := mk0 (blk_belowB BK132 (pkb BK132) hb); have n5_ := mk0 (below_step z4_0 hb); clear BK128 BK129 BK130 BK131 BK132 HB; have BK128 := n0_; have BK129 := n1_; have BK130 := n2_; have BK131 := n3_; have BK132 := n4_; have HB := n5_; clear n0_ n1_ n2_ n3_ n4_ n5_; (try clear hb); have hnb30 := NB130_131.out; have hnc30 := NB131_130.out; have hnb31 := NB130_132.out; have hnc31 := NB132_130.out; obtain ⟨_, _, _, _⟩ := be_2 BK130.out) | (go_at_call 39; (with_reducible refine (spec_PointOk.calls a2_0 a2_1 true _ A16.out).mono ?_); rintro e w33 ⟨rfl, hb⟩; have n0_ := mk0 (blk_belowB BK128 (pkb BK128) hb); have n1_ := mk0 (blk_belowB BK129 (pkb BK129) hb); have n2_ := mk0 (blk_belowB BK130 (pkb BK130) hb); have n3_ := mk0 (blk_belowB BK131 (pkb BK131) hb); have n4_ := mk0 (blk_belowB BK132 (pkb BK132) hb); have n5_ := mk0 (below_step z4_0 hb); clear BK128 BK129 BK130 BK131 BK132 HB; have BK128 := n0_; have BK129 := n1_; have BK130 := n2_; have BK131 := n3_; have BK132 := n4_; have HB := n5_; clear n0_ n1_ n2_ n3_ n4_ n5_; (try clear hb); have hnb34 := NB131_132.out; have hnc34 := NB132_131.out; obtain ⟨_, _, _, _⟩ := be_2 BK131.out) | (go_at_call 39; (with_reducible refine (spec_PointOk.calls a3_0 a3_1 t136 _ A18.out).mono ?_); rintro e w36 ⟨rfl, hb⟩; have n0_ := mk0 (blk_belowB BK128 (pkb BK128) hb); have n1_ := mk0 (blk_belowB BK129 (pkb BK129) hb); have n2_ := mk0 (blk_belowB BK130 (pkb BK130) hb); have n3_ := mk0 (blk_belowB BK131 (pkb BK131) hb); have n4_ := mk0 (blk_belowB BK132 (pkb BK132) hb); have n5_ := mk0 (below_step z4_0 hb); clear BK128 BK129 BK130 BK131 BK132 HB; have BK128 := n0_; have BK129 := n1_; have BK130 := n2_; have BK131 := n3_; have BK132 := n4_; have HB := n5_; clear n0_ n1_ n2_ n3_ n4_ n5_; (try clear hb)))
  go_meet
  case rel => exact ⟨_, (!t136), rs0, H', ⟨(by first | omega | exact Nat.le_refl _)⟩, ⟨pkb BK128⟩, ⟨pkb BK129⟩, ⟨pkb BK130⟩, ⟨pkb BK131⟩, ⟨pkb BK132⟩, ⟨z4_0⟩⟩
 case rest =>
  clear HC6; try clear c1
  try clear c2
  try clear p2
  try clear c3
  try clear c4
  try clear c5
  try clear c6
  try clear c13
  try clear c15
  try clear c17
  try clear c19
  try clear c20
  try clear c21
  try clear c22
  try clear c23
  try clear c25
  try clear c26
  try clear c27
  try clear c30
  try clear c31
  try clear c34
  try clear c37
  try clear c38
  try clear c39
  try clear c40
  try clear c43
  try clear c44
  try clear c45
  try clear c48
  try clear c49
  try clear c52
  try clear c53
  try clear c54
  try clear c55
  try clear c58
  try clear c59
  try clear c60
  try clear c63
  try clear c64
  try clear c65
  try clear c66
  try clear hcz23_0
  try clear hcz23_1
  try clear hcz28_0
  try clear hcz28_1
  try clear hcz32_0
  try clear hcz32_1
  try clear hcz35_0
  try clear hcz35_1
  try clear hcz41_0
  try clear hcz41_1
  try clear hcz46_0
  try clear hcz46_1
  try clear hcz50_0
  try clear hcz50_1
  try clear hcz56_0
  try clear hcz56_1
  try clear hcz61_0
  try clear hcz61_1
  try clear hcz67_0
  try clear hcz67_1
  try clear hfz23_0
  try clear hfz23_1
  try clear hfz28_0
  try clear hfz28_1
  try clear hfz32_0
  try clear hfz32_1
  try clear hfz35_0
  try clear hfz35_1
  try clear hfz41_0
  try clear hfz41_1
  try clear hfz46_0
  try clear hfz46_1
  try clear hfz50_0
  try clear hfz50_1
  try clear hfz56_0
  try clear hfz56_1
  try clear hfz61_0
  try clear hfz61_1
  try clear hfz67_0
  try clear hfz67_1
  obtain ⟨kq, x31_5, rfl, HA, HJ5, BK128, BK129, BK130, BK131, BK132, HB⟩ := hcut
  cases kq with
  | zero => exact absurd HA.out (by simp [spec_CubicAt.j0])
  | succ kj5 =>
   have H := HA.out; clear HA
   simp only [spec_CubicAt.j0] at H
   by_cases c69 : x31_5 = true
   ·subst c69
    rw [if_pos rfl] at H
    simp only [Option.some.injEq, Prod.mk.injEq] at H
    obtain ⟨rfl, rfl⟩ := H
    have hnb70 := NB132_128.out; have hnc70 := NB128_132.out; have hnb71 := NB132_129.out; have hnc71 := NB129_132.out; have hnb72 := NB132_130.out; have hnc72 := NB130_132.out; have hnb73 := NB132_131.out; have hnc73 := NB131_132.out
    obtain ⟨_, _, _, _⟩ := be_2 BK132.out
    go_wp2
    refine bodyPost_ret (results_cell_row rfl _ _ gb132 46 #[.int .i64 0, .int .i64 0] (0, 0) _ rfl z4_7 Try.underlying46 rfl (by kernel_rfl)) rfl ?_
    exact ⟨(by first | rfl | (simp [errW_none, errW_some] <;> rfl) | (simp [*, errW_none, errW_some] <;> rfl)), z4_0⟩
   replace c69 := Bool.eq_false_iff.mpr c69
   subst c69
   rw [if_neg (show ¬ (false = true) by decide)] at H
   replace H := Option.bind_eq_some_iff.mp H
   obtain ⟨t137, A750, H⟩ := H
   try dsimp only at H
   have A75 := mk0 A750
   clear A750
   replace H := Option.bind_eq_some_iff.mp H
   obtain ⟨t138, A760, H⟩ := H
   try dsimp only at H
   have A76 := mk0 A760
   clear A760
   replace H := Option.bind_eq_some_iff.mp H
   obtain ⟨t139, A770, H⟩ := H
   try dsimp only at H
   have A77 := mk0 A770
   clear A770
   simp only [Option.some.injEq, Prod.mk.injEq] at H
   obtain ⟨rfl, rfl⟩ := H
   go_wp2_with (first | ((with_reducible refine gate_callee (f := 40) rfl ?_); refine goesL_ (some 34) rfl rfl Try.func40 (by kernel_rfl) rfl #[.int .i64 a4, .int .i64 0, .int .i64 8] rfl z4_1 ?_; (with_reducible refine (spec_Clamp.calls a4 0 8 t137 _ A75.out).mono ?_); rintro e w' ⟨rfl, ⟨nd, rfl⟩⟩; refine ⟨_, rfl, ?_⟩; (try (rw [drewN_self wc]; generalize hq_ : World.drewN wc _ = wc; have n0_ : Aside0 (wc.heap[gb128]? = some (.cells #[.int .i64 a0_0, .int .i64 a0_1] 46 (0, 0))) := ⟨(by rw [← hq_]; exact (pkb BK128))⟩; have n1_ : Aside0 (wc.heap[gb129]? = some (.cells #[.int .i64 a1_0, .int .i64 a1_1] 46 (0, 0))) := ⟨(by rw [← hq_]; exact (pkb BK129))⟩; have n2_ : Aside0 (wc.heap[gb130]? = some (.cells #[.int .i64 a2_0, .int .i64 a2_1] 46 (0, 0))) := ⟨(by rw [← hq_]; exact (pkb BK130))⟩; have n3_ : Aside0 (wc.heap[gb131]? = some (.cells #[.int .i64 a3_0, .int .i64 a3_1] 46 (0, 0))) := ⟨(by rw [← hq_]; exact (pkb BK131))⟩; have n4_ : Aside0 (wc.heap[gb132]? = some (.cells #[.int .i64 0, .int .i64 0] 46 (0, 0))) := ⟨(by rw [← hq_]; exact (pkb BK132))⟩; have n5_ : Aside0 (Below w.heap.size w wc) := ⟨(by rw [← hq_]; exact z4_0)⟩; clear BK128 BK129 BK130 BK131 BK132 HB hq_; have BK128 := n0_; have BK129 := n1_; have BK130 := n2_; have BK131 := n3_; have BK132 := n4_; have HB := n5_; clear n0_ n1_ n2_ n3_ n4_ n5_)); (try have hcy82_0 : wc.cell? ⟨gb128, 0, none⟩ = some (.int .i64 a0_0) := (blk_cell BK128.out 0).trans rfl); (try have hcy82_1 : wc.cell? ⟨gb128, 1, none⟩ = some (.int .i64 a0_1) := (blk_cell BK128.out 1).trans rfl); (try have hcy86_0 : wc.cell? ⟨gb129, 0, none⟩ = some (.int .i64 a1_0) := (blk_cell BK129.out 0).trans rfl); (try have hcy86_1 : wc.cell? ⟨gb129, 1, none⟩ = some (.int .i64 a1_1) := (blk_cell BK129.out 1).trans rfl); (try have hcy89_0 : wc.cell? ⟨gb130, 0, none⟩ = some (.int .i64 a2_0) := (blk_cell BK130.out 0).trans rfl); (try have hcy89_1 : wc.cell? ⟨gb130, 1, none⟩ = some (.int .i64 a2_1) := (blk_cell BK130.out 1).trans rfl); (try have hcy91_0 : wc.cell? ⟨gb131, 0, none⟩ = some (.int .i64 a3_0) := (blk_cell BK131.out 0).trans rfl); (try have hcy91_1 : wc.cell? ⟨gb131, 1, none⟩ = some (.int .i64 a3_1) := (blk_cell BK131.out 1).trans rfl); (try have hcy92_0 : wc.cell? ⟨gb132, 0, none⟩ = some (.int .i64 0) := (blk_cell BK132.out 0).trans rfl); (try have hcy92_1 : wc.cell? ⟨gb132, 1, none⟩ = some (.int .i64 0) := (blk_cell BK132.out 1).trans rfl); have hnb78 := NB128_129.out; have hnc78 := NB129_128.out; have hnb79 := NB128_130.out; have hnc79 := NB130_128.out; have hnb80 := NB128_131.out; have hnc80 := NB131_128.out; have hnb81 := NB128_132.out; have hnc81 := NB132_128.out; obtain ⟨_, _, _, _⟩ := be_2 BK128.out; have hnb83 := NB129_130.out; have hnc83 := NB130_129.out; have hnb84 := NB129_131.out; have hnc84 := NB131_129.out; have hnb85 := NB129_132.out; have hnc85 := NB132_129.out; obtain ⟨_, _, _, _⟩ := be_2 BK129.out; have hnb87 := NB130_131.out; have hnc87 := NB131_130.out; have hnb88 := NB130_132.out; have hnc88 := NB132_130.out; obtain ⟨_, _, _, _⟩ := be_2 BK130.out; have hnb90 := NB131_132.out; have hnc90 := NB132_131.out; obtain ⟨_, _, _, _⟩ := be_2 BK131.out) | ((with_reducible refine gate_callee (f := 41) rfl ?_); refine goesL_ (some 112) rfl rfl Try.func41 (by kernel_rfl) rfl #[.int .i64 (wrap64 ((wrap64 ((wrap64 ((wrap64 ((wrap64 ((wrap64 ((wrap64 (8 - t137)) * (wrap64 (8 - t137)))) * (wrap64 (8 - t137)))) * a0_0)) + (wrap64 ((wrap64 ((wrap64 ((wrap64 (3 * t137)) * (wrap64 (8 - t137)))) * (wrap64 (8 - t137)))) * a1_0)))) + (wrap64 ((wrap64 ((wrap64 ((wrap64 (3 * t137)) * t137)) * (wrap64 (8 - t137)))) * a2_0)))) + (wrap64 ((wrap64 ((wrap64 (t137 * t137)) * t137)) * a3_0)))), .int .i64 512] rfl z4_1 ?_; (with_reducible refine (spec_RoundDiv.calls (wrap64 ((wrap64 ((wrap64 ((wrap64 ((wrap64 ((wrap64 ((wrap64 (8 - t137)) * (wrap64 (8 - t137)))) * (wrap64 (8 - t137)))) * a0_0)) + (wrap64 ((wrap64 ((wrap64 ((wrap64 (3 * t137)) * (wrap64 (8 - t137)))) * (wrap64 (8 - t137)))) * a1_0)))) + (wrap64 ((wrap64 ((wrap64 ((wrap64 (3 * t137)) * t137)) * (wrap64 (8 - t137)))) * a2_0)))) + (wrap64 ((wrap64 ((wrap64 (t137 * t137)) * t137)) * a3_0)))) 512 t138 _ A76.out).mono ?_); rintro e w' ⟨rfl, ⟨nd, rfl⟩⟩; refine ⟨_, rfl, ?_⟩; (try (rw [drewN_self wc]; generalize hq_ : World.drewN wc _ = wc; have n0_ : Aside0 (wc.heap[gb128]? = some (.cells #[.int .i64 a0_0, .int .i64 a0_1] 46 (0, 0))) := ⟨(by rw [← hq_]; exact (pkb BK128))⟩; have n1_ : Aside0 (wc.heap[gb129]? = some (.cells #[.int .i64 a1_0, .int .i64 a1_1] 46 (0, 0))) := ⟨(by rw [← hq_]; exact (pkb BK129))⟩; have n2_ : Aside0 (wc.heap[gb130]? = some (.cells #[.int .i64 a2_0, .int .i64 a2_1] 46 (0, 0))) := ⟨(by rw [← hq_]; exact (pkb BK130))⟩; have n3_ : Aside0 (wc.heap[gb131]? = some (.cells #[.int .i64 a3_0, .int .i64 a3_1] 46 (0, 0))) := ⟨(by rw [← hq_]; exact (pkb BK131))⟩; have n4_ : Aside0 (wc.heap[gb132]? = some (.cells #[.int .i64 0, .int .i64 0] 46 (0, 0))) := ⟨(by rw [← hq_]; exact (pkb BK132))⟩; have n5_ : Aside0 (Below w.heap.size w wc) := ⟨(by rw [← hq_]; exact z4_0)⟩; clear BK128 BK129 BK130 BK131 BK132 HB hq_; have BK128 := n0_; have BK129 := n1_; have BK130 := n2_; have BK131 := n3_; have BK132 := n4_; have HB := n5_; clear n0_ n1_ n2_ n3_ n4_ n5_)); (try have hcy82_0 : wc.cell? ⟨gb128, 0, none⟩ = some (.int .i64 a0_0) := (blk_cell BK128.out 0).trans rfl); (try have hcy82_1 : wc.cell? ⟨gb128, 1, none⟩ = some (.int .i64 a0_1) := (blk_cell BK128.out 1).trans rfl); (try have hcy86_0 : wc.cell? ⟨gb129, 0, none⟩ = some (.int .i64 a1_0) := (blk_cell BK129.out 0).trans rfl); (try have hcy86_1 : wc.cell? ⟨gb129, 1, none⟩ = some (.int .i64 a1_1) := (blk_cell BK129.out 1).trans rfl); (try have hcy89_0 : wc.cell? ⟨gb130, 0, none⟩ = some (.int .i64 a2_0) := (blk_cell BK130.out 0).trans rfl); (try have hcy89_1 : wc.cell? ⟨gb130, 1, none⟩ = some (.int .i64 a2_1) := (blk_cell BK130.out 1).trans rfl); (try have hcy91_0 : wc.cell? ⟨gb131, 0, none⟩ = some (.int .i64 a3_0) := (blk_cell BK131.out 0).trans rfl); (try have hcy91_1 : wc.cell? ⟨gb131, 1, none⟩ = some (.int .i64 a3_1) := (blk_cell BK131.out 1).trans rfl); (try have hcy92_0 : wc.cell? ⟨gb132, 0, none⟩ = some (.int .i64 0) := (blk_cell BK132.out 0).trans rfl); (try have hcy92_1 : wc.cell? ⟨gb132, 1, none⟩ = some (.int .i64 0) := (blk_cell BK132.out 1).trans rfl)) | ((with_reducible refine gate_callee (f := 41) rfl ?_); refine goesL_ (some 114) rfl rfl Try.func41 (by kernel_rfl) rfl #[.int .i64 (wrap64 ((wrap64 ((wrap64 ((wrap64 ((wrap64 ((wrap64 ((wrap64 (8 - t137)) * (wrap64 (8 - t137)))) * (wrap64 (8 - t137)))) * a0_1)) + (wrap64 ((wrap64 ((wrap64 ((wrap64 (3 * t137)) * (wrap64 (8 - t137)))) * (wrap64 (8 - t137)))) * a1_1)))) + (wrap64 ((wrap64 ((wrap64 ((wrap64 (3 * t137)) * t137)) * (wrap64 (8 - t137)))) * a2_1)))) + (wrap64 ((wrap64 ((wrap64 (t137 * t137)) * t137)) * a3_1)))), .int .i64 512] rfl z4_1 ?_; (with_reducible refine (spec_RoundDiv.calls (wrap64 ((wrap64 ((wrap64 ((wrap64 ((wrap64 ((wrap64 ((wrap64 (8 - t137)) * (wrap64 (8 - t137)))) * (wrap64 (8 - t137)))) * a0_1)) + (wrap64 ((wrap64 ((wrap64 ((wrap64 (3 * t137)) * (wrap64 (8 - t137)))) * (wrap64 (8 - t137)))) * a1_1)))) + (wrap64 ((wrap64 ((wrap64 ((wrap64 (3 * t137)) * t137)) * (wrap64 (8 - t137)))) * a2_1)))) + (wrap64 ((wrap64 ((wrap64 (t137 * t137)) * t137)) * a3_1)))) 512 t139 _ A77.out).mono ?_); rintro e w' ⟨rfl, ⟨nd, rfl⟩⟩; refine ⟨_, rfl, ?_⟩; (try (rw [drewN_self wc]; generalize hq_ : World.drewN wc _ = wc; have n0_ : Aside0 (wc.heap[gb128]? = some (.cells #[.int .i64 a0_0, .int .i64 a0_1] 46 (0, 0))) := ⟨(by rw [← hq_]; exact (pkb BK128))⟩; have n1_ : Aside0 (wc.heap[gb129]? = some (.cells #[.int .i64 a1_0, .int .i64 a1_1] 46 (0, 0))) := ⟨(by rw [← hq_]; exact (pkb BK129))⟩; have n2_ : Aside0 (wc.heap[gb130]? = some (.cells #[.int .i64 a2_0, .int .i64 a2_1] 46 (0, 0))) := ⟨(by rw [← hq_]; exact (pkb BK130))⟩; have n3_ : Aside0 (wc.heap[gb131]? = some (.cells #[.int .i64 a3_0, .int .i64 a3_1] 46 (0, 0))) := ⟨(by rw [← hq_]; exact (pkb BK131))⟩; have n4_ : Aside0 (wc.heap[gb132]? = some (.cells #[.int .i64 0, .int .i64 0] 46 (0, 0))) := ⟨(by rw [← hq_]; exact (pkb BK132))⟩; have n5_ : Aside0 (Below w.heap.size w wc) := ⟨(by rw [← hq_]; exact z4_0)⟩; clear BK128 BK129 BK130 BK131 BK132 HB hq_; have BK128 := n0_; have BK129 := n1_; have BK130 := n2_; have BK131 := n3_; have BK132 := n4_; have HB := n5_; clear n0_ n1_ n2_ n3_ n4_ n5_)); (try have hcy82_0 : wc.cell? ⟨gb128, 0, none⟩ = some (.int .i64 a0_0) := (blk_cell BK128.out 0).trans rfl); (try have hcy82_1 : wc.cell? ⟨gb128, 1, none⟩ = some (.int .i64 a0_1) := (blk_cell BK128.out 1).trans rfl); (try have hcy86_0 : wc.cell? ⟨gb129, 0, none⟩ = some (.int .i64 a1_0) := (blk_cell BK129.out 0).trans rfl); (try have hcy86_1 : wc.cell? ⟨gb129, 1, none⟩ = some (.int .i64 a1_1) := (blk_cell BK129.out 1).trans rfl); (try have hcy89_0 : wc.cell? ⟨gb130, 0, none⟩ = some (.int .i64 a2_0) := (blk_cell BK130.out 0).trans rfl); (try have hcy89_1 : wc.cell? ⟨gb130, 1, none⟩ = some (.int .i64 a2_1) := (blk_cell BK130.out 1).trans rfl); (try have hcy91_0 : wc.cell? ⟨gb131, 0, none⟩ = some (.int .i64 a3_0) := (blk_cell BK131.out 0).trans rfl); (try have hcy91_1 : wc.cell? ⟨gb131, 1, none⟩ = some (.int .i64 a3_1) := (blk_cell BK131.out 1).trans rfl); (try have hcy92_0 : wc.cell? ⟨gb132, 0, none⟩ = some (.int .i64 0) := (blk_cell BK132.out 0).trans rfl); (try have hcy92_1 : wc.cell? ⟨gb132, 1, none⟩ = some (.int .i64 0) := (blk_cell BK132.out 1).trans rfl); obtain ⟨_, _, _, _⟩ := be_2 BK132.out))
   refine bodyPost_ret (results_cell_row rfl _ _ gb132 46 #[.int .i64 t138, .int .i64 t139] (0, 0) _ rfl z4_7 Try.underlying46 rfl (by kernel_rfl)) rfl ?_
   exact ⟨(by first | rfl | (simp [errW_none, errW_some] <;> rfl) | (simp [*, errW_none, errW_some] <;> rfl)), z4_0⟩

end Go.Proofs.Ytdpnimngndemiaa.MFnFlats
