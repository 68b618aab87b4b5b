/- Functions of the program as Lean functions, and the proof that a call comes to just these: machine text of this session's own program (myprint.py). -/
import Derived.Test.YtdpnimngndemiaaMFnFlatsx0
import Derived.Test.YtdpnimngndemiaaMFnFlatsx2
namespace Go.Proofs.Ytdpnimngndemiaa.MFnFlats
open Go.RowKit Go.Proofs.YtdpnimngndemiaaW.PrintWords Go.Proofs.YtdpnimngndemiaaW.PrintLast Go.Proofs.YtdpnimngndemiaaW.PrintMore
attribute [local go_sem] max2_int min2_int max_two min_two max_three min_three max_four min_four   -- for this text's walks alone
set_option linter.unusedVariables false
set_option linter.unusedSimpArgs false

theorem x3_put {P : Prop} (h : P := by simp only [Act.put, List.setIfInBounds_toArray, List.set_cons_zero, List.set_cons_succ, i64_w, i32_w]; rfl) : P := h
theorem z3_1 {P : Prop} (h : P := by repeat (first | (with_reducible first | exact HB.out | apply below_alloc | apply pw_below_drewN | apply below_drew1 | refine below_set ?_ GE118.out | refine below_set ?_ GE119.out | refine below_set ?_ GE120.out | refine below_set ?_ GE121.out) | exact HB.out)) : P := h
theorem z3_2 {P : Prop} (h : P := by (try simp only [List.map_toArray, List.map_cons, List.map_nil]); first | done | rfl | (simp only [List.length_drop, List.length_take]; rfl)) : P := h
theorem z3_3 {P : Prop} (h : P := by repeat (first | (with_reducible first | exact HB.out | apply below_alloc | apply pw_below_drewN | apply below_drew1 | refine below_set ?_ GE118.out | refine below_set ?_ GE119.out | refine below_set ?_ GE120.out) | exact HB.out)) : P := h
theorem z3_4 {P : Prop} (h : P := by repeat (first | (with_reducible first | exact HB.out | apply below_alloc | apply pw_below_drewN | apply below_drew1 | refine below_set ?_ GE118.out | refine below_set ?_ GE119.out) | exact HB.out)) : P := h
theorem z3_5 {P : Prop} (h : P := by repeat (first | (with_reducible first | exact HB.out | apply below_alloc | apply pw_below_drewN | apply below_drew1 | refine below_set ?_ GE118.out) | exact HB.out)) : P := h
theorem z3_6 {P : Prop} (h : P := by repeat (first | (with_reducible first | exact HB.out | apply below_alloc | apply pw_below_drewN | apply below_drew1) | exact HB.out)) : P := h
theorem z3_7 {P : Prop} (h : P := by apply blk_fin; (focus ((with_reducible repeat (first | apply blk_putQ | refine blk_drewN ?_ _ | refine blk_drew ?_ | refine blk_alloc ?_ _)); exact BK121.out)); first | (simp only [List.setIfInBounds_toArray, List.set_cons_zero, List.set_cons_succ]; done) | rfl) : P := h
/-! ### spec_QuadAt: function 22 -/
def spec_QuadAt.j0 : Nat → Int → Bool → Int → Int → Int → Int → Int → Int → Option (Int × Int)
 | 0, _, _, _, _, _, _, _, _ => none
 | k + 1, x3, x22, x119000, x119001, x120000, x120001, x121000, x121001 => if x22 = true then (some (0, 0)) else ((spec_Clamp.f x3 0 4).bind fun t125 => ((spec_RoundDiv.f (wrap64 ((wrap64 ((wrap64 ((wrap64 ((wrap64 (4 - t125)) * (wrap64 (4 - t125)))) * x119000)) + (wrap64 ((wrap64 ((wrap64 (2 * t125)) * (wrap64 (4 - t125)))) * x120000)))) + (wrap64 ((wrap64 (t125 * t125)) * x121000)))) 16).bind fun t126 => ((spec_RoundDiv.f (wrap64 ((wrap64 ((wrap64 ((wrap64 ((wrap64 (4 - t125)) * (wrap64 (4 - t125)))) * x119001)) + (wrap64 ((wrap64 ((wrap64 (2 * t125)) * (wrap64 (4 - t125)))) * x120001)))) + (wrap64 ((wrap64 (t125 * t125)) * x121001)))) 16).bind fun t127 => (some (t126, t127)))))
def spec_QuadAt.f (k : Nat) (a0_0 : Int) (a0_1 : Int) (a1_0 : Int) (a1_1 : Int) (a2_0 : Int) (a2_1 : Int) (a3 : Int) : Option (Int × Int) := (spec_PointOk.f a0_0 a0_1).bind fun t122 => (if t122 = true then ((spec_PointOk.f a1_0 a1_1).bind fun t123 => (if t123 = true then ((spec_PointOk.f a2_0 a2_1).bind fun t124 => (spec_QuadAt.j0 k a3 (!t124) a0_0 a0_1 a1_0 a1_1 a2_0 a2_1)) else (spec_QuadAt.j0 k a3 true a0_0 a0_1 a1_0 a1_1 a2_0 a2_1))) else (spec_QuadAt.j0 k a3 true a0_0 a0_1 a1_0 a1_1 a2_0 a2_1))
theorem spec_QuadAt.mono_l : ∀ k, (∀ y0 y1 y2 y3 y4 y5 y6 y7, LeO (spec_QuadAt.j0 k y0 y1 y2 y3 y4 y5 y6 y7) (spec_QuadAt.j0 (k + 1) y0 y1 y2 y3 y4 y5 y6 y7))
 | 0 => fun _ _ _ _ _ _ _ _ r h => by simp [spec_QuadAt.j0] at h
 | k + 1 => by
  have ih0 := spec_QuadAt.mono_l k
  ·intro y0 y1 y2 y3 y4 y5 y6 y7
   unfold spec_QuadAt.j0
   repeat' first
   | (with_reducible exact ih0 _ _ _ _ _ _ _ _)
   | (with_reducible exact LeO.refl _)
   | (with_reducible exact LeO.none _)
   | (with_reducible refine LeO.ite ?_ ?_)
   | (with_reducible refine LeO.bind ?_ (fun _ => ?_))
theorem spec_QuadAt.mono : ∀ a0 a1 a2 a3 a4 a5 a6 k, LeO (spec_QuadAt.f k a0 a1 a2 a3 a4 a5 a6) (spec_QuadAt.f (k + 1) a0 a1 a2 a3 a4 a5 a6) := by
 intro a0 a1 a2 a3 a4 a5 a6 k
 have ih0 := spec_QuadAt.mono_l k
 unfold spec_QuadAt.f
 repeat' first
   | (with_reducible exact ih0 _ _ _ _ _ _ _ _)
   | (with_reducible exact LeO.refl _)
   | (with_reducible exact LeO.none _)
   | (with_reducible refine LeO.ite ?_ ?_)
   | (with_reducible refine LeO.bind ?_ (fun _ => ?_))
def spec_QuadAt.T5 : Bool × List (List Nat × List Nat) := (true, [([], []), ([], []), ([0, 1], [0, 1]), ([], []), ([3], [3]), ([2, 4], [2, 4]), ([], []), ([6], [6]), ([], []), ([7, 8], [7, 8]), ([], []), ([10], [10]), ([9, 11], [9, 11]), ([5, 12], [5, 12]), ([], []), ([], []), ([14, 15], [14, 15]), ([], []), ([17], [17]), ([16, 18], [16, 18]), ([13, 19], [13, 19]), ([20], [20]), ([], []), ([], []), ([22, 23], [22, 23]), ([], []), ([25], [25]), ([24, 26], [24, 26]), ([], []), ([28], [28]), ([], []), ([29, 30], [29, 30]), ([], []), ([32], [32]), ([31, 33], [31, 33]), ([27, 34], [27, 34]), ([], []), ([], []), ([36, 37], [36, 37]), ([], []), ([39], [39]), ([38, 40], [38, 40]), ([35, 41], [35, 41]), ([42, 21], [42]), ([21, 43], [21, 43]), ([44, 43, 0, 1, 2, 3, 4, 5, 6, 7, 8, 9, 10, 11, 12, 13, 14, 15, 16, 17, 18, 19, 20, 21, 22, 23, 24, 25, 26, 27, 28, 29, 30, 31, 32, 33, 34, 35, 36, 37, 38, 39, 40, 41, 42, 43, 44], [44])])
def spec_QuadAt.B5 : List Nat := [0, 0, 3, 0, 8, 31, 0, 64, 0, 448, 0, 1024, 4032, 8191, 0, 0, 49152, 0, 131072, 507904, 1048575, 2097151, 0, 0, 12582912, 0, 33554432, 130023424, 0, 268435456, 0, 1879048192, 0, 4294967296, 16911433728, 34355544064, 0, 0, 206158430208, 0, 549755813888, 2130303778816, 4398042316800, 8796093022207, 17592186044415, 35184372088831]
theorem spec_QuadAt.tab5 : rtab .any (opsOf Try.f22 5) = spec_QuadAt.T5 := by kernel_rfl
theorem spec_QuadAt.bits5 : waitsOk spec_QuadAt.T5.2 spec_QuadAt.B5 = true := by kernel_rfl
set_option maxHeartbeats 8000000 in
set_option maxRecDepth 100000 in
theorem spec_QuadAt.calls (k : Nat) (a0_0 : Int) (a0_1 : Int) (a1_0 : Int) (a1_1 : Int) (a2_0 : Int) (a2_1 : Int) (a3 : Int) (r1 : Int) (r2 : Int) (w : World) (h : spec_QuadAt.f k a0_0 a0_1 a1_0 a1_1 a2_0 a2_1 a3 = some (r1, r2)) :
  Calls Try.prog 22 #[.agg #[.int .i64 a0_0, .int .i64 a0_1], .agg #[.int .i64 a1_0, .int .i64 a1_1], .agg #[.int .i64 a2_0, .int .i64 a2_1], .int .i64 a3] w fun e w' => e = .returned (.agg #[.int .i64 r1, .int .i64 r2]) ∧ Below w.heap.size w w' := by
 have hu46 := Try.underlying46
 have HB := mk0 (Below.refl w.heap.size w)
 have H : ((spec_PointOk.f a0_0 a0_1).bind fun t122 => (if t122 = true then ((spec_PointOk.f a1_0 a1_1).bind fun t123 => (if t123 = true then ((spec_PointOk.f a2_0 a2_1).bind fun t124 => (spec_QuadAt.j0 k a3 (!t124) a0_0 a0_1 a1_0 a1_1 a2_0 a2_1)) else (spec_QuadAt.j0 k a3 true a0_0 a0_1 a1_0 a1_1 a2_0 a2_1))) else (spec_QuadAt.j0 k a3 true a0_0 a0_1 a1_0 a1_1 a2_0 a2_1))) = some (r1, r2) := h
 clear h
 have HC5 := mk0 H
 clear H
 go_enter Try.func22, Try.ntmps22
 go_upto_region 1 with (first | ((with_reducible refine gate_dst (N := 4) rfl ?_); refine boxz (cs := #[.int .i64 a0_0, .int .i64 a0_1]) (t := 46) rfl ?_; intro gb118 hg w6 hbox hb; have n0_ := mk0 (below_step z3_6 hb); have n1_ := mk0 (hbox); have GW118 := mk0 (ge_go (a := w.heap.size) hg (below_size z3_6)); have GE118 := GW118; clear HB; have HB := n0_; have BK118 := n1_; clear n0_ n1_ ; clear hb hbox hg) | ((with_reducible refine gate_dst (N := 5) rfl ?_); refine boxz (cs := #[.int .i64 a1_0, .int .i64 a1_1]) (t := 46) rfl ?_; intro gb119 hg w7 hbox hb; have n0_ := mk0 (blk_belowB BK118 (pkb BK118) hb); have n1_ := mk0 (below_step z3_5 hb); have n2_ := mk0 (hbox); have GW119 := mk0 (ge_go (a := w.heap.size) hg (below_size z3_5)); have GE119 := GW119; have NB118_119 := mk0 (nb_lt hg (blk_ltB BK118 (pkb BK118))); have NB119_118 := mk0 (nb_gt hg (blk_ltB BK118 (pkb BK118))); clear BK118 HB; have BK118 := n0_; have HB := n1_; have BK119 := n2_; clear n0_ n1_ n2_ ; clear hb hbox hg) | ((with_reducible refine gate_dst (N := 6) rfl ?_); refine boxz (cs := #[.int .i64 a2_0, .int .i64 a2_1]) (t := 46) rfl ?_; intro gb120 hg w8 hbox hb; have n0_ := mk0 (blk_belowB BK118 (pkb BK118) hb); have n1_ := mk0 (blk_belowB BK119 (pkb BK119) hb); have n2_ := mk0 (below_step z3_4 hb); have n3_ := mk0 (hbox); have GW120 := mk0 (ge_go (a := w.heap.size) hg (below_size z3_4)); have GE120 := GW120; have NB118_120 := mk0 (nb_lt hg (blk_ltB BK118 (pkb BK118))); have NB120_118 := mk0 (nb_gt hg (blk_ltB BK118 (pkb BK118))); have NB119_120 := mk0 (nb_lt hg (blk_ltB BK119 (pkb BK119))); have NB120_119 := mk0 (nb_gt hg (blk_ltB BK119 (pkb BK119))); clear BK118 BK119 HB; have BK118 := n0_; have BK119 := n1_; have HB := n2_; have BK120 := n3_; clear n0_ n1_ n2_ n3_ ; clear hb hbox hg) | ((with_reducible refine gate_dst (N := 8) rfl ?_); refine boxz (cs := #[.int .i64 0, .int .i64 0]) (t := 46) rfl ?_; intro gb121 hg w9 hbox hb; have n0_ := mk0 (blk_belowB BK118 (pkb BK118) hb); have n1_ := mk0 (blk_belowB BK119 (pkb BK119) hb); have n2_ := mk0 (blk_belowB BK120 (pkb BK120) hb); have n3_ := mk0 (below_step z3_3 hb); have n4_ := mk0 (hbox); have GW121 := mk0 (ge_go (a := w.heap.size) hg (below_size z3_3)); have GE121 := GW121; have NB118_121 := mk0 (nb_lt hg (blk_ltB BK118 (pkb BK118))); have NB121_118 := mk0 (nb_gt hg (blk_ltB BK118 (pkb BK118))); have NB119_121 := mk0 (nb_lt hg (blk_ltB BK119 (pkb BK119))); have NB121_119 := mk0 (nb_gt hg (blk_ltB BK119 (pkb BK119))); have NB120_121 := mk0 (nb_lt hg (blk_ltB BK120 (pkb BK120))); have NB121_120 := mk0 (nb_gt hg (blk_ltB BK120 (pkb BK120))); clear BK118 BK119 BK120 HB; have BK118 := n0_; have BK119 := n1_; have BK120 := n2_; have HB := n3_; have BK121 := n4_; clear n0_ n1_ n2_ n3_ n4_ ; clear hb hbox hg))
 (try simp only [Act.put, List.setIfInBounds_toArray, List.set_cons_zero, List.set_cons_succ])
 go_cut [22] (fun v22 wc => ∃ (kq : Nat) (x22_4 : Bool), v22 = .bool x22_4 ∧ Aside0 (spec_QuadAt.j0 kq a3 x22_4 a0_0 a0_1 a1_0 a1_1 a2_0 a2_1 = some (r1, r2)) ∧ Aside0 (kq ≤ k) ∧ Aside0 (wc.heap[gb118]? = some (.cells #[.int .i64 a0_0, .int .i64 a0_1] 46 (0, 0))) ∧ Aside0 (wc.heap[gb119]? = some (.cells #[.int .i64 a1_0, .int .i64 a1_1] 46 (0, 0))) ∧ Aside0 (wc.heap[gb120]? = some (.cells #[.int .i64 a2_0, .int .i64 a2_1] 46 (0, 0))) ∧ Aside0 (wc.heap[gb121]? = some (.cells #[.int .i64 0, .int .i64 0] 46 (0, 0))) ∧ Aside0 (Below w.heap.size w wc))
 case first =>
  have H := HC5.out; clear HC5
  replace H := Option.bind_eq_some_iff.mp H
  obtain ⟨t122, A100, H⟩ := H
  try dsimp only at H
  have A10 := mk0 A100
  clear A100
  by_cases c11 : t122 = true
  rotate_left
  ·replace c11 := Bool.eq_false_iff.mpr c11
   subst c11
   rw [if_neg (show ¬ (false = true) by decide)] at H
   have H' := mk0 H
   clear H; have hnb36 := NB118_119.out; have hnc36 := NB119_118.out; have hnb37 := NB118_120.out; have hnc37 := NB120_118.out; have hnb38 := NB118_121.out; have hnc38 := NB121_118.out
   obtain ⟨_, _, _, _⟩ := be_2 BK118.out
   go_wp2_with (first | ((with_reducible refine gate_callee (f := 39) rfl ?_); refine goesL_ (some 11) rfl rfl Try.func39 (by kernel_rfl) rfl #[.agg #[.int .i64 a0_0, .int .i64 a0_1]] rfl z3_2 ?_; (with_reducible refine (spec_PointOk.calls a0_0 a0_1 false _ A10.out).mono ?_); rintro e w40 ⟨rfl, hb⟩; refine ⟨_, rfl, ?_⟩; have n0_ := mk0 (blk_belowB BK118 (pkb BK118) hb); have n1_ := mk0 (blk_belowB BK119 (pkb BK119) hb); have n2_ := mk0 (blk_belowB BK120 (pkb BK120) hb); have n3_ := mk0 (blk_belowB BK121 (pkb BK121) hb); have n4_ := mk0 (below_step z3_1 hb); clear BK118 BK119 BK120 BK121 HB; have BK118 := n0_; have BK119 := n1_; have BK120 := n2_; have BK121 := n3_; have HB := n4_; clear n0_ n1_ n2_ n3_ n4_; (try clear hb)))
   go_meet
   case rel => exact ⟨_, (true), rs0, H', ⟨(by first | omega | exact Nat.le_refl _)⟩, ⟨pkb BK118⟩, ⟨pkb BK119⟩, ⟨pkb BK120⟩, ⟨pkb BK121⟩, ⟨z3_1⟩⟩
  subst c11
  rw [if_pos rfl] at H
  replace H := Option.bind_eq_some_iff.mp H
  obtain ⟨t123, A120, H⟩ := H
  try dsimp only at H
  have A12 := mk0 A120
  clear A120
  by_cases c13 : t123 = true
  rotate_left
  ·replace c13 := Bool.eq_false_iff.mpr c13
   subst c13
   rw [if_neg (show ¬ (false = true) by decide)] at H
   have H' := mk0 H
   clear H; have hnb27 := NB118_119.out; have hnc27 := NB119_118.out; have hnb28 := NB118_120.out; have hnc28 := NB120_118.out; have hnb29 := NB118_121.out; have hnc29 := NB121_118.out
   obtain ⟨_, _, _, _⟩ := be_2 BK118.out
   go_wp2_with (first | ((with_reducible refine gate_callee (f := 39) rfl ?_); refine goesL_ (some 11) rfl rfl Try.func39 (by kernel_rfl) rfl #[.agg #[.int .i64 a0_0, .int .i64 a0_1]] rfl z3_2 ?_; (with_reducible refine (spec_PointOk.calls a0_0 a0_1 true _ A10.out).mono ?_); rintro e w31 ⟨rfl, hb⟩; refine ⟨_, rfl, ?_⟩; have n0_ := mk0 (blk_belowB BK118 (pkb BK118) hb); have n1_ := mk0 (blk_belowB BK119 (pkb BK119) hb); have n2_ := mk0 (blk_belowB BK120 (pkb BK120) hb); have n3_ := mk0 (blk_belowB BK121 (pkb BK121) hb); have n4_ := mk0 (below_step z3_1 hb); clear BK118 BK119 BK120 BK121 HB; have BK118 := n0_; have BK119 := n1_; have BK120 := n2_; have BK121 := n3_; have HB := n4_; clear n0_ n1_ n2_ n3_ n4_; (try clear hb); have hnb32 := NB119_120.out; have hnc32 := NB120_119.out; have hnb33 := NB119_121.out; have hnc33 := NB121_119.out; obtain ⟨_, _, _, _⟩ := be_2 BK119.out) | (go_at_call 39; (with_reducible refine (spec_PointOk.calls a1_0 a1_1 false _ A12.out).mono ?_); rintro e w35 ⟨rfl, hb⟩; have n0_ := mk0 (blk_belowB BK118 (pkb BK118) hb); have n1_ := mk0 (blk_belowB BK119 (pkb BK119) hb); have n2_ := mk0 (blk_belowB BK120 (pkb BK120) hb); have n3_ := mk0 (blk_belowB BK121 (pkb BK121) hb); have n4_ := mk0 (below_step z3_1 hb); clear BK118 BK119 BK120 BK121 HB; have BK118 := n0_; have BK119 := n1_; have BK120 := n2_; have BK121 := n3_; have HB := n4_; clear n0_ n1_ n2_ n3_ n4_; (try clear hb)))
   go_meet
   case rel => exact ⟨_, (true), rs0, H', ⟨(by first | omega | exact Nat.le_refl _)⟩, ⟨pkb BK118⟩, ⟨pkb BK119⟩, ⟨pkb BK120⟩, ⟨pkb BK121⟩, ⟨z3_1⟩⟩
  subst c13
  rw [if_pos rfl] at H
  replace H := Option.bind_eq_some_iff.mp H
  obtain ⟨t124, A140, H⟩ := H
  try dsimp only at H
  have A14 := mk0 A140
  clear A140
  have H' := mk0 H
  clear H; have hnb15 := NB118_119.out; have hnc15 := NB119_118.out; have hnb16 := NB118_120.out; have hnc16 := NB120_118.out; have hnb17 := NB118_121.out; have hnc17 := NB121_118.out
  obtain ⟨_, _, _, _⟩ := be_2 BK118.out
  go_wp2_with (first | ((with_reducible refine gate_callee (f := 39) rfl ?_); refine goesL_ (some 11) rfl rfl Try.func39 (by kernel_rfl) rfl #[.agg #[.int .i64 a0_0, .int .i64 a0_1]] rfl z3_2 ?_; (with_reducible refine (spec_PointOk.calls a0_0 a0_1 true _ A10.out).mono ?_); rintro e w19 ⟨rfl, hb⟩; refine ⟨_, rfl, ?_⟩; have n0_ := mk0 (blk_belowB BK118 (pkb BK118) hb); have n1_ := mk0 (blk_belowB BK119 (pkb BK119) hb); have n2_ := mk0 (blk_belowB BK120 (pkb BK120) hb); have n3_ := mk0 (blk_belowB BK121 (pkb BK121) hb); have n4_ := mk0 (below_step z3_1 hb); clear BK118 BK119 BK120 BK121 HB; have BK118 := n0_; have BK119 := n1_; have BK120 := n2_; have BK121 := n3_; have HB := n4_; clear n0_ n1_ n2_ n3_ n4_; (try clear hb); have hnb20 := NB119_120.out; have hnc20 := NB120_119.out; have hnb21 := NB119_121.out; have hnc21 := NB121_119.out; obtain ⟨_, _, _, _⟩ := be_2 BK119.out) | (go_at_call 39; (with_reducible refine (spec_PointOk.calls a1_0 a1_1 true _ A12.out).mono ?_); rintro e w23 ⟨rfl, hb⟩; have n0_ := mk0 (blk_belowB BK118 (pkb BK118) hb); have n1_ := mk0 (blk_belowB BK119 (pkb BK119) hb); have n2_ := mk0 (blk_belowB BK120 (pkb BK120) hb); have n3_ := mk0 (blk_belowB BK121 (pkb BK121) hb); have n4_ := mk0 (below_step z3_1 hb); clear BK118 BK119 BK120 BK121 HB; have BK118 := n0_; have BK119 := n1_; have BK120 := n2_; have BK121 := n3_; have HB := n4_; clear n0_ n1_ n2_ n3_ n4_; (try clear hb); have hnb24 := NB120_121.out; have hnc24 := NB121_120.out; obtain ⟨_, _, _, _⟩ := be_2 BK120.out) | (go_at_call 39; (with_reducible refine (spec_PointOk.calls a2_0 a2_1 t124 _ A14.out).mono ?_); rintro e w26 ⟨rfl, hb⟩; have n0_ := mk0 (blk_belowB BK118 (pkb BK118) hb); have n1_ := mk0 (blk_belowB BK119 (pkb BK119) hb); have n2_ := mk0 (blk_belowB BK120 (pkb BK120) hb); have n3_ := mk0 (blk_belowB BK121 (pkb BK121) hb); have n4_ := mk0 (below_step z3_1 hb); clear BK118 BK119 BK120 BK121 HB; have BK118 := n0_; have BK119 := n1_; have BK120 := n2_; have BK121 := n3_; have HB := n4_; clear n0_ n1_ n2_ n3_ n4_; (try clear hb)))
  go_meet
  case rel => exact ⟨_, (!t124), rs0, H', ⟨(by first | omega | exact Nat.le_refl _)⟩, ⟨pkb BK118⟩, ⟨pkb BK119⟩, ⟨pkb BK120⟩, ⟨pkb BK121⟩, ⟨z3_1⟩⟩
 case rest =>
  clear HC5; try clear c1
  try clear c2
  try clear p2
  try clear c3
  try clear c11
  try clear c13
  try clear c15
  try clear c16
  try clear c17
  try clear c20
  try clear c21
  try clear c22
  try clear c24
  try clear c27
  try clear c28
  try clear c29
  try clear c32
  try clear c33
  try clear c36
  try clear c37
  try clear c38
  try clear c39
  try clear hcz18_0
  try clear hcz18_1
  try clear hcz22_0
  try clear hcz22_1
  try clear hcz25_0
  try clear hcz25_1
  try clear hcz30_0
  try clear hcz30_1
  try clear hcz34_0
  try clear hcz34_1
  try clear hcz39_0
  try clear hcz39_1
  try clear hfz18_0
  try clear hfz18_1
  try clear hfz22_0
  try clear hfz22_1
  try clear hfz25_0
  try clear hfz25_1
  try clear hfz30_0
  try clear hfz30_1
  try clear hfz34_0
  try clear hfz34_1
  try clear hfz39_0
  try clear hfz39_1
  obtain ⟨kq, x22_4, rfl, HA, HJ4, BK118, BK119, BK120, BK121, HB⟩ := hcut
  cases kq with
  | zero => exact absurd HA.out (by simp [spec_QuadAt.j0])
  | succ kj4 =>
   have H := HA.out; clear HA
   simp only [spec_QuadAt.j0] at H
   by_cases c41 : x22_4 = true
   ·subst c41
    rw [if_pos rfl] at H
    simp only [Option.some.injEq, Prod.mk.injEq] at H
    obtain ⟨rfl, rfl⟩ := H
    have hnb42 := NB121_118.out; have hnc42 := NB118_121.out; have hnb43 := NB121_119.out; have hnc43 := NB119_121.out; have hnb44 := NB121_120.out; have hnc44 := NB120_121.out
    obtain ⟨_, _, _, _⟩ := be_2 BK121.out
    go_wp2
    refine bodyPost_ret (results_cell_row rfl _ _ gb121 46 #[.int .i64 0, .int .i64 0] (0, 0) _ rfl z3_7 Try.underlying46 rfl (by kernel_rfl)) rfl ?_
    exact ⟨(by first | rfl | (simp [errW_none, errW_some] <;> rfl) | (simp [*, errW_none, errW_some] <;> rfl)), z3_1⟩
   replace c41 := Bool.eq_false_iff.mpr c41
   subst c41
   rw [if_neg (show ¬ (false = true) by decide)] at H
   replace H := Option.bind_eq_some_iff.mp H
   obtain ⟨t125, A460, H⟩ := H
   try dsimp only at H
   have A46 := mk0 A460
   clear A460
   replace H := Option.bind_eq_some_iff.mp H
   obtain ⟨t126, A470, H⟩ := H
   try dsimp only at H
   have A47 := mk0 A470
   clear A470
   replace H := Option.bind_eq_some_iff.mp H
   obtain ⟨t127, A480, H⟩ := H
   try dsimp only at H
   have A48 := mk0 A480
   clear A480
   simp only [Option.some.injEq, Prod.mk.injEq] at H
   obtain ⟨rfl, rfl⟩ := H
   try go_wp2_with (first | ((with_reducible refine gate_callee (f := 40) rfl ?_); refine goesL_ (some 25) rfl rfl Try.func40 (by kernel_rfl) rfl #[.int .i64 a3, .int .i64 0, .int .i64 4] rfl z3_2 ?_; (with_reducible refine (spec_Clamp.calls a3 0 4 t125 _ A46.out).mono ?_); rintro e w' ⟨rfl, ⟨nd, rfl⟩⟩; refine ⟨_, rfl, ?_⟩; (try (rw [drewN_self wc]; generalize hq_ : World.drewN wc _ = wc; have n0_ : Aside0 (wc.heap[gb118]? = some (.cells #[.int .i64 a0_0, .int .i64 a0_1] 46 (0, 0))) := ⟨(by rw [← hq_]; exact (pkb BK118))⟩; have n1_ : Aside0 (wc.heap[gb119]? = some (.cells #[.int .i64 a1_0, .int .i64 a1_1] 46 (0, 0))) := ⟨(by rw [← hq_]; exact (pkb BK119))⟩; have n2_ : Aside0 (wc.heap[gb120]? = some (.cells #[.int .i64 a2_0, .int .i64 a2_1] 46 (0, 0))) := ⟨(by rw [← hq_]; exact (pkb BK120))⟩; have n3_ : Aside0 (wc.heap[gb121]? = some (.cells #[.int .i64 0, .int .i64 0] 46 (0, 0))) := ⟨(by rw [← hq_]; exact (pkb BK121))⟩; have n4_ : Aside0 (Below w.heap.size w wc) := ⟨(by rw [← hq_]; exact z3_1)⟩; clear BK118 BK119 BK120 BK121 HB hq_; have BK118 := n0_; have BK119 := n1_; have BK120 := n2_; have BK121 := n3_; have HB := n4_; clear n0_ n1_ n2_ n3_ n4_))))
   have n0_ := mk0 (blk_drew BK118.out)
   have n1_ := mk0 (blk_drew BK119.out)
   have n2_ := mk0 (blk_drew BK120.out)
   have n3_ := mk0 (blk_drew BK121.out)
   have n4_ := mk0 (below_drew1 HB.out)
   clear BK118 BK119 BK120 BK121 HB; have BK118 := n0_; have BK119 := n1_; have BK120 := n2_; have BK121 := n3_; have HB := n4_; clear n0_ n1_ n2_ n3_ n4_
   refine start_ (n := 46) (S := fun w' => w'.cell? ⟨gb118, 0, none⟩ = some (.int .i64 a0_0) ∧ w'.cell? ⟨gb118, 1, none⟩ = some (.int .i64 a0_1) ∧ w'.cell? ⟨gb119, 0, none⟩ = some (.int .i64 a1_0) ∧ w'.cell? ⟨gb119, 1, none⟩ = some (.int .i64 a1_1) ∧ w'.cell? ⟨gb120, 0, none⟩ = some (.int .i64 a2_0) ∧ w'.cell? ⟨gb120, 1, none⟩ = some (.int .i64 a2_1)) (ds := []) #[false, false, false, false, false, false, false, false, false, false, false, false, false, false, false, false, false, false, false, false, false, false, false, false, false, false, false, false, false, false, false, false, false, false, false, false, false, false, false, false, false, false, false, false, false, false] (by kernel_rfl) rfl rfl ⟨(blk_cell BK118.out 0).trans rfl, (blk_cell BK118.out 1).trans rfl, (blk_cell BK119.out 0).trans rfl, (blk_cell BK119.out 1).trans rfl, (blk_cell BK120.out 0).trans rfl, (blk_cell BK120.out 1).trans rfl⟩ (fun hHeld => ?_); refine with_tabW spec_QuadAt.tab5 spec_QuadAt.bits5 (fun HT_ HW_ => ?_)
   generalize wc.drew = w49 at BK118 BK119 BK120 BK121 HB hHeld ⊢
   refine pzv (i := 0) (N := 28) (v := ?_) (a' := ?_) (bA 46 1) HT_ ?_ ?_ ?_
   rotate_left
   ·intro w'
    go_simp; with_reducible rfl
   rotate_left
   ·exact x3_put
   refine pzv (i := 1) (N := 29) (v := ?_) (a' := ?_) (bA 46 3) HT_ ?_ ?_ ?_
   rotate_left
   ·intro w'
    go_simp; with_reducible rfl
   rotate_left
   ·exact x3_put
   refine pzv (i := 2) (N := 30) (v := ?_) (a' := ?_) (bA 46 7) HT_ ?_ ?_ ?_
   rotate_left
   ·intro w'
    go_simp; with_reducible rfl
   rotate_left
   ·exact x3_put
   refine pzv (i := 3) (N := 31) (v := ?_) (a' := ?_) (bA 46 15) HT_ ?_ ?_ ?_
   rotate_left
   ·intro w'
    go_simp; with_reducible rfl
   rotate_left
   ·exact x3_put
   refine pzv (i := 6) (N := 34) (v := ?_) (a' := ?_) (bA 46 79) HT_ ?_ ?_ ?_
   rotate_left
   ·intro w'
    go_simp; with_reducible rfl
   rotate_left
   ·exact x3_put
   refine pzv (i := 7) (N := 35) (v := ?_) (a' := ?_) (bA 46 207) HT_ ?_ ?_ ?_
   rotate_left
   ·intro w'
    go_simp; with_reducible rfl
   rotate_left
   ·exact x3_put
   refine pzv (i := 8) (N := 36) (v := ?_) (a' := ?_) (bA 46 463) HT_ ?_ ?_ ?_
   rotate_left
   ·intro w'
    go_simp; with_reducible rfl
   rotate_left
   ·exact x3_put
   refine pzv (i := 9) (N := 37) (v := ?_) (a' := ?_) (bA 46 975) HT_ ?_ ?_ ?_
   rotate_left
   ·intro w'
    go_simp; with_reducible rfl
   rotate_left
   ·exact x3_put
   refine pzv (i := 10) (N := 38) (v := ?_) (a' := ?_) (bA 46 1999) HT_ ?_ ?_ ?_
   rotate_left
   ·intro w'
    go_simp; with_reducible rfl
   rotate_left
   ·exact x3_put
   refine pzv (i := 14) (N := 42) (v := ?_) (a' := ?_) (bA 46 18383) HT_ ?_ ?_ ?_
   rotate_left
   ·intro w'
    go_simp; with_reducible rfl
   rotate_left
   ·exact x3_put
   refine pzv (i := 15) (N := 43) (v := ?_) (a' := ?_) (bA 46 51151) HT_ ?_ ?_ ?_
   rotate_left
   ·intro w'
    go_simp; with_reducible rfl
   rotate_left
   ·exact x3_put
   refine pzv (i := 16) (N := 44) (v := ?_) (a' := ?_) (bA 46 116687) HT_ ?_ ?_ ?_
   rotate_left
   ·intro w'
    go_simp; with_reducible rfl
   rotate_left
   ·exact x3_put
   refine pzv (i := 17) (N := 45) (v := ?_) (a' := ?_) (bA 46 247759) HT_ ?_ ?_ ?_
   rotate_left
   ·intro w'
    go_simp; with_reducible rfl
   rotate_left
   ·exact x3_put
   refine pzv (i := 22) (N := 50) (v := ?_) (a' := ?_) (bA 46 4442063) HT_ ?_ ?_ ?_
   rotate_left
   ·intro w'
    go_simp; with_reducible rfl
   rotate_left
   ·exact x3_put
   refine pzv (i := 23) (N := 51) (v := ?_) (a' := ?_) (bA 46 12830671) HT_ ?_ ?_ ?_
   rotate_left
   ·intro w'
    go_simp; with_reducible rfl
   rotate_left
   ·exact x3_put
   refine pzv (i := 24) (N := 52) (v := ?_) (a' := ?_) (bA 46 29607887) HT_ ?_ ?_ ?_
   rotate_left
   ·intro w'
    go_simp; with_reducible rfl
   rotate_left
   ·exact x3_put
   refine pzv (i := 25) (N := 53) (v := ?_) (a' := ?_) (bA 46 63162319) HT_ ?_ ?_ ?_
   rotate_left
   ·intro w'
    go_simp; with_reducible rfl
   rotate_left
   ·exact x3_put
   refine pzv (i := 28) (N := 56) (v := ?_) (a' := ?_) (bA 46 331597775) HT_ ?_ ?_ ?_
   rotate_left
   ·intro w'
    go_simp; with_reducible rfl
   rotate_left
   ·exact x3_put
   refine pzv (i := 29) (N := 57) (v := ?_) (a' := ?_) (bA 46 868468687) HT_ ?_ ?_ ?_
   rotate_left
   ·intro w'
    go_simp; with_reducible rfl
   rotate_left
   ·exact x3_put
   refine pzv (i := 30) (N := 58) (v := ?_) (a' := ?_) (bA 46 1942210511) HT_ ?_ ?_ ?_
   rotate_left
   ·intro w'
    go_simp; with_reducible rfl
   rotate_left
   ·exact x3_put
   refine pzv (i := 31) (N := 59) (v := ?_) (a' := ?_) (bA 46 4089694159) HT_ ?_ ?_ ?_
   rotate_left
   ·intro w'
    go_simp; with_reducible rfl
   rotate_left
   ·exact x3_put
   refine pzv (i := 32) (N := 60) (v := ?_) (a' := ?_) (bA 46 8384661455) HT_ ?_ ?_ ?_
   rotate_left
   ·intro w'
    go_simp; with_reducible rfl
   rotate_left
   ·exact x3_put
   refine pzv (i := 36) (N := 64) (v := ?_) (a' := ?_) (bA 46 77104138191) HT_ ?_ ?_ ?_
   rotate_left
   ·intro w'
    go_simp; with_reducible rfl
   rotate_left
   ·exact x3_put
   refine pzv (i := 37) (N := 65) (v := ?_) (a' := ?_) (bA 46 214543091663) HT_ ?_ ?_ ?_
   rotate_left
   ·intro w'
    go_simp; with_reducible rfl
   rotate_left
   ·exact x3_put
   refine pzv (i := 38) (N := 66) (v := ?_) (a' := ?_) (bA 46 489420998607) HT_ ?_ ?_ ?_
   rotate_left
   ·intro w'
    go_simp; with_reducible rfl
   rotate_left
   ·exact x3_put
   refine pzv (i := 39) (N := 67) (v := ?_) (a' := ?_) (bA 46 1039176812495) HT_ ?_ ?_ ?_
   rotate_left
   ·intro w'
    go_simp; with_reducible rfl
   rotate_left
   ·exact x3_put
   refine take_ (i := 4) (N := some 32) (v := ?_) (a' := ?_) (bA 46 1039176812511) rfl rfl (take_ofW HT_.out HW_.out (by kernel_rfl)) (fun _ _ _ h => h) (Or.inl ⟨by rfl, ?_⟩) hHeld ?_ ?_
   rotate_left
   ·rintro w' ⟨s0, s1, s2, s3, s4, s5⟩
    go_simp; with_reducible rfl
   rotate_left
   ·exact x3_put
   refine pzv (i := 5) (N := 33) (v := ?_) (a' := ?_) (bA 46 1039176812543) HT_ ?_ ?_ ?_
   rotate_left
   ·intro w'
    go_simp; with_reducible rfl
   rotate_left
   ·exact x3_put
   refine take_ (i := 11) (N := some 39) (v := ?_) (a' := ?_) (bA 46 1039176814591) rfl rfl (take_ofW HT_.out HW_.out (by kernel_rfl)) (fun _ _ _ h => h) (Or.inl ⟨by rfl, ?_⟩) hHeld ?_ ?_
   rotate_left
   ·rintro w' ⟨s0, s1, s2, s3, s4, s5⟩
    go_simp; with_reducible rfl
   rotate_left
   ·exact x3_put
   refine pzv (i := 12) (N := 40) (v := ?_) (a' := ?_) (bA 46 1039176818687) HT_ ?_ ?_ ?_
   rotate_left
   ·intro w'
    go_simp; with_reducible rfl
   rotate_left
   ·exact x3_put
   refine pzv (i := 13) (N := 41) (v := ?_) (a' := ?_) (bA 46 1039176826879) HT_ ?_ ?_ ?_
   rotate_left
   ·intro w'
    go_simp; with_reducible rfl
   rotate_left
   ·exact x3_put
   refine take_ (i := 18) (N := some 46) (v := ?_) (a' := ?_) (bA 46 1039177089023) rfl rfl (take_ofW HT_.out HW_.out (by kernel_rfl)) (fun _ _ _ h => h) (Or.inl ⟨by rfl, ?_⟩) hHeld ?_ ?_
   rotate_left
   ·rintro w' ⟨s0, s1, s2, s3, s4, s5⟩
    go_simp; with_reducible rfl
   rotate_left
   ·exact x3_put
   refine pzv (i := 19) (N := 47) (v := ?_) (a' := ?_) (bA 46 1039177613311) HT_ ?_ ?_ ?_
   rotate_left
   ·intro w'
    go_simp; with_reducible rfl
   rotate_left
   ·exact x3_put
   refine pzv (i := 20) (N := 48) (v := ?_) (a' := ?_) (bA 46 1039178661887) HT_ ?_ ?_ ?_
   rotate_left
   ·intro w'
    go_simp; with_reducible rfl
   rotate_left
   ·exact x3_put
   refine take_ (i := 26) (N := some 54) (v := ?_) (a' := ?_) (bA 46 1039245770751) rfl rfl (take_ofW HT_.out HW_.out (by kernel_rfl)) (fun _ _ _ h => h) (Or.inl ⟨by rfl, ?_⟩) hHeld ?_ ?_
   rotate_left
   ·rintro w' ⟨s0, s1, s2, s3, s4, s5⟩
    go_simp; with_reducible rfl
   rotate_left
   ·exact x3_put
   refine pzv (i := 27) (N := 55) (v := ?_) (a' := ?_) (bA 46 1039379988479) HT_ ?_ ?_ ?_
   rotate_left
   ·intro w'
    go_simp; with_reducible rfl
   rotate_left
   ·exact x3_put
   refine take_ (i := 33) (N := some 61) (v := ?_) (a' := ?_) (bA 46 1047969923071) rfl rfl (take_ofW HT_.out HW_.out (by kernel_rfl)) (fun _ _ _ h => h) (Or.inl ⟨by rfl, ?_⟩) hHeld ?_ ?_
   rotate_left
   ·rintro w' ⟨s0, s1, s2, s3, s4, s5⟩
    go_simp; with_reducible rfl
   rotate_left
   ·exact x3_put
   refine pzv (i := 34) (N := 62) (v := ?_) (a' := ?_) (bA 46 1065149792255) HT_ ?_ ?_ ?_
   rotate_left
   ·intro w'
    go_simp; with_reducible rfl
   rotate_left
   ·exact x3_put
   refine pzv (i := 35) (N := 63) (v := ?_) (a' := ?_) (bA 46 1099509530623) HT_ ?_ ?_ ?_
   rotate_left
   ·intro w'
    go_simp; with_reducible rfl
   rotate_left
   ·exact x3_put
   refine take_ (i := 40) (N := some 68) (v := ?_) (a' := ?_) (bA 46 2199021158399) rfl rfl (take_ofW HT_.out HW_.out (by kernel_rfl)) (fun _ _ _ h => h) (Or.inl ⟨by rfl, ?_⟩) hHeld ?_ ?_
   rotate_left
   ·rintro w' ⟨s0, s1, s2, s3, s4, s5⟩
    go_simp; with_reducible rfl
   rotate_left
   ·exact x3_put
   refine pzv (i := 41) (N := 69) (v := ?_) (a' := ?_) (bA 46 4398044413951) HT_ ?_ ?_ ?_
   rotate_left
   ·intro w'
    go_simp; with_reducible rfl
   rotate_left
   ·exact x3_put
   refine pzv (i := 42) (N := 70) (v := ?_) (a' := ?_) (bA 46 8796090925055) HT_ ?_ ?_ ?_
   rotate_left
   ·intro w'
    go_simp; with_reducible rfl
   rotate_left
   ·exact x3_put
   refine one_ (i := 21) (N := some 49) (bA 46 8796093022207) rfl rfl (one_of HT_.out (by kernel_rfl)) (by decide) (fun K hK => ?_)
   refine goes_ Try.func41 (by kernel_rfl) rfl #[.int .i64 (wrap64 ((wrap64 ((wrap64 ((wrap64 ((wrap64 (4 - t125)) * (wrap64 (4 - t125)))) * a0_0)) + (wrap64 ((wrap64 ((wrap64 (2 * t125)) * (wrap64 (4 - t125)))) * a1_0)))) + (wrap64 ((wrap64 (t125 * t125)) * a2_0)))), .int .i64 16] (by rfl) rfl rfl z3_2 ?_
   with_reducible refine (spec_RoundDiv.calls (wrap64 ((wrap64 ((wrap64 ((wrap64 ((wrap64 (4 - t125)) * (wrap64 (4 - t125)))) * a0_0)) + (wrap64 ((wrap64 ((wrap64 (2 * t125)) * (wrap64 (4 - t125)))) * a1_0)))) + (wrap64 ((wrap64 (t125 * t125)) * a2_0)))) 16 t126 _ A47.out).mono ?_
   rintro e w' ⟨rfl, ⟨nd, rfl⟩⟩
   refine ⟨_, rfl, ?_⟩
   refine hK.out _ _ ⟨(blk_cell BK118.out 0).trans rfl, (blk_cell BK118.out 1).trans rfl, (blk_cell BK119.out 0).trans rfl, (blk_cell BK119.out 1).trans rfl, (blk_cell BK120.out 0).trans rfl, (blk_cell BK120.out 1).trans rfl⟩ (fun hHeld => ?_)
   clear hK K
   refine norm_ (a' := ?_) ?_ ?_
   rotate_left
   ·show Act.put _ (some 49) _ = _
    simp only [Act.put, List.setIfInBounds_toArray, List.set_cons_zero, List.set_cons_succ, i64_w, i32_w]
    rfl
   refine one_ (i := 43) (N := some 71) (bA 46 17592186044415) rfl rfl (one_of HT_.out (by kernel_rfl)) (by decide) (fun K hK => ?_)
   refine goes_ Try.func41 (by kernel_rfl) rfl #[.int .i64 (wrap64 ((wrap64 ((wrap64 ((wrap64 ((wrap64 (4 - t125)) * (wrap64 (4 - t125)))) * a0_1)) + (wrap64 ((wrap64 ((wrap64 (2 * t125)) * (wrap64 (4 - t125)))) * a1_1)))) + (wrap64 ((wrap64 (t125 * t125)) * a2_1)))), .int .i64 16] (by rfl) rfl rfl z3_2 ?_
   with_reducible refine (spec_RoundDiv.calls (wrap64 ((wrap64 ((wrap64 ((wrap64 ((wrap64 (4 - t125)) * (wrap64 (4 - t125)))) * a0_1)) + (wrap64 ((wrap64 ((wrap64 (2 * t125)) * (wrap64 (4 - t125)))) * a1_1)))) + (wrap64 ((wrap64 (t125 * t125)) * a2_1)))) 16 t127 _ A48.out).mono ?_
   rintro e w' ⟨rfl, ⟨nd, rfl⟩⟩
   refine ⟨_, rfl, ?_⟩
   refine hK.out _ _ ⟨(blk_cell BK118.out 0).trans rfl, (blk_cell BK118.out 1).trans rfl, (blk_cell BK119.out 0).trans rfl, (blk_cell BK119.out 1).trans rfl, (blk_cell BK120.out 0).trans rfl, (blk_cell BK120.out 1).trans rfl⟩ (fun hHeld => ?_)
   clear hK K
   refine norm_ (a' := ?_) ?_ ?_
   rotate_left
   ·show Act.put _ (some 71) _ = _
    simp only [Act.put, List.setIfInBounds_toArray, List.set_cons_zero, List.set_cons_succ, i64_w, i32_w]
    rfl
   refine pzv (i := 44) (N := 72) (v := ?_) (a' := ?_) (bA 46 35184372088831) HT_ ?_ ?_ ?_
   rotate_left
   ·intro w'
    go_simp; with_reducible rfl
   rotate_left
   ·exact x3_put
   refine one_ (i := 45) (N := none) (bA 46 70368744177663) rfl rfl (one_of HT_.out (by kernel_rfl)) (by decide) (fun K hK => ?_)
   have hs50 : w49.cell? ⟨gb121, 0, none⟩ = some (.int .i64 0) := (blk_cell BK121.out 0).trans rfl
   have hfs50 := blk_frozen BK121.out 0
   have hns50_0 := NB118_121.out; have hns50_1 := NB119_121.out; have hns50_2 := NB120_121.out; have hms50_0 := NB121_118.out; have hms50_1 := NB121_119.out; have hms50_2 := NB121_120.out
   have hs51 : w49.cell? ⟨gb121, 1, none⟩ = some (.int .i64 0) := (blk_cell BK121.out 1).trans rfl
   have hfs51 := blk_frozen BK121.out 1
   have hns51_0 := NB118_121.out; have hns51_1 := NB119_121.out; have hns51_2 := NB120_121.out; have hms51_0 := NB121_118.out; have hms51_1 := NB121_119.out; have hms51_2 := NB121_120.out
   refine skip_ (w1 := ?_) ?hwx ?hN ?_ ?_; (case hwx => rfl); (case hN => rfl)
   rotate_left
   ·go_simp
    rfl
   refine hK.out _ _ ⟨((cell_far (p := ⟨gb121, _, none⟩) NB118_121.out _).trans (((cell_far (p := ⟨gb121, _, none⟩) NB118_121.out _).trans (hHeld.1)))), ((cell_far (p := ⟨gb121, _, none⟩) NB118_121.out _).trans (((cell_far (p := ⟨gb121, _, none⟩) NB118_121.out _).trans (hHeld.2.1)))), ((cell_far (p := ⟨gb121, _, none⟩) NB119_121.out _).trans (((cell_far (p := ⟨gb121, _, none⟩) NB119_121.out _).trans (hHeld.2.2.1)))), ((cell_far (p := ⟨gb121, _, none⟩) NB119_121.out _).trans (((cell_far (p := ⟨gb121, _, none⟩) NB119_121.out _).trans (hHeld.2.2.2.1)))), ((cell_far (p := ⟨gb121, _, none⟩) NB120_121.out _).trans (((cell_far (p := ⟨gb121, _, none⟩) NB120_121.out _).trans (hHeld.2.2.2.2.1)))), ((cell_far (p := ⟨gb121, _, none⟩) NB120_121.out _).trans (((cell_far (p := ⟨gb121, _, none⟩) NB120_121.out _).trans (hHeld.2.2.2.2.2))))⟩ (fun hHeld => ?_)
   clear hK K
   refine done_ (done_of HT_.out (by kernel_rfl)) ?_
   try go_wp2
   refine bodyPost_ret (results_cell_row rfl _ _ gb121 46 #[.int .i64 t126, .int .i64 t127] (0, 0) _ rfl z3_7 Try.underlying46 rfl (by kernel_rfl)) rfl ?_
   exact ⟨(by first | rfl | (simp [errW_none, errW_some] <;> rfl) | (simp [*, errW_none, errW_some] <;> rfl)), z3_1⟩

end Go.Proofs.Ytdpnimngndemiaa.MFnFlats
