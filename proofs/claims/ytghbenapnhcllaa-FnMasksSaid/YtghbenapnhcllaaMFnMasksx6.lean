/- Functions of the program as Lean functions, and the proof that a call comes to just these: machine text of this session's own program (myprint.py). -/
import Derived.Test.YtghbenapnhcllaaMFnMasksx0
import Derived.Test.YtghbenapnhcllaaMFnMasksx4
import Derived.Test.YtghbenapnhcllaaMFnMasksx5
namespace Go.Proofs.Ytghbenapnhcllaa.MFnMasks
open Go.RowKit Go.Proofs.YtghbenapnhcllaaW.PrintWords Go.Proofs.YtghbenapnhcllaaW.PrintLast Go.Proofs.YtghbenapnhcllaaW.PrintMore
attribute [local go_sem] max2_int min2_int max_two min_two max_three min_three max_four min_four   -- for this text's walks alone
set_option linter.unusedVariables false
set_option linter.unusedSimpArgs false

theorem x6_put {P : Prop} (h : P := by simp only [Act.put, List.setIfInBounds_toArray, List.set_cons_zero, List.set_cons_succ, i64_w, i32_w]; rfl) : P := h
theorem z6_1 {P : Prop} (h : P := by repeat (first | (with_reducible first | exact HB.out | apply below_alloc | apply pw_below_drewN | apply below_drew1 | refine below_set ?_ GE121.out | refine below_set ?_ GE122.out | refine below_set ?_ GE123.out | refine below_set ?_ GE124.out) | exact HB.out)) : P := h
theorem z6_3 {P : Prop} (h : P := by repeat (first | (with_reducible first | exact HB.out | apply below_alloc | apply pw_below_drewN | apply below_drew1 | refine below_set ?_ GE121.out | refine below_set ?_ GE122.out | refine below_set ?_ GE123.out) | exact HB.out)) : P := h
theorem z6_4 {P : Prop} (h : P := by repeat (first | (with_reducible first | exact HB.out | apply below_alloc | apply pw_below_drewN | apply below_drew1 | refine below_set ?_ GE121.out | refine below_set ?_ GE122.out) | exact HB.out)) : P := h
theorem z6_5 {P : Prop} (h : P := by repeat (first | (with_reducible first | exact HB.out | apply below_alloc | apply pw_below_drewN | apply below_drew1 | refine below_set ?_ GE121.out) | exact HB.out)) : P := h
theorem z6_7 {P : Prop} (h : P := by apply blk_fin; (focus ((with_reducible repeat (first | apply blk_putQ | refine blk_drewN ?_ _ | refine blk_drew ?_ | refine blk_alloc ?_ _)); exact BK124.out)); first | (simp only [List.setIfInBounds_toArray, List.set_cons_zero, List.set_cons_succ]; done) | rfl) : P := h
/-! ### spec_QuadAt: function 53 -/
def spec_QuadAt.j0 : Nat → Int → Bool → Int → Int → Int → Int → Int → Int → Option (Int × Int)
 | 0, _, _, _, _, _, _, _, _ => none
 | k + 1, x3, x22, x122000, x122001, x123000, x123001, x124000, x124001 => if x22 = true then (some (0, 0)) else ((spec_Clamp.f x3 0 4).bind fun t128 => ((spec_RoundDiv.f (wrap64 ((wrap64 ((wrap64 ((wrap64 ((wrap64 (4 - t128)) * (wrap64 (4 - t128)))) * x122000)) + (wrap64 ((wrap64 ((wrap64 (2 * t128)) * (wrap64 (4 - t128)))) * x123000)))) + (wrap64 ((wrap64 (t128 * t128)) * x124000)))) 16).bind fun t129 => ((spec_RoundDiv.f (wrap64 ((wrap64 ((wrap64 ((wrap64 ((wrap64 (4 - t128)) * (wrap64 (4 - t128)))) * x122001)) + (wrap64 ((wrap64 ((wrap64 (2 * t128)) * (wrap64 (4 - t128)))) * x123001)))) + (wrap64 ((wrap64 (t128 * t128)) * x124001)))) 16).bind fun t130 => (some (t129, t130)))))
def spec_QuadAt.f (k : Nat) (a0_0 : Int) (a0_1 : Int) (a1_0 : Int) (a1_1 : Int) (a2_0 : Int) (a2_1 : Int) (a3 : Int) : Option (Int × Int) := (spec_PointOk.f a0_0 a0_1).bind fun t125 => (if t125 = true then ((spec_PointOk.f a1_0 a1_1).bind fun t126 => (if t126 = true then ((spec_PointOk.f a2_0 a2_1).bind fun t127 => (spec_QuadAt.j0 k a3 (!t127) a0_0 a0_1 a1_0 a1_1 a2_0 a2_1)) else (spec_QuadAt.j0 k a3 true a0_0 a0_1 a1_0 a1_1 a2_0 a2_1))) else (spec_QuadAt.j0 k a3 true a0_0 a0_1 a1_0 a1_1 a2_0 a2_1))
theorem spec_QuadAt.mono_l : ∀ k, (∀ y0 y1 y2 y3 y4 y5 y6 y7, LeO (spec_QuadAt.j0 k y0 y1 y2 y3 y4 y5 y6 y7) (spec_QuadAt.j0 (k + 1) y0 y1 y2 y3 y4 y5 y6 y7))
 | 0 => fun _ _ _ _ _ _ _ _ r h => by simp [spec_QuadAt.j0] at h
 | k + 1 => by
  have ih0 := spec_QuadAt.mono_l k
  ·intro y0 y1 y2 y3 y4 y5 y6 y7
   unfold spec_QuadAt.j0
   with_reducible repeat' first | apply ih0 | exact LeO.refl _ | exact LeO.none _ | refine LeO.ite ?_ ?_ | refine LeO.bind ?_ (fun _ => ?_)
theorem spec_QuadAt.mono : ∀ a0 a1 a2 a3 a4 a5 a6 k, LeO (spec_QuadAt.f k a0 a1 a2 a3 a4 a5 a6) (spec_QuadAt.f (k + 1) a0 a1 a2 a3 a4 a5 a6) := by
 intro a0 a1 a2 a3 a4 a5 a6 k; have ih0 := spec_QuadAt.mono_l k
 unfold spec_QuadAt.f
 with_reducible repeat' first | apply ih0 | exact LeO.refl _ | exact LeO.none _ | refine LeO.ite ?_ ?_ | refine LeO.bind ?_ (fun _ => ?_)
def spec_QuadAt.T5 : Bool × List (List Nat × List Nat) := (true, [([], []), ([], []), ([0, 1], [0, 1]), ([], []), ([3], [3]), ([2, 4], [2, 4]), ([], []), ([6], [6]), ([], []), ([7, 8], [7, 8]), ([], []), ([10], [10]), ([9, 11], [9, 11]), ([5, 12], [5, 12]), ([], []), ([], []), ([14, 15], [14, 15]), ([], []), ([17], [17]), ([16, 18], [16, 18]), ([13, 19], [13, 19]), ([20], [20]), ([], []), ([], []), ([22, 23], [22, 23]), ([], []), ([25], [25]), ([24, 26], [24, 26]), ([], []), ([28], [28]), ([], []), ([29, 30], [29, 30]), ([], []), ([32], [32]), ([31, 33], [31, 33]), ([27, 34], [27, 34]), ([], []), ([], []), ([36, 37], [36, 37]), ([], []), ([39], [39]), ([38, 40], [38, 40]), ([35, 41], [35, 41]), ([42, 21], [42]), ([21, 43], [21, 43]), ([44, 43, 0, 1, 2, 3, 4, 5, 6, 7, 8, 9, 10, 11, 12, 13, 14, 15, 16, 17, 18, 19, 20, 21, 22, 23, 24, 25, 26, 27, 28, 29, 30, 31, 32, 33, 34, 35, 36, 37, 38, 39, 40, 41, 42, 43, 44], [44])])
def spec_QuadAt.B5 : List Nat := [0, 0, 3, 0, 8, 31, 0, 64, 0, 448, 0, 1024, 4032, 8191, 0, 0, 49152, 0, 131072, 507904, 1048575, 2097151, 0, 0, 12582912, 0, 33554432, 130023424, 0, 268435456, 0, 1879048192, 0, 4294967296, 16911433728, 34355544064, 0, 0, 206158430208, 0, 549755813888, 2130303778816, 4398042316800, 8796093022207, 17592186044415, 35184372088831]
theorem spec_QuadAt.tab5 : rtab .any (opsOf Try.f53 5) = spec_QuadAt.T5 := by kernel_rfl
theorem spec_QuadAt.bits5 : waitsOk spec_QuadAt.T5.2 spec_QuadAt.B5 = true := by kernel_rfl
set_option maxHeartbeats 8000000 in
set_option maxRecDepth 100000 in
theorem spec_QuadAt.calls (k : Nat) (a0_0 : Int) (a0_1 : Int) (a1_0 : Int) (a1_1 : Int) (a2_0 : Int) (a2_1 : Int) (a3 : Int) (r1 : Int) (r2 : Int) (w : World) (h : spec_QuadAt.f k a0_0 a0_1 a1_0 a1_1 a2_0 a2_1 a3 = some (r1, r2)) :
  Calls Try.prog 53 #[.agg #[.int .i64 a0_0, .int .i64 a0_1], .agg #[.int .i64 a1_0, .int .i64 a1_1], .agg #[.int .i64 a2_0, .int .i64 a2_1], .int .i64 a3] w fun e w' => e = .returned (.agg #[.int .i64 r1, .int .i64 r2]) ∧ Below w.heap.size w w' := by
 have hu52 := Try.underlying52; have HB := mk0 (Below.refl w.heap.size w)
 have H := h; unfold spec_QuadAt.f at H
 clear h; have HC5 := mk0 H; clear H; go_enter Try.func53, Try.ntmps53
 go_upto_region 1 with (first | ((with_reducible refine gate_dst (N := 4) rfl ?_); refine boxz (cs := #[.int .i64 a0_0, .int .i64 a0_1]) (t := 52) rfl ?_; intro gb121 hg w6 hbox hb; have GW121 := mk0 (ge_go (a := w.heap.size) hg (below_size q_149)); have GE121 := GW121; replace HB := bS q_149 hb; have BK121 := mk0 (hbox); clear hb hbox hg) | ((with_reducible refine gate_dst (N := 5) rfl ?_); refine boxz (cs := #[.int .i64 a1_0, .int .i64 a1_1]) (t := 52) rfl ?_; intro gb122 hg w7 hbox hb; have GW122 := mk0 (ge_go (a := w.heap.size) hg (below_size z6_5)); have GE122 := GW122; have NB121_122 := mk0 (nb_lt hg (blk_ltB BK121 (pkb BK121))); have NB122_121 := mk0 (nb_gt hg (blk_ltB BK121 (pkb BK121))); replace BK121 := bB BK121 hb; replace HB := bS z6_5 hb; have BK122 := mk0 (hbox); clear hb hbox hg) | ((with_reducible refine gate_dst (N := 6) rfl ?_); refine boxz (cs := #[.int .i64 a2_0, .int .i64 a2_1]) (t := 52) rfl ?_; intro gb123 hg w8 hbox hb; have GW123 := mk0 (ge_go (a := w.heap.size) hg (below_size z6_4)); have GE123 := GW123; have NB121_123 := mk0 (nb_lt hg (blk_ltB BK121 (pkb BK121))); have NB123_121 := mk0 (nb_gt hg (blk_ltB BK121 (pkb BK121))); have NB122_123 := mk0 (nb_lt hg (blk_ltB BK122 (pkb BK122))); have NB123_122 := mk0 (nb_gt hg (blk_ltB BK122 (pkb BK122))); replace BK121 := bB BK121 hb; replace BK122 := bB BK122 hb; replace HB := bS z6_4 hb; have BK123 := mk0 (hbox); clear hb hbox hg) | ((with_reducible refine gate_dst (N := 8) rfl ?_); refine boxz (cs := #[.int .i64 0, .int .i64 0]) (t := 52) rfl ?_; intro gb124 hg w9 hbox hb; have GW124 := mk0 (ge_go (a := w.heap.size) hg (below_size z6_3)); have GE124 := GW124; have NB121_124 := mk0 (nb_lt hg (blk_ltB BK121 (pkb BK121))); have NB124_121 := mk0 (nb_gt hg (blk_ltB BK121 (pkb BK121))); have NB122_124 := mk0 (nb_lt hg (blk_ltB BK122 (pkb BK122))); have NB124_122 := mk0 (nb_gt hg (blk_ltB BK122 (pkb BK122))); have NB123_124 := mk0 (nb_lt hg (blk_ltB BK123 (pkb BK123))); have NB124_123 := mk0 (nb_gt hg (blk_ltB BK123 (pkb BK123))); replace BK121 := bB BK121 hb; replace BK122 := bB BK122 hb; replace BK123 := bB BK123 hb; replace HB := bS z6_3 hb; have BK124 := mk0 (hbox); clear hb hbox hg))
 (try simp only [Act.put, List.setIfInBounds_toArray, List.set_cons_zero, List.set_cons_succ])
 go_cut [22] (fun v22 wc => ∃ (kq : Nat) (x22_4 : Bool), v22 = .bool x22_4 ∧ Aside0 (spec_QuadAt.j0 kq a3 x22_4 a0_0 a0_1 a1_0 a1_1 a2_0 a2_1 = some (r1, r2)) ∧ Aside0 (kq ≤ k) ∧ Aside0 (wc.heap[gb121]? = some (.cells #[.int .i64 a0_0, .int .i64 a0_1] 52 (0, 0))) ∧ Aside0 (wc.heap[gb122]? = some (.cells #[.int .i64 a1_0, .int .i64 a1_1] 52 (0, 0))) ∧ Aside0 (wc.heap[gb123]? = some (.cells #[.int .i64 a2_0, .int .i64 a2_1] 52 (0, 0))) ∧ Aside0 (wc.heap[gb124]? = some (.cells #[.int .i64 0, .int .i64 0] 52 (0, 0))) ∧ Aside0 (Below w.heap.size w wc))
 case first =>
  have H := HC5.out; clear HC5; obtain ⟨t125, A10, H⟩ := bnd H
  try dsimp only at H
  by_cases c11 : t125 = true
  rotate_left
  ·replace c11 := Bool.eq_false_iff.mpr c11; subst c11; rw [if_neg (show ¬ (false = true) by decide)] at H
   have H' := mk0 H
   clear H; have hnb36 := NB121_122.out; have hnc36 := NB122_121.out; have hnb37 := NB121_123.out; have hnc37 := NB123_121.out; have hnb38 := NB121_124.out; have hnc38 := NB124_121.out; obtain ⟨_, _, _, _⟩ := be_2 BK121.out
   go_wp2_with (first | ((with_reducible refine gate_callee (f := 117) rfl ?_); refine gl_ (some 11) Try.func117 #[.agg #[.int .i64 a0_0, .int .i64 a0_1]] rfl q_0 ?_; (with_reducible refine (spec_PointOk.calls a0_0 a0_1 false _ A10.out).mono ?_); rintro e w40 ⟨rfl, hb⟩; refine ⟨_, rfl, ?_⟩; replace BK121 := bB BK121 hb; replace BK122 := bB BK122 hb; replace BK123 := bB BK123 hb; replace BK124 := bB BK124 hb; replace HB := bS z6_1 hb; clear hb))
   go_meet
   case rel => exact ⟨_, (true), rs0, H', ⟨(by first | omega | exact Nat.le_refl _)⟩, ⟨pkb BK121⟩, ⟨pkb BK122⟩, ⟨pkb BK123⟩, ⟨pkb BK124⟩, ⟨z6_1⟩⟩
  subst c11; rw [if_pos rfl] at H; obtain ⟨t126, A12, H⟩ := bnd H
  try dsimp only at H
  by_cases c13 : t126 = true
  rotate_left
  ·replace c13 := Bool.eq_false_iff.mpr c13; subst c13; rw [if_neg (show ¬ (false = true) by decide)] at H
   have H' := mk0 H
   clear H; have hnb27 := NB121_122.out; have hnc27 := NB122_121.out; have hnb28 := NB121_123.out; have hnc28 := NB123_121.out; have hnb29 := NB121_124.out; have hnc29 := NB124_121.out; obtain ⟨_, _, _, _⟩ := be_2 BK121.out
   go_wp2_with (first | ((with_reducible refine gate_callee (f := 117) rfl ?_); refine gl_ (some 11) Try.func117 #[.agg #[.int .i64 a0_0, .int .i64 a0_1]] rfl q_0 ?_; (with_reducible refine (spec_PointOk.calls a0_0 a0_1 true _ A10.out).mono ?_); rintro e w31 ⟨rfl, hb⟩; refine ⟨_, rfl, ?_⟩; replace BK121 := bB BK121 hb; replace BK122 := bB BK122 hb; replace BK123 := bB BK123 hb; replace BK124 := bB BK124 hb; replace HB := bS z6_1 hb; clear hb; have hnb32 := NB122_123.out; have hnc32 := NB123_122.out; have hnb33 := NB122_124.out; have hnc33 := NB124_122.out; obtain ⟨_, _, _, _⟩ := be_2 BK122.out) | (go_at_call 117; (with_reducible refine (spec_PointOk.calls a1_0 a1_1 false _ A12.out).mono ?_); rintro e w35 ⟨rfl, hb⟩; replace BK121 := bB BK121 hb; replace BK122 := bB BK122 hb; replace BK123 := bB BK123 hb; replace BK124 := bB BK124 hb; replace HB := bS z6_1 hb; clear hb))
   go_meet
   case rel => exact ⟨_, (true), rs0, H', ⟨(by first | omega | exact Nat.le_refl _)⟩, ⟨pkb BK121⟩, ⟨pkb BK122⟩, ⟨pkb BK123⟩, ⟨pkb BK124⟩, ⟨z6_1⟩⟩
  subst c13; rw [if_pos rfl] at H; obtain ⟨t127, A14, H⟩ := bnd H
  try dsimp only at H
  have H' := mk0 H
  clear H; have hnb15 := NB121_122.out; have hnc15 := NB122_121.out; have hnb16 := NB121_123.out; have hnc16 := NB123_121.out; have hnb17 := NB121_124.out; have hnc17 := NB124_121.out; obtain ⟨_, _, _, _⟩ := be_2 BK121.out
  go_wp2_with (first | ((with_reducible refine gate_callee (f := 117) rfl ?_); refine gl_ (some 11) Try.func117 #[.agg #[.int .i64 a0_0, .int .i64 a0_1]] rfl q_0 ?_; (with_reducible refine (spec_PointOk.calls a0_0 a0_1 true _ A10.out).mono ?_); rintro e w19 ⟨rfl, hb⟩; refine ⟨_, rfl, ?_⟩; replace BK121 := bB BK121 hb; replace BK122 := bB BK122 hb; replace BK123 := bB BK123 hb; replace BK124 := bB BK124 hb; replace HB := bS z6_1 hb; clear hb; have hnb20 := NB122_123.out; have hnc20 := NB123_122.out; have hnb21 := NB122_124.out; have hnc21 := NB124_122.out; obtain ⟨_, _, _, _⟩ := be_2 BK122.out) | (go_at_call 117; (with_reducible refine (spec_PointOk.calls a1_0 a1_1 true _ A12.out).mono ?_); rintro e w23 ⟨rfl, hb⟩; replace BK121 := bB BK121 hb; replace BK122 := bB BK122 hb; replace BK123 := bB BK123 hb; replace BK124 := bB BK124 hb; replace HB := bS z6_1 hb; clear hb; have hnb24 := NB123_124.out; have hnc24 := NB124_123.out; obtain ⟨_, _, _, _⟩ := be_2 BK123.out) | (go_at_call 117; (with_reducible refine (spec_PointOk.calls a2_0 a2_1 t127 _ A14.out).mono ?_); rintro e w26 ⟨rfl, hb⟩; replace BK121 := bB BK121 hb; replace BK122 := bB BK122 hb; replace BK123 := bB BK123 hb; replace BK124 := bB BK124 hb; replace HB := bS z6_1 hb; clear hb))
  go_meet
  case rel => exact ⟨_, (!t127), rs0, H', ⟨(by first | omega | exact Nat.le_refl _)⟩, ⟨pkb BK121⟩, ⟨pkb BK122⟩, ⟨pkb BK123⟩, ⟨pkb BK124⟩, ⟨z6_1⟩⟩
 case rest =>
  clear HC5; try clear c1
  obtain ⟨kq, x22_4, rfl, HA, HJ4, BK121, BK122, BK123, BK124, HB⟩ := hcut
  cases kq with
  | zero => exact absurd HA.out (by simp [spec_QuadAt.j0])
  | succ kj4 =>
   have H := HA.out; clear HA; simp only [spec_QuadAt.j0] at H
   by_cases c41 : x22_4 = true
   ·subst c41; rw [if_pos rfl] at H; simp only [Option.some.injEq, Prod.mk.injEq] at H; obtain ⟨rfl, rfl⟩ := H; have hnb42 := NB124_121.out; have hnc42 := NB121_124.out; have hnb43 := NB124_122.out; have hnc43 := NB122_124.out; have hnb44 := NB124_123.out; have hnc44 := NB123_124.out; obtain ⟨_, _, _, _⟩ := be_2 BK124.out
    go_wp2
    refine bodyPost_ret (results_cell_row rfl _ _ gb124 52 #[.int .i64 0, .int .i64 0] (0, 0) _ rfl z6_7 Try.underlying52 rfl (by kernel_rfl)) rfl ?_
    exact ⟨(by first | rfl | (simp [errW_none, errW_some] <;> rfl) | (simp [*, errW_none, errW_some] <;> rfl)), z6_1⟩
   replace c41 := Bool.eq_false_iff.mpr c41; subst c41; rw [if_neg (show ¬ (false = true) by decide)] at H
   obtain ⟨t128, A46, H⟩ := bnd H
   try dsimp only at H
   obtain ⟨t129, A47, H⟩ := bnd H
   try dsimp only at H
   obtain ⟨t130, A48, H⟩ := bnd H
   try dsimp only at H
   simp only [Option.some.injEq, Prod.mk.injEq] at H; obtain ⟨rfl, rfl⟩ := H
   try go_wp2_with (first | ((with_reducible refine gate_callee (f := 118) rfl ?_); refine gl_ (some 25) Try.func118 #[.int .i64 a3, .int .i64 0, .int .i64 4] rfl q_0 ?_; (with_reducible refine (spec_Clamp.calls a3 0 4 t128 _ A46.out).mono ?_); rintro e w' ⟨rfl, ⟨nd, rfl⟩⟩; refine ⟨_, rfl, ?_⟩; (try (rw [drewN_self wc]; generalize hq_ : World.drewN wc _ = wc; have n0_ : Aside0 (wc.heap[gb121]? = some (.cells #[.int .i64 a0_0, .int .i64 a0_1] 52 (0, 0))) := ⟨(by rw [← hq_]; exact (pkb BK121))⟩; have n1_ : Aside0 (wc.heap[gb122]? = some (.cells #[.int .i64 a1_0, .int .i64 a1_1] 52 (0, 0))) := ⟨(by rw [← hq_]; exact (pkb BK122))⟩; have n2_ : Aside0 (wc.heap[gb123]? = some (.cells #[.int .i64 a2_0, .int .i64 a2_1] 52 (0, 0))) := ⟨(by rw [← hq_]; exact (pkb BK123))⟩; have n3_ : Aside0 (wc.heap[gb124]? = some (.cells #[.int .i64 0, .int .i64 0] 52 (0, 0))) := ⟨(by rw [← hq_]; exact (pkb BK124))⟩; have n4_ : Aside0 (Below w.heap.size w wc) := ⟨(by rw [← hq_]; exact z6_1)⟩; clear BK121 BK122 BK123 BK124 HB hq_; have BK121 := n0_; have BK122 := n1_; have BK123 := n2_; have BK124 := n3_; have HB := n4_; clear n0_ n1_ n2_ n3_ n4_))))
   replace BK121 := mk0 (blk_drew BK121.out); replace BK122 := mk0 (blk_drew BK122.out); replace BK123 := mk0 (blk_drew BK123.out); replace BK124 := mk0 (blk_drew BK124.out); replace HB := mk0 (below_drew1 HB.out)
   refine start_ (n := 46) (S := fun w' => w'.cell? ⟨gb121, 0, none⟩ = some (.int .i64 a0_0) ∧ w'.cell? ⟨gb121, 1, none⟩ = some (.int .i64 a0_1) ∧ w'.cell? ⟨gb122, 0, none⟩ = some (.int .i64 a1_0) ∧ w'.cell? ⟨gb122, 1, none⟩ = some (.int .i64 a1_1) ∧ w'.cell? ⟨gb123, 0, none⟩ = some (.int .i64 a2_0) ∧ w'.cell? ⟨gb123, 1, none⟩ = some (.int .i64 a2_1)) (ds := []) #[false, false, false, false, false, false, false, false, false, false, false, false, false, false, false, false, false, false, false, false, false, false, false, false, false, false, false, false, false, false, false, false, false, false, false, false, false, false, false, false, false, false, false, false, false, false] (by kernel_rfl) rfl rfl ⟨(blk_cell BK121.out 0).trans rfl, (blk_cell BK121.out 1).trans rfl, (blk_cell BK122.out 0).trans rfl, (blk_cell BK122.out 1).trans rfl, (blk_cell BK123.out 0).trans rfl, (blk_cell BK123.out 1).trans rfl⟩ (fun hHeld => ?_); refine with_tabW spec_QuadAt.tab5 spec_QuadAt.bits5 (fun HT_ HW_ => ?_)
   generalize wc.drew = w49 at BK121 BK122 BK123 BK124 HB hHeld ⊢
   refine pzx (i := 0) (N := 28) (bA 46 1) HT_ ?_; refine pzx (i := 1) (N := 29) (bA 46 3) HT_ ?_; refine pzx (i := 2) (N := 30) (bA 46 7) HT_ ?_; refine pzx (i := 3) (N := 31) (bA 46 15) HT_ ?_; refine pzx (i := 6) (N := 34) (bA 46 79) HT_ ?_; refine pzx (i := 7) (N := 35) (bA 46 207) HT_ ?_; refine pzx (i := 8) (N := 36) (bA 46 463) HT_ ?_; refine pzx (i := 9) (N := 37) (bA 46 975) HT_ ?_; refine pzx (i := 10) (N := 38) (bA 46 1999) HT_ ?_; refine pzx (i := 14) (N := 42) (bA 46 18383) HT_ ?_; refine pzx (i := 15) (N := 43) (bA 46 51151) HT_ ?_; refine pzx (i := 16) (N := 44) (bA 46 116687) HT_ ?_; refine pzx (i := 17) (N := 45) (bA 46 247759) HT_ ?_; refine pzx (i := 22) (N := 50) (bA 46 4442063) HT_ ?_; refine pzx (i := 23) (N := 51) (bA 46 12830671) HT_ ?_; refine pzx (i := 24) (N := 52) (bA 46 29607887) HT_ ?_; refine pzx (i := 25) (N := 53) (bA 46 63162319) HT_ ?_; refine pzx (i := 28) (N := 56) (bA 46 331597775) HT_ ?_; refine pzx (i := 29) (N := 57) (bA 46 868468687) HT_ ?_; refine pzx (i := 30) (N := 58) (bA 46 1942210511) HT_ ?_; refine pzx (i := 31) (N := 59) (bA 46 4089694159) HT_ ?_; refine pzx (i := 32) (N := 60) (bA 46 8384661455) HT_ ?_; refine pzx (i := 36) (N := 64) (bA 46 77104138191) HT_ ?_; refine pzx (i := 37) (N := 65) (bA 46 214543091663) HT_ ?_; refine pzx (i := 38) (N := 66) (bA 46 489420998607) HT_ ?_; refine pzx (i := 39) (N := 67) (bA 46 1039176812495) HT_ ?_
   refine take_ (i := 4) (N := some 32) (v := ?_) (a' := ?_) (bA 46 1039176812511) rfl rfl (take_ofW HT_.out HW_.out (by kernel_rfl)) (fun _ _ _ h => h) (Or.inl ⟨by rfl, ?_⟩) hHeld ?_ ?_
   rotate_left
   ·rintro w' ⟨s0, s1, s2, s3, s4, s5⟩
    go_simp; with_reducible rfl
   rotate_left
   ·exact x6_put
   refine pzx (i := 5) (N := 33) (bA 46 1039176812543) HT_ ?_
   refine take_ (i := 11) (N := some 39) (v := ?_) (a' := ?_) (bA 46 1039176814591) rfl rfl (take_ofW HT_.out HW_.out (by kernel_rfl)) (fun _ _ _ h => h) (Or.inl ⟨by rfl, ?_⟩) hHeld ?_ ?_
   rotate_left
   ·rintro w' ⟨s0, s1, s2, s3, s4, s5⟩
    go_simp; with_reducible rfl
   rotate_left
   ·exact x6_put
   refine pzx (i := 12) (N := 40) (bA 46 1039176818687) HT_ ?_; refine pzx (i := 13) (N := 41) (bA 46 1039176826879) HT_ ?_
   refine take_ (i := 18) (N := some 46) (v := ?_) (a' := ?_) (bA 46 1039177089023) rfl rfl (take_ofW HT_.out HW_.out (by kernel_rfl)) (fun _ _ _ h => h) (Or.inl ⟨by rfl, ?_⟩) hHeld ?_ ?_
   rotate_left
   ·rintro w' ⟨s0, s1, s2, s3, s4, s5⟩
    go_simp; with_reducible rfl
   rotate_left
   ·exact x6_put
   refine pzx (i := 19) (N := 47) (bA 46 1039177613311) HT_ ?_; refine pzx (i := 20) (N := 48) (bA 46 1039178661887) HT_ ?_
   refine take_ (i := 26) (N := some 54) (v := ?_) (a' := ?_) (bA 46 1039245770751) rfl rfl (take_ofW HT_.out HW_.out (by kernel_rfl)) (fun _ _ _ h => h) (Or.inl ⟨by rfl, ?_⟩) hHeld ?_ ?_
   rotate_left
   ·rintro w' ⟨s0, s1, s2, s3, s4, s5⟩
    go_simp; with_reducible rfl
   rotate_left
   ·exact x6_put
   refine pzx (i := 27) (N := 55) (bA 46 1039379988479) HT_ ?_
   refine take_ (i := 33) (N := some 61) (v := ?_) (a' := ?_) (bA 46 1047969923071) rfl rfl (take_ofW HT_.out HW_.out (by kernel_rfl)) (fun _ _ _ h => h) (Or.inl ⟨by rfl, ?_⟩) hHeld ?_ ?_
   rotate_left
   ·rintro w' ⟨s0, s1, s2, s3, s4, s5⟩
    go_simp; with_reducible rfl
   rotate_left
   ·exact x6_put
   refine pzx (i := 34) (N := 62) (bA 46 1065149792255) HT_ ?_; refine pzx (i := 35) (N := 63) (bA 46 1099509530623) HT_ ?_
   refine take_ (i := 40) (N := some 68) (v := ?_) (a' := ?_) (bA 46 2199021158399) rfl rfl (take_ofW HT_.out HW_.out (by kernel_rfl)) (fun _ _ _ h => h) (Or.inl ⟨by rfl, ?_⟩) hHeld ?_ ?_
   rotate_left
   ·rintro w' ⟨s0, s1, s2, s3, s4, s5⟩
    go_simp; with_reducible rfl
   rotate_left
   ·exact x6_put
   refine pzx (i := 41) (N := 69) (bA 46 4398044413951) HT_ ?_; refine pzx (i := 42) (N := 70) (bA 46 8796090925055) HT_ ?_
   refine one_ (i := 21) (N := some 49) (bA 46 8796093022207) rfl rfl (one_of HT_.out (by kernel_rfl)) (by decide) (fun K hK => ?_)
   refine goes_ Try.func119 (by kernel_rfl) rfl #[.int .i64 (wrap64 ((wrap64 ((wrap64 ((wrap64 ((wrap64 (4 - t128)) * (wrap64 (4 - t128)))) * a0_0)) + (wrap64 ((wrap64 ((wrap64 (2 * t128)) * (wrap64 (4 - t128)))) * a1_0)))) + (wrap64 ((wrap64 (t128 * t128)) * a2_0)))), .int .i64 16] (by rfl) rfl rfl q_0 ?_
   with_reducible refine (spec_RoundDiv.calls (wrap64 ((wrap64 ((wrap64 ((wrap64 ((wrap64 (4 - t128)) * (wrap64 (4 - t128)))) * a0_0)) + (wrap64 ((wrap64 ((wrap64 (2 * t128)) * (wrap64 (4 - t128)))) * a1_0)))) + (wrap64 ((wrap64 (t128 * t128)) * a2_0)))) 16 t129 _ A47.out).mono ?_
   rintro e w' ⟨rfl, ⟨nd, rfl⟩⟩
   refine ⟨_, rfl, ?_⟩
   refine hK.out _ _ ⟨(blk_cell BK121.out 0).trans rfl, (blk_cell BK121.out 1).trans rfl, (blk_cell BK122.out 0).trans rfl, (blk_cell BK122.out 1).trans rfl, (blk_cell BK123.out 0).trans rfl, (blk_cell BK123.out 1).trans rfl⟩ (fun hHeld => ?_); clear hK K
   refine norm_ (a' := ?_) ?_ ?_
   rotate_left
   ·show Act.put _ (some 49) _ = _
    simp only [Act.put, List.setIfInBounds_toArray, List.set_cons_zero, List.set_cons_succ, i64_w, i32_w]
    rfl
   refine one_ (i := 43) (N := some 71) (bA 46 17592186044415) rfl rfl (one_of HT_.out (by kernel_rfl)) (by decide) (fun K hK => ?_)
   refine goes_ Try.func119 (by kernel_rfl) rfl #[.int .i64 (wrap64 ((wrap64 ((wrap64 ((wrap64 ((wrap64 (4 - t128)) * (wrap64 (4 - t128)))) * a0_1)) + (wrap64 ((wrap64 ((wrap64 (2 * t128)) * (wrap64 (4 - t128)))) * a1_1)))) + (wrap64 ((wrap64 (t128 * t128)) * a2_1)))), .int .i64 16] (by rfl) rfl rfl q_0 ?_
   with_reducible refine (spec_RoundDiv.calls (wrap64 ((wrap64 ((wrap64 ((wrap64 ((wrap64 (4 - t128)) * (wrap64 (4 - t128)))) * a0_1)) + (wrap64 ((wrap64 ((wrap64 (2 * t128)) * (wrap64 (4 - t128)))) * a1_1)))) + (wrap64 ((wrap64 (t128 * t128)) * a2_1)))) 16 t130 _ A48.out).mono ?_
   rintro e w' ⟨rfl, ⟨nd, rfl⟩⟩
   refine ⟨_, rfl, ?_⟩
   refine hK.out _ _ ⟨(blk_cell BK121.out 0).trans rfl, (blk_cell BK121.out 1).trans rfl, (blk_cell BK122.out 0).trans rfl, (blk_cell BK122.out 1).trans rfl, (blk_cell BK123.out 0).trans rfl, (blk_cell BK123.out 1).trans rfl⟩ (fun hHeld => ?_); clear hK K
   refine norm_ (a' := ?_) ?_ ?_
   rotate_left
   ·show Act.put _ (some 71) _ = _
    simp only [Act.put, List.setIfInBounds_toArray, List.set_cons_zero, List.set_cons_succ, i64_w, i32_w]
    rfl
   refine pzx (i := 44) (N := 72) (bA 46 35184372088831) HT_ ?_
   refine one_ (i := 45) (N := none) (bA 46 70368744177663) rfl rfl (one_of HT_.out (by kernel_rfl)) (by decide) (fun K hK => ?_)
   have hs50 : w49.cell? ⟨gb124, 0, none⟩ = some (.int .i64 0) := (blk_cell BK124.out 0).trans rfl
   have hfs50 := blk_frozen BK124.out 0; have hns50_0 := NB121_124.out; have hns50_1 := NB122_124.out; have hns50_2 := NB123_124.out; have hms50_0 := NB124_121.out; have hms50_1 := NB124_122.out; have hms50_2 := NB124_123.out
   have hs51 : w49.cell? ⟨gb124, 1, none⟩ = some (.int .i64 0) := (blk_cell BK124.out 1).trans rfl
   have hfs51 := blk_frozen BK124.out 1; have hns51_0 := NB121_124.out; have hns51_1 := NB122_124.out; have hns51_2 := NB123_124.out; have hms51_0 := NB124_121.out; have hms51_1 := NB124_122.out; have hms51_2 := NB124_123.out
   refine skip_ (w1 := ?_) ?hwx ?hN ?_ ?_; (case hwx => rfl); (case hN => rfl)
   rotate_left
   ·go_simp
    rfl
   refine hK.out _ _ ⟨((cell_far (p := ⟨gb124, _, none⟩) NB121_124.out _).trans (((cell_far (p := ⟨gb124, _, none⟩) NB121_124.out _).trans (hHeld.1)))), ((cell_far (p := ⟨gb124, _, none⟩) NB121_124.out _).trans (((cell_far (p := ⟨gb124, _, none⟩) NB121_124.out _).trans (hHeld.2.1)))), ((cell_far (p := ⟨gb124, _, none⟩) NB122_124.out _).trans (((cell_far (p := ⟨gb124, _, none⟩) NB122_124.out _).trans (hHeld.2.2.1)))), ((cell_far (p := ⟨gb124, _, none⟩) NB122_124.out _).trans (((cell_far (p := ⟨gb124, _, none⟩) NB122_124.out _).trans (hHeld.2.2.2.1)))), ((cell_far (p := ⟨gb124, _, none⟩) NB123_124.out _).trans (((cell_far (p := ⟨gb124, _, none⟩) NB123_124.out _).trans (hHeld.2.2.2.2.1)))), ((cell_far (p := ⟨gb124, _, none⟩) NB123_124.out _).trans (((cell_far (p := ⟨gb124, _, none⟩) NB123_124.out _).trans (hHeld.2.2.2.2.2))))⟩ (fun hHeld => ?_); clear hK K
   refine done_ (done_of HT_.out (by kernel_rfl)) ?_
   try go_wp2
   refine bodyPost_ret (results_cell_row rfl _ _ gb124 52 #[.int .i64 t129, .int .i64 t130] (0, 0) _ rfl z6_7 Try.underlying52 rfl (by kernel_rfl)) rfl ?_
   exact ⟨(by first | rfl | (simp [errW_none, errW_some] <;> rfl) | (simp [*, errW_none, errW_some] <;> rfl)), z6_1⟩

end Go.Proofs.Ytghbenapnhcllaa.MFnMasks
