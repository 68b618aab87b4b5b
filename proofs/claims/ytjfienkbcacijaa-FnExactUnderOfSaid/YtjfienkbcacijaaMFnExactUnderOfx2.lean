/- Functions of the program as Lean functions, and the proof that a call comes to just these: machine text of this session's own program (myprint.py). -/
import Derived.Test.YtjfienkbcacijaaMFnExactUnderOfx0
import Derived.Test.YtjfienkbcacijaaMFnExactUnderOfx1
namespace Go.Proofs.Ytjfienkbcacijaa.MFnExactUnderOf
open Go.RowKit Go.Proofs.YtjfienkbcacijaaW.PrintWords Go.Proofs.YtjfienkbcacijaaW.PrintLast Go.Proofs.YtjfienkbcacijaaW.PrintMore
attribute [local go_sem] max2_int min2_int max_two min_two max_three min_three max_four min_four   -- for this text's walks alone
set_option linter.unusedVariables false
set_option linter.unusedSimpArgs false

theorem z2_0 {P : Prop} (h : P := by repeat (first | (with_reducible first | exact HB.out | apply below_alloc | apply pw_below_drewN | apply below_drew1) | exact HB.out)) : P := h
theorem z2_1 {P : Prop} (h : P := by repeat (first | (with_reducible first | exact HB.out | apply below_alloc | apply pw_below_drewN | apply below_drew1 | refine below_set ?_ GE133.out | refine below_set ?_ GE134.out | refine below_set ?_ GE135.out) | exact HB.out)) : P := h
theorem z2_2 {P : Prop} (h : P := by apply blk_fin; (focus ((with_reducible repeat (first | apply blk_putQ | refine blk_drewN ?_ _ | refine blk_drew ?_ | refine blk_alloc ?_ _)); exact BK147.out)); first | (simp only [List.setIfInBounds_toArray, List.set_cons_zero, List.set_cons_succ]; done) | rfl) : P := h
theorem z2_3 {P : Prop} (h : P := by repeat (first | (with_reducible first | exact HB.out | apply below_alloc | apply pw_below_drewN | apply below_drew1 | refine below_set ?_ GE145.out | refine below_set ?_ GE146.out | refine below_set ?_ GE147.out) | exact HB.out)) : P := h
theorem z2_4 {P : Prop} (h : P := by (try simp only [List.map_toArray, List.map_cons, List.map_nil]); first | done | rfl | (simp only [List.length_drop, List.length_take]; rfl)) : P := h
theorem z2_5 {P : Prop} (h : P := by (with_reducible repeat (first | refine blk_drewN ?_ _ | refine blk_drew ?_ | refine blk_alloc ?_ _)); refine blk_far ?_ NB145_147.out _; (with_reducible repeat (first | refine blk_drewN ?_ _ | refine blk_drew ?_ | refine blk_alloc ?_ _)); refine blk_far ?_ NB145_147.out _; (with_reducible repeat (first | refine blk_drewN ?_ _ | refine blk_drew ?_ | refine blk_alloc ?_ _)); refine blk_far ?_ NB145_147.out _; (with_reducible repeat (first | refine blk_drewN ?_ _ | refine blk_drew ?_ | refine blk_alloc ?_ _)); refine blk_far ?_ NB145_147.out _; (with_reducible repeat (first | refine blk_drewN ?_ _ | refine blk_drew ?_ | refine blk_alloc ?_ _)); exact BK145.out) : P := h
theorem z2_6 {P : Prop} (h : P := by (with_reducible repeat (first | refine blk_drewN ?_ _ | refine blk_drew ?_ | refine blk_alloc ?_ _)); refine blk_far ?_ NB146_147.out _; (with_reducible repeat (first | refine blk_drewN ?_ _ | refine blk_drew ?_ | refine blk_alloc ?_ _)); refine blk_far ?_ NB146_147.out _; (with_reducible repeat (first | refine blk_drewN ?_ _ | refine blk_drew ?_ | refine blk_alloc ?_ _)); refine blk_far ?_ NB146_147.out _; (with_reducible repeat (first | refine blk_drewN ?_ _ | refine blk_drew ?_ | refine blk_alloc ?_ _)); refine blk_far ?_ NB146_147.out _; (with_reducible repeat (first | refine blk_drewN ?_ _ | refine blk_drew ?_ | refine blk_alloc ?_ _)); exact BK146.out) : P := h
theorem z2_7 {P : Prop} (h : P := by first | rfl | (simp [errW_none, errW_some] <;> rfl) | (simp [*, errW_none, errW_some] <;> rfl)) : P := h
theorem z2_8 {P : Prop} (h : P := by repeat (first | (with_reducible first | exact HB.out | apply below_alloc | apply pw_below_drewN | apply below_drew1 | refine below_set ?_ GE120.out | refine below_set ?_ GE121.out) | exact HB.out)) : P := h
theorem z2_9 {P : Prop} (h : P := by repeat (first | (with_reducible first | exact HB.out | apply below_alloc | apply pw_below_drewN | apply below_drew1 | refine below_set ?_ GE123.out | refine below_set ?_ GE124.out) | exact HB.out)) : P := h
theorem z2_10 {P : Prop} (h : P := by repeat (first | (with_reducible first | exact HB.out | apply below_alloc | apply pw_below_drewN | apply below_drew1 | refine below_set ?_ GE133.out | refine below_set ?_ GE134.out) | exact HB.out)) : P := h
theorem z2_11 {P : Prop} (h : P := by repeat (first | (with_reducible first | exact HB.out | apply below_alloc | apply pw_below_drewN | apply below_drew1 | refine below_set ?_ GE142.out | refine below_set ?_ GE143.out) | exact HB.out)) : P := h
theorem z2_12 {P : Prop} (h : P := by repeat (first | (with_reducible first | exact HB.out | apply below_alloc | apply pw_below_drewN | apply below_drew1 | refine below_set ?_ GE145.out | refine below_set ?_ GE146.out) | exact HB.out)) : P := h
theorem z2_13 {P : Prop} (h : P := by (with_reducible repeat (first | refine blk_drewN ?_ _ | refine blk_drew ?_ | refine blk_alloc ?_ _)); refine blk_far ?_ NB146_147.out _; (with_reducible repeat (first | refine blk_drewN ?_ _ | refine blk_drew ?_ | refine blk_alloc ?_ _)); refine blk_far ?_ NB146_147.out _; (with_reducible repeat (first | refine blk_drewN ?_ _ | refine blk_drew ?_ | refine blk_alloc ?_ _)); exact BK146.out) : P := h
theorem z2_14 {P : Prop} (h : P := by repeat (first | (with_reducible first | exact HB.out | apply below_alloc | apply pw_below_drewN | apply below_drew1 | refine below_set ?_ GE120.out) | exact HB.out)) : P := h
theorem z2_15 {P : Prop} (h : P := by repeat (first | (with_reducible first | exact HB.out | apply below_alloc | apply pw_below_drewN | apply below_drew1 | refine below_set ?_ GE123.out) | exact HB.out)) : P := h
theorem z2_16 {P : Prop} (h : P := by repeat (first | (with_reducible first | exact HB.out | apply below_alloc | apply pw_below_drewN | apply below_drew1 | refine below_set ?_ GE133.out) | exact HB.out)) : P := h
theorem z2_17 {P : Prop} (h : P := by repeat (first | (with_reducible first | exact HB.out | apply below_alloc | apply pw_below_drewN | apply below_drew1 | refine below_set ?_ GE142.out) | exact HB.out)) : P := h
theorem z2_18 {P : Prop} (h : P := by repeat (first | (with_reducible first | exact HB.out | apply below_alloc | apply pw_below_drewN | apply below_drew1 | refine below_set ?_ GE145.out) | exact HB.out)) : P := h
theorem z2_19 {P : Prop} (h : P := by first | (rw [hy_]; with_reducible exact H) | (have H2_ := (Option.bind_some _ _).symm.trans H; rw [hy_]; with_reducible exact H2_) | (have H2_ := (Option.bind_some _ _).symm.trans H; with_reducible exact H2_) | with_reducible exact H | (rw [hy_]; exact H) | exact H) : P := h
theorem z2_20 {P : Prop} (h : P := by (with_reducible repeat (first | refine blk_drewN ?_ _ | refine blk_drew ?_ | refine blk_alloc ?_ _)); with_reducible exact BK146.out) : P := h
theorem z2_21 {P : Prop} (h : P := by (with_reducible repeat (first | refine blk_drewN ?_ _ | refine blk_drew ?_ | refine blk_alloc ?_ _)); with_reducible exact BK147.out) : P := h
/-! ### laws_toMat: function 101 -/
def laws_toMat.f (a0_0 : Int) (a0_1 : Int) (a0_2 : Int) (a0_3 : Int) (a0_4 : Int) (a0_5 : Int) : Option (Int × Int × Int × Int × Int × Int) := some (a0_0, a0_1, a0_2, a0_3, a0_4, a0_5)
set_option maxHeartbeats 8000000 in
set_option maxRecDepth 100000 in
theorem laws_toMat.calls (a0_0 : Int) (a0_1 : Int) (a0_2 : Int) (a0_3 : Int) (a0_4 : Int) (a0_5 : Int) (r1 : Int) (r2 : Int) (r3 : Int) (r4 : Int) (r5 : Int) (r6 : Int) (w : World) (h : laws_toMat.f a0_0 a0_1 a0_2 a0_3 a0_4 a0_5 = some (r1, r2, r3, r4, r5, r6)) :
  Calls Try.prog 101 #[.agg #[.int .i64 a0_0, .int .i64 a0_1, .int .i64 a0_2, .int .i64 a0_3, .int .i64 a0_4, .int .i64 a0_5]] w fun e w' => e = .returned (.agg #[.int .i64 r1, .int .i64 r2, .int .i64 r3, .int .i64 r4, .int .i64 r5, .int .i64 r6]) ∧ Below w.heap.size w w' := by
 have hu111 := Try.underlying111
 have hu61 := Try.underlying61
 have HB := mk0 (Below.refl w.heap.size w)
 have H : (some (a0_0, a0_1, a0_2, a0_3, a0_4, a0_5)) = some (r1, r2, r3, r4, r5, r6) := h
 clear h
 simp only [Option.some.injEq, Prod.mk.injEq] at H
 obtain ⟨rfl, rfl, rfl, rfl, rfl, rfl⟩ := H
 go_enter Try.func101, Try.ntmps101
 go_wp2_with (first | ((with_reducible refine gate_dst (N := 1) rfl ?_); refine boxz (cs := #[.int .i64 a0_0, .int .i64 a0_1, .int .i64 a0_2, .int .i64 a0_3, .int .i64 a0_4, .int .i64 a0_5]) (t := 111) rfl ?_; intro gb120 hg w2 hbox hb; have n0_ := mk0 (below_step z2_0 hb); have n1_ := mk0 (hbox); have GW120 := mk0 (ge_go (a := w.heap.size) hg (below_size z2_0)); have GE120 := GW120; clear HB; have HB := n0_; have BK120 := n1_; clear n0_ n1_ ; clear hb hbox hg) | ((with_reducible refine gate_dst (N := 2) rfl ?_); refine boxz (cs := #[.int .i64 0, .int .i64 0, .int .i64 0, .int .i64 0, .int .i64 0, .int .i64 0]) (t := 61) rfl ?_; intro gb121 hg w3 hbox hb; have n0_ := mk0 (blk_belowB BK120 (pkb BK120) hb); have n1_ := mk0 (below_step z2_14 hb); have n2_ := mk0 (hbox); have GW121 := mk0 (ge_go (a := w.heap.size) hg (below_size z2_14)); have GE121 := GW121; have NB120_121 := mk0 (nb_lt hg (blk_ltB BK120 (pkb BK120))); have NB121_120 := mk0 (nb_gt hg (blk_ltB BK120 (pkb BK120))); clear BK120 HB; have BK120 := n0_; have HB := n1_; have BK121 := n2_; clear n0_ n1_ n2_ ; clear hb hbox hg) | ((with_reducible refine gate_dst (N := 3) rfl ?_); refine boxz (cs := #[.int .i64 0, .int .i64 0, .int .i64 0, .int .i64 0, .int .i64 0, .int .i64 0]) (t := 61) rfl ?_; intro gb122 hg w4 hbox hb; have n0_ := mk0 (blk_belowB BK120 (pkb BK120) hb); have n1_ := mk0 (blk_belowB BK121 (pkb BK121) hb); have n2_ := mk0 (below_step z2_8 hb); have n3_ := mk0 (hbox); have GW122 := mk0 (ge_go (a := w.heap.size) hg (below_size z2_8)); have GE122 := GW122; have NB120_122 := mk0 (nb_lt hg (blk_ltB BK120 (pkb BK120))); have NB122_120 := mk0 (nb_gt hg (blk_ltB BK120 (pkb BK120))); have NB121_122 := mk0 (nb_lt hg (blk_ltB BK121 (pkb BK121))); have NB122_121 := mk0 (nb_gt hg (blk_ltB BK121 (pkb BK121))); clear BK120 BK121 HB; have BK120 := n0_; have BK121 := n1_; have HB := n2_; have BK122 := n3_; clear n0_ n1_ n2_ n3_ ; clear hb hbox hg; have hnb5 := NB120_121.out; have hnc5 := NB121_120.out; have hnb6 := NB120_122.out; have hnc6 := NB122_120.out; obtain ⟨_, _, _, _, _, _, _, _, _, _, _, _⟩ := be_6 BK120.out; have hnb8 := NB122_121.out; have hnc8 := NB121_122.out; obtain ⟨_, _, _, _, _, _, _, _, _, _, _, _⟩ := be_6 BK122.out; obtain ⟨_, _, _, _, _, _, _, _, _, _, _, _⟩ := be_6 BK121.out))
 refine bodyPost_ret (results_cell_row rfl _ _ gb121 61 #[.int .i64 a0_0, .int .i64 a0_1, .int .i64 a0_2, .int .i64 a0_3, .int .i64 a0_4, .int .i64 a0_5] (0, 0) _ rfl (by apply blk_fin; (focus ((with_reducible repeat (first | apply blk_putQ | refine blk_farQ NB121_122.out ?_ | refine blk_drewN ?_ _ | refine blk_drew ?_ | refine blk_alloc ?_ _)); exact BK121.out)); first | (simp only [List.setIfInBounds_toArray, List.set_cons_zero, List.set_cons_succ]; done) | rfl) Try.underlying61 rfl (by kernel_rfl)) rfl ?_
 exact ⟨z2_7, (by repeat (first | (with_reducible first | exact HB.out | apply below_alloc | apply pw_below_drewN | apply below_drew1 | refine below_set ?_ GE120.out | refine below_set ?_ GE121.out | refine below_set ?_ GE122.out) | exact HB.out))⟩

/-! ### laws_toPoint: function 63 -/
def laws_toPoint.f (a0_0 : Int) (a0_1 : Int) : Option (Int × Int) := some (a0_0, a0_1)
set_option maxHeartbeats 8000000 in
set_option maxRecDepth 100000 in
theorem laws_toPoint.calls (a0_0 : Int) (a0_1 : Int) (r1 : Int) (r2 : Int) (w : World) (h : laws_toPoint.f a0_0 a0_1 = some (r1, r2)) :
  Calls Try.prog 63 #[.agg #[.int .i64 a0_0, .int .i64 a0_1]] w fun e w' => e = .returned (.agg #[.int .i64 r1, .int .i64 r2]) ∧ Below w.heap.size w w' := by
 have hu89 := Try.underlying89
 have hu29 := Try.underlying29
 have HB := mk0 (Below.refl w.heap.size w)
 have H : (some (a0_0, a0_1)) = some (r1, r2) := h
 clear h
 simp only [Option.some.injEq, Prod.mk.injEq] at H
 obtain ⟨rfl, rfl⟩ := H
 go_enter Try.func63, Try.ntmps63
 go_wp2_with (first | ((with_reducible refine gate_dst (N := 1) rfl ?_); refine boxz (cs := #[.int .i64 a0_0, .int .i64 a0_1]) (t := 89) rfl ?_; intro gb123 hg w2 hbox hb; have n0_ := mk0 (below_step z2_0 hb); have n1_ := mk0 (hbox); have GW123 := mk0 (ge_go (a := w.heap.size) hg (below_size z2_0)); have GE123 := GW123; clear HB; have HB := n0_; have BK123 := n1_; clear n0_ n1_ ; clear hb hbox hg) | ((with_reducible refine gate_dst (N := 2) rfl ?_); refine boxz (cs := #[.int .i64 0, .int .i64 0]) (t := 29) rfl ?_; intro gb124 hg w3 hbox hb; have n0_ := mk0 (blk_belowB BK123 (pkb BK123) hb); have n1_ := mk0 (below_step z2_15 hb); have n2_ := mk0 (hbox); have GW124 := mk0 (ge_go (a := w.heap.size) hg (below_size z2_15)); have GE124 := GW124; have NB123_124 := mk0 (nb_lt hg (blk_ltB BK123 (pkb BK123))); have NB124_123 := mk0 (nb_gt hg (blk_ltB BK123 (pkb BK123))); clear BK123 HB; have BK123 := n0_; have HB := n1_; have BK124 := n2_; clear n0_ n1_ n2_ ; clear hb hbox hg) | ((with_reducible refine gate_dst (N := 3) rfl ?_); refine boxz (cs := #[.int .i64 0, .int .i64 0]) (t := 29) rfl ?_; intro gb125 hg w4 hbox hb; have n0_ := mk0 (blk_belowB BK123 (pkb BK123) hb); have n1_ := mk0 (blk_belowB BK124 (pkb BK124) hb); have n2_ := mk0 (below_step z2_9 hb); have n3_ := mk0 (hbox); have GW125 := mk0 (ge_go (a := w.heap.size) hg (below_size z2_9)); have GE125 := GW125; have NB123_125 := mk0 (nb_lt hg (blk_ltB BK123 (pkb BK123))); have NB125_123 := mk0 (nb_gt hg (blk_ltB BK123 (pkb BK123))); have NB124_125 := mk0 (nb_lt hg (blk_ltB BK124 (pkb BK124))); have NB125_124 := mk0 (nb_gt hg (blk_ltB BK124 (pkb BK124))); clear BK123 BK124 HB; have BK123 := n0_; have BK124 := n1_; have HB := n2_; have BK125 := n3_; clear n0_ n1_ n2_ n3_ ; clear hb hbox hg; have hnb5 := NB123_124.out; have hnc5 := NB124_123.out; have hnb6 := NB123_125.out; have hnc6 := NB125_123.out; obtain ⟨_, _, _, _⟩ := be_2 BK123.out; have hnb8 := NB125_124.out; have hnc8 := NB124_125.out; obtain ⟨_, _, _, _⟩ := be_2 BK125.out; obtain ⟨_, _, _, _⟩ := be_2 BK124.out))
 refine bodyPost_ret (results_cell_row rfl _ _ gb124 29 #[.int .i64 a0_0, .int .i64 a0_1] (0, 0) _ rfl (by apply blk_fin; (focus ((with_reducible repeat (first | apply blk_putQ | refine blk_farQ NB124_125.out ?_ | refine blk_drewN ?_ _ | refine blk_drew ?_ | refine blk_alloc ?_ _)); exact BK124.out)); first | (simp only [List.setIfInBounds_toArray, List.set_cons_zero, List.set_cons_succ]; done) | rfl) Try.underlying29 rfl (by kernel_rfl)) rfl ?_
 exact ⟨z2_7, (by repeat (first | (with_reducible first | exact HB.out | apply below_alloc | apply pw_below_drewN | apply below_drew1 | refine below_set ?_ GE123.out | refine below_set ?_ GE124.out | refine below_set ?_ GE125.out) | exact HB.out))⟩

/-! ### laws_toPointS: function 20 -/
def laws_toPointS.l0 : Nat → List (S89) → List (S29) → Int → Option ((List (S29)))
 | 0, _, _, _ => none
 | k + 1, x0, x3, x4 => if x4 < (x0.length : Int) then (if 0 ≤ x4 then ((laws_toPoint.f ((rd_T89 x0 x4).f0) ((rd_T89 x0 x4).f1)).bind fun bt130 => (if x4 < (x3.length : Int) then (laws_toPointS.l0 k x0 (x3.set (x4 : Int).toNat (⟨bt130.1, bt130.2⟩ : S29)) (wrap64 (x4 + 1))) else (none))) else (none)) else (some x3)
def laws_toPointS.f (k : Nat) (l0 : List (S89)) : Option ((List (S29))) := if 0 ≤ (l0.length : Int) then (if ((l0.length : Int) : Int).toNat ≤ 17592186044416 then (laws_toPointS.l0 k l0 (List.replicate ((l0.length : Int) : Int).toNat z29) 0) else (none)) else (none)
theorem laws_toPointS.mono_l : ∀ k, (∀ y0 y1 y2, LeO (laws_toPointS.l0 k y0 y1 y2) (laws_toPointS.l0 (k + 1) y0 y1 y2))
 | 0 => fun _ _ _ r h => by simp [laws_toPointS.l0] at h
 | k + 1 => by
  have ih0 := laws_toPointS.mono_l k
  ·intro y0 y1 y2
   unfold laws_toPointS.l0
   repeat' first
   | (with_reducible exact ih0 _ _ _)
   | (with_reducible exact LeO.refl _)
   | (with_reducible exact LeO.none _)
   | (with_reducible refine LeO.ite ?_ ?_)
   | (with_reducible refine LeO.bind ?_ (fun _ => ?_))
theorem laws_toPointS.mono : ∀ a0 k, LeO (laws_toPointS.f k a0) (laws_toPointS.f (k + 1) a0) := by
 intro a0 k
 have ih0 := laws_toPointS.mono_l k
 unfold laws_toPointS.f
 repeat' first
   | (with_reducible exact ih0 _ _ _)
   | (with_reducible exact LeO.refl _)
   | (with_reducible exact LeO.none _)
   | (with_reducible refine LeO.ite ?_ ?_)
   | (with_reducible refine LeO.bind ?_ (fun _ => ?_))
set_option maxHeartbeats 8000000 in
set_option maxRecDepth 100000 in
theorem laws_toPointS.calls (k : Nat) (A0 : Option Addr) (c0 : Nat) (l0 : List (S89)) (r : List (S29)) (w : World) (hr0 : Kd.C k89 w A0 l0.length l0) (hc0 : l0.length ≤ c0) (h : laws_toPointS.f k l0 = some r) :
  Calls Try.prog 20 #[.slice A0 l0.length c0] w fun e w' => ∃ v0_ : Value, e = .returned (v0_) ∧ Kd.R k29 29 w' w.heap.size (fun _ => True) v0_ r ∧ Below w.heap.size w w' := by
 have hu89 := Try.underlying89
 have hu29 := Try.underlying29
 have HR0 := mk0 hr0
 have HC0 := mk0 hc0
 clear hr0 hc0
 have HB := mk0 (Below.refl w.heap.size w)
 have H : (if 0 ≤ (l0.length : Int) then (if ((l0.length : Int) : Int).toNat ≤ 17592186044416 then (laws_toPointS.l0 k l0 (List.replicate ((l0.length : Int) : Int).toNat z29) 0) else (none)) else (none)) = some r := h
 clear h
 by_cases c2 : 0 ≤ (l0.length : Int)
 rotate_left
 ·rw [if_neg c2] at H
  exact absurd H (by simp)
 rw [if_pos c2] at H
 have c2b0 := eq_true c2
 have c2b1 := decide_eq_true c2
 clear c2
 by_cases c3 : ((l0.length : Int) : Int).toNat ≤ 17592186044416
 rotate_left
 ·rw [if_neg c3] at H
  exact absurd H (by simp)
 rw [if_pos c3] at H
 have c3b0 := eq_true c3
 have c3b1 := decide_eq_true c3
 clear c3
 obtain ⟨y126, hy_⟩ : ∃ y_ : List (S29), y_ = (List.replicate ((l0.length : Int) : Int).toNat z29) := ⟨_, rfl⟩
 replace H : (laws_toPointS.l0 k l0 y126 0) = some r := z2_19
 have Ny126 := mk0 hy_
 clear hy_
 have H' := mk0 H
 clear H
 go_enter Try.func20, Try.ntmps20
 go_wp2_with (first | ((with_reducible refine gate_dst (N := 7) rfl ?_); refine Kd.R_make k29 _ 29 rfl (N := 7) rfl 30 _ _ rfl (l0.length : Int) rfl rfl Try.underlying30 (.agg #[(.int .i64 0), (.int .i64 0)]) 16 info29 rfl (by decide) (by omega) z29 (ok := fun _ => True) (okp := fun _ => True) (k29_mkM _ _ _ z29 ) (fun _ hk => hk) trivial (of_decide_eq_true (by first | (with_reducible assumption) | assumption)) (Nat.le_trans (Nat.mul_le_mul_right _ (of_decide_eq_true (by first | (with_reducible assumption) | assumption) : (l0.length : Int).toNat ≤ 17592186044416)) (by omega)) (Below.refl _ _) (Nat.le_refl _) ?_; intro v127 w4 ho5 hb hg_ hnew_; clear hg_ hnew_; (first | rw [← Ny126.out] at ho5 | (simp only [Int.reduceToNat] at ho5; rw [← Ny126.out] at ho5)); have n0_ := mk0 (Kd.R_lower ho5 (below_size z2_0)); have n1_ := mk0 (below_step z2_0 hb); clear HB; have HO128 := n0_; have HB := n1_; clear n0_ n1_ hb ho5))
 go_loopg [4] k (fun kq v4 w' => ∃ (x3_1 : List (S29)) (x4_1 : Int), v4 = .int .i64 x4_1 ∧ Aside0 (laws_toPointS.l0 kq l0 x3_1 x4_1 = some r) ∧ Aside0 (kq ≤ k) ∧ Aside0 (Kd.R k29 29 w' w.heap.size (fun _ => True) v127 x3_1) ∧ Aside0 (Below w.heap.size w w'))
 case atStart => exact ⟨(y126), (0), rs0, H', ⟨Nat.le_refl _⟩, ⟨pkR HO128⟩, ⟨z2_0⟩⟩
 case round =>
  clear H'
  try clear c2
  try clear c2b0
  try clear c2b1
  try clear p2
  try clear c3
  try clear c3b0
  try clear c3b1
  obtain ⟨x3_1, x4_1, rfl, HA, HK1, HO_3, HB⟩ := hrel
  cases gk with
  | zero => exact absurd HA.out (by simp [laws_toPointS.l0])
  | succ k1 =>
   have H := HA.out; clear HA
   simp only [laws_toPointS.l0] at H
   by_cases c6 : x4_1 < (l0.length : Int)
   rotate_left
   ·rw [if_neg c6] at H
    have c6b0 := decide_eq_false c6
    clear c6
    obtain rfl := Option.some.inj H
    simp only [Option.some.injEq, Prod.mk.injEq] at H
    obtain ⟨rfl⟩ := H
    go_wp2
    go_ret
    exact ⟨_, z2_7, (pkR HO_3), z2_0⟩
   rw [if_pos c6] at H
   have c6b0 := decide_eq_true c6
   clear c6
   by_cases c7 : 0 ≤ x4_1
   rotate_left
   ·rw [if_neg c7] at H
    exact absurd H (by simp)
   rw [if_pos c7] at H
   have c7b0 := decide_eq_true c7
   clear c7
   replace H := Option.bind_eq_some_iff.mp H
   obtain ⟨⟨t130, t131⟩, A80, H⟩ := H
   try dsimp only at H
   have A8 := mk0 A80
   clear A80
   by_cases c9 : x4_1 < (x3_1.length : Int)
   rotate_left
   ·rw [if_neg c9] at H
    exact absurd H (by simp)
   rw [if_pos c9] at H
   have c9b0 := decide_eq_true c9
   clear c9
   obtain ⟨y132, hy_⟩ : ∃ y_ : List (S29), y_ = (x3_1.set (x4_1 : Int).toNat (⟨t130, t131⟩ : S29)) := ⟨_, rfl⟩
   replace H : (laws_toPointS.l0 k1 l0 y132 (wrap64 (x4_1 + 1))) = some r := z2_19
   have Ny132 := mk0 hy_
   clear hy_
   have H' := mk0 H
   clear H
   have p129 : 0 ≤ (x4_1 : Int) := of_decide_eq_true (by first | (with_reducible assumption) | assumption)
   have q129 : x4_1 < (l0.length : Int) := of_decide_eq_true (by first | (with_reducible assumption) | assumption)
   obtain ⟨ad129, e129, hx129_0, hx129_1⟩ := at_T89 HR0.out x4_1 p129 q129
   cases e129
   replace hx129_0 := cell_go HB hx129_0
   replace hx129_1 := cell_go HB hx129_1
   replace p129 := eq_true p129
   replace q129 := eq_true q129
   go_wp2_with (first | ((with_reducible refine gate_callee (f := 63) rfl ?_); refine goesL_ (some 20) rfl rfl Try.func63 (by kernel_rfl) rfl #[.agg #[.int .i64 ((rd_T89 l0 x4_1).f0), .int .i64 ((rd_T89 l0 x4_1).f1)]] rfl z2_4 ?_; (with_reducible refine (laws_toPoint.calls ((rd_T89 l0 x4_1).f0) ((rd_T89 l0 x4_1).f1) t130 t131 _ A8.out).mono ?_); rintro e w11 ⟨rfl, hb⟩; refine ⟨_, rfl, ?_⟩; have n0_ := mk0 (Kd.R_below (pkR HO_3) hb); have n1_ := mk0 (below_step z2_0 hb); clear HO_3 HB; have HO_3 := n0_; have HB := n1_; clear n0_ n1_; (try clear hb); (try clear hk); have p10 : 0 ≤ (x4_1 : Int) := of_decide_eq_true (by first | (with_reducible assumption) | assumption); have q10 : (x4_1 : Int) < ((x3_1.length : Int) : Int) := of_decide_eq_true (by first | (with_reducible assumption) | assumption); obtain ⟨go10, co10, eo10, gb10, gl10, cl10, HG10⟩ := Kd.R_form HO_3.out (by omega); (first | cases eo10 | (injection eo10 with ea_ en_ ec_; (first | subst ea_ | (injection ea_ with ea_; subst ea_)); subst ec_; clear en_)); have GB10 := mk0 gb10; have GG10 := mk0 HG10; clear gb10 gl10 HG10; obtain ⟨ce10, hcl10, hM10, hcc10, hfr10⟩ := Kd.R_elem HO_3.out z29 (x4_1 : Int) p10 q10; obtain rfl := k29_openM hM10; have hx10_0 : w11.cell? ⟨go10, (x4_1 : Int).toNat * 2, none⟩ = some (.int .i64 ((rd_T29 x3_1 x4_1).f0)) := hcc10 0 _ rfl; have hx10_1 : w11.cell? ⟨go10, (x4_1 : Int).toNat * 2 + 1, none⟩ = some (.int .i64 ((rd_T29 x3_1 x4_1).f1)) := hcc10 1 _ rfl; have hf10_0 : w11.frozen? ⟨go10, (x4_1 : Int).toNat * 2, none⟩ = false := hfr10 0; have hf10_1 : w11.frozen? ⟨go10, (x4_1 : Int).toNat * 2 + 1, none⟩ = false := hfr10 1; clear hcl10 hcc10 hfr10; (try clear hM10); replace p10 := eq_true p10; replace q10 := eq_true q10; have HX12 := mk0 (show Kd.R k29 29 w11 w.heap.size (fun _ => True) (.slice (some ⟨go10, 0, none⟩) x3_1.length co10) x3_1 from (pkR HO_3)); obtain ⟨ce12, hcl12, hM12, hcc12, hfr12⟩ := Kd.R_elem HX12.out z29 (x4_1 : Int) (of_decide_eq_true (by first | (with_reducible assumption) | assumption)) (by have h_ : (x4_1 : Int) < ((x3_1.length : Int) : Int) := of_decide_eq_true (by first | (with_reducible assumption) | assumption); first | exact h_ | (have e_ := (Kd.R_reads' HO_3.out).1; omega) | simpa using h_); obtain rfl := k29_openM hM12; have HP12 := Kd.R_seg HX12.out (x4_1 : Int) (of_decide_eq_true (by first | (with_reducible assumption) | assumption)) (by have h_ : (x4_1 : Int) < ((x3_1.length : Int) : Int) := of_decide_eq_true (by first | (with_reducible assumption) | assumption); first | exact h_ | (have e_ := (Kd.R_reads' HO_3.out).1; omega) | simpa using h_) (seg := [.int .i64 t130, .int .i64 t131]) (j := 0) hcl12 hcc12 (show 2 ≤ 2 from by decide) (x' := (⟨t130, t131⟩ : S29)) (k29_mkM _ _ _ (⟨t130, t131⟩ : S29) ) (fun _ hk => hk); have hx12_0 := hcc12 0 _ rfl; (try simp only [show (k29).sz = 2 from rfl, Nat.mul_one, Nat.add_zero] at hx12_0); have hf12_0 := hfr12 0; (try simp only [show (k29).sz = 2 from rfl, Nat.mul_one, Nat.add_zero] at hf12_0); have hx12_1 := hcc12 1 _ rfl; (try simp only [show (k29).sz = 2 from rfl, Nat.mul_one, Nat.add_zero] at hx12_1); have hf12_1 := hfr12 1; (try simp only [show (k29).sz = 2 from rfl, Nat.mul_one, Nat.add_zero] at hf12_1); clear hcl12 hcc12 hfr12; (try clear hM12)) | ((with_reducible refine gate_store (t := 29) (p := 21) rfl ?_); refine store_event (t := 29) (p := 21) (v := ?vo_w13) (w1 := ((w11.setCell ⟨go10, (x4_1 : Int).toNat * 2, none⟩ (.int .i64 t130)).setCell ⟨go10, (x4_1 : Int).toNat * 2 + 1, none⟩ (.int .i64 t131))) ?hg ?ho ?hn ?hr ?_; (case ho => rfl); (case hg => rfl); (case hn => rfl); (case hr => first | (go_simp; done) | (go_simp; rfl) | (obtain ⟨Aq_, cq_, eq_⟩ := Kd.R_slice HO_3.out; subst eq_; first | (go_simp; done) | (go_simp; rfl))); intro w13 hw; have hg : w11.grownBy w13 (some go10) := (by rw [hw]; exact HP12.2); have hp_ : Kd.R k29 29 w13 w.heap.size (fun _ => True) (.slice (some ⟨go10, 0, none⟩) x3_1.length co10) y132 := (by rw [hw, Ny132.out]; exact HP12.1); clear HP12; have n0_ := mk0 (hp_); have n1_ := mk0 ((by rw [hw]; exact below_set (below_set (HB.out) GB10.out) GB10.out : Below w.heap.size w w13)); clear HO_3 HB; have HO_3 := n0_; have HB := n1_; clear n0_ n1_ hg hw hp_))
   go_roundg k1
   case measure => have := HK1.out; omega
   case rel => exact ⟨(y132), (wrap64 (x4_1 + 1)), rs0, H', ⟨(by have := HK1.out; omega)⟩, ⟨pkR HO_3⟩, ⟨z2_0⟩⟩

/-! ### laws_toPath: function 102 -/
def laws_toPath.f (k : Nat) (l0_0 : List Int) (l0_1 : List (S89)) : Option (List Int × (List (S29))) := (laws_toIntS.f k l0_0).bind fun t136 => ((laws_toPointS.f k l0_1).bind fun t139 => (some (t136, t139)))
theorem laws_toPath.mono : ∀ a0 a1 k, LeO (laws_toPath.f k a0 a1) (laws_toPath.f (k + 1) a0 a1) := by
 intro a0 a1 k
 unfold laws_toPath.f
 repeat' first
   | (with_reducible exact laws_toIntS.mono _ _)
   | (with_reducible exact laws_toPointS.mono _ _)
   | (with_reducible exact LeO.refl _)
   | (with_reducible exact LeO.none _)
   | (with_reducible refine LeO.ite ?_ ?_)
   | (with_reducible refine LeO.bind ?_ (fun _ => ?_))
set_option maxHeartbeats 8000000 in
set_option maxRecDepth 100000 in
theorem laws_toPath.calls (k : Nat) (A0_0 : Option Addr) (c0_0 : Nat) (l0_0 : List Int) (A0_1 : Option Addr) (c0_1 : Nat) (l0_1 : List (S89)) (r1 : List Int) (r2 : List (S29)) (w : World) (hr0_0 : Kd.C (Kd.int .i64) w A0_0 l0_0.length l0_0) (hc0_0 : l0_0.length ≤ c0_0) (hr0_1 : Kd.C k89 w A0_1 l0_1.length l0_1) (hc0_1 : l0_1.length ≤ c0_1) (h : laws_toPath.f k l0_0 l0_1 = some (r1, r2)) :
  Calls Try.prog 102 #[.agg #[.slice A0_0 l0_0.length c0_0, .slice A0_1 l0_1.length c0_1]] w fun e w' => ∃ v0_ v1_ : Value, e = .returned (.agg #[v0_, v1_]) ∧ Kd.R (Kd.int .i64) 3 w' w.heap.size (fun _ => True) v0_ r1 ∧ Kd.R k29 29 w' w.heap.size (fun _ => True) v1_ r2 ∧ Below w.heap.size w w' := by
 have hu113 := Try.underlying113
 have hu63 := Try.underlying63
 have HR0_0 := mk0 hr0_0
 have HC0_0 := mk0 hc0_0
 clear hr0_0 hc0_0
 have HR0_1 := mk0 hr0_1
 have HC0_1 := mk0 hc0_1
 clear hr0_1 hc0_1
 have HB := mk0 (Below.refl w.heap.size w)
 have H : ((laws_toIntS.f k l0_0).bind fun t136 => ((laws_toPointS.f k l0_1).bind fun t139 => (some (t136, t139)))) = some (r1, r2) := h
 clear h
 replace H := Option.bind_eq_some_iff.mp H
 obtain ⟨t136, A20, H⟩ := H
 try dsimp only at H
 have A2 := mk0 A20
 clear A20
 replace H := Option.bind_eq_some_iff.mp H
 obtain ⟨t139, A30, H⟩ := H
 try dsimp only at H
 have A3 := mk0 A30
 clear A30
 simp only [Option.some.injEq, Prod.mk.injEq] at H
 obtain ⟨rfl, rfl⟩ := H
 go_enter Try.func102, Try.ntmps102
 go_wp2_with (first | ((with_reducible refine gate_dst (N := 1) rfl ?_); refine boxz (cs := #[.slice A0_0 l0_0.length c0_0, .slice A0_1 l0_1.length c0_1]) (t := 113) rfl ?_; intro gb133 hg w4 hbox hb; have n0_ := mk0 (below_step z2_0 hb); have n1_ := mk0 (hbox); have GW133 := mk0 (ge_go (a := w.heap.size) hg (below_size z2_0)); have GE133 := GW133; clear HB; have HB := n0_; have BK133 := n1_; clear n0_ n1_ ; clear hb hbox hg) | ((with_reducible refine gate_dst (N := 2) rfl ?_); refine boxz (cs := #[.slice none 0 0, .slice none 0 0]) (t := 63) rfl ?_; intro gb134 hg w5 hbox hb; have n0_ := mk0 (blk_belowB BK133 (pkb BK133) hb); have n1_ := mk0 (below_step z2_16 hb); have n2_ := mk0 (hbox); have GW134 := mk0 (ge_go (a := w.heap.size) hg (below_size z2_16)); have GE134 := GW134; have NB133_134 := mk0 (nb_lt hg (blk_ltB BK133 (pkb BK133))); have NB134_133 := mk0 (nb_gt hg (blk_ltB BK133 (pkb BK133))); clear BK133 HB; have BK133 := n0_; have HB := n1_; have BK134 := n2_; clear n0_ n1_ n2_ ; clear hb hbox hg) | ((with_reducible refine gate_dst (N := 3) rfl ?_); refine boxz (cs := #[.slice none 0 0, .slice none 0 0]) (t := 63) rfl ?_; intro gb135 hg w6 hbox hb; have n0_ := mk0 (blk_belowB BK133 (pkb BK133) hb); have n1_ := mk0 (blk_belowB BK134 (pkb BK134) hb); have n2_ := mk0 (below_step z2_10 hb); have n3_ := mk0 (hbox); have GW135 := mk0 (ge_go (a := w.heap.size) hg (below_size z2_10)); have GE135 := GW135; have NB133_135 := mk0 (nb_lt hg (blk_ltB BK133 (pkb BK133))); have NB135_133 := mk0 (nb_gt hg (blk_ltB BK133 (pkb BK133))); have NB134_135 := mk0 (nb_lt hg (blk_ltB BK134 (pkb BK134))); have NB135_134 := mk0 (nb_gt hg (blk_ltB BK134 (pkb BK134))); clear BK133 BK134 HB; have BK133 := n0_; have BK134 := n1_; have HB := n2_; have BK135 := n3_; clear n0_ n1_ n2_ n3_ ; clear hb hbox hg; have hnb7 := NB133_134.out; have hnc7 := NB134_133.out; have hnb8 := NB133_135.out; have hnc8 := NB135_133.out; obtain ⟨_, _, _, _⟩ := be_2 BK133.out) | ((with_reducible refine gate_callee (f := 21) rfl ?_); refine goesL_ (some 6) rfl rfl Try.func21 (by kernel_rfl) rfl #[.slice A0_0 l0_0.length c0_0] rfl z2_4 ?_; (with_reducible refine (laws_toIntS.calls k _ _ l0_0 t136 _ ?side1 ?side2 A2.out).mono ?_); (case side1 => repeat (first | exact (Kd.C_below HR0_0.out HB.out) | (with_reducible refine Kd.C_alloc ?_ _) | (with_reducible refine Kd.C_drewN ?_ _) | (with_reducible refine Kd.C_drew ?_))); (case side2 => exact HC0_0.out); rintro e w10 ⟨v137, rfl, ho0, hb⟩; refine ⟨_, rfl, ?_⟩; have n0_ := mk0 (Kd.R_lower ho0 (below_size z2_1)); have n1_ := mk0 (blk_belowB BK133 (pkb BK133) hb); have n2_ := mk0 (blk_belowB BK134 (pkb BK134) hb); have n3_ := mk0 (blk_belowB BK135 (pkb BK135) hb); have n4_ := mk0 (below_step z2_1 hb); clear BK133 BK134 BK135 HB; have HO138 := n0_; have BK133 := n1_; have BK134 := n2_; have BK135 := n3_; have HB := n4_; clear n0_ n1_ n2_ n3_ n4_; (try clear hb); (try clear hk); (try clear ho0); obtain ⟨Ao11, co11, eo11⟩ := Kd.R_slice HO138.out; subst eo11; have hnb12 := NB135_134.out; have hnc12 := NB134_135.out; obtain ⟨_, _, _, _⟩ := be_2 BK135.out; obtain ⟨_, _, _, _⟩ := be_2 BK133.out) | ((with_reducible refine gate_callee (f := 20) rfl ?_); refine goesL_ (some 10) rfl rfl Try.func20 (by kernel_rfl) rfl #[.slice A0_1 l0_1.length c0_1] rfl z2_4 ?_; (with_reducible refine (laws_toPointS.calls k _ _ l0_1 t139 _ ?side1 ?side2 A3.out).mono ?_); (case side1 => exact Kd.C_below HR0_1.out z2_1); (case side2 => exact HC0_1.out); rintro e w15 ⟨v140, rfl, ho0, hb⟩; refine ⟨_, rfl, ?_⟩; have n0_ := mk0 (Kd.R_below (by (with_reducible repeat (first | apply Kd.R_alloc | apply Kd.R_drewN | apply Kd.R_drew)); exact (Kd.R_mono (Kd.R_far (p := ⟨gb135, 0, none⟩) (Kd.R_types HO138.out BK135.out (by decide)) (fun _ hk => hk.2) (.slice Ao11 t136.length co11)) (fun _ h_ => h_.1))) hb); have n1_ := mk0 (Kd.R_lower ho0 (below_size z2_1)); have n2_ := mk0 (blk_belowB BK133 (by (with_reducible repeat (first | refine blk_drewN ?_ _ | refine blk_drew ?_ | refine blk_alloc ?_ _)); refine blk_far ?_ NB133_135.out _; (with_reducible repeat (first | refine blk_drewN ?_ _ | refine blk_drew ?_ | refine blk_alloc ?_ _)); exact BK133.out) hb); have n3_ := mk0 (blk_belowB BK134 (by (with_reducible repeat (first | refine blk_drewN ?_ _ | refine blk_drew ?_ | refine blk_alloc ?_ _)); refine blk_far ?_ NB134_135.out _; (with_reducible repeat (first | refine blk_drewN ?_ _ | refine blk_drew ?_ | refine blk_alloc ?_ _)); exact BK134.out) hb); have n4_ := mk0 (blk_below (g := gb135) (o := .cells #[.slice Ao11 t136.length co11, .slice none 0 0] 63 (0, 0)) (by apply blk_fin; (focus ((with_reducible repeat (first | apply blk_putQ | refine blk_drewN ?_ _ | refine blk_drew ?_ | refine blk_alloc ?_ _)); exact BK135.out)); first | (simp only [List.setIfInBounds_toArray, List.set_cons_zero, List.set_cons_succ]; done) | rfl) hb); have n5_ := mk0 (below_step z2_1 hb); clear HO138 BK133 BK134 BK135 HB; have HO138 := n0_; have HO141 := n1_; have BK133 := n2_; have BK134 := n3_; have BK135 := n4_; have HB := n5_; clear n0_ n1_ n2_ n3_ n4_ n5_; (try clear hb); (try clear hk); (try clear ho0); obtain ⟨Ao16, co16, eo16⟩ := Kd.R_slice HO141.out; subst eo16; obtain ⟨_, _, _, _⟩ := be_2 BK135.out; obtain ⟨_, _, _, _⟩ := be_2 BK134.out))
 refine bodyPost_ret (results_cell_row rfl _ _ gb134 63 #[.slice Ao11 t136.length co11, .slice Ao16 t139.length co16] (0, 0) _ rfl (by apply blk_fin; (focus ((with_reducible repeat (first | apply blk_putQ | refine blk_farQ NB134_135.out ?_ | refine blk_drewN ?_ _ | refine blk_drew ?_ | refine blk_alloc ?_ _)); exact BK134.out)); first | (simp only [List.setIfInBounds_toArray, List.set_cons_zero, List.set_cons_succ]; done) | rfl) Try.underlying63 rfl (by kernel_rfl)) rfl ?_
 exact ⟨_, _, z2_7, (by (with_reducible repeat (first | apply Kd.R_alloc | apply Kd.R_drewN | apply Kd.R_drew)); exact Kd.R_mono (Kd.R_far (p := ⟨gb134, 1, none⟩) (Kd.R_far (p := ⟨gb134, 0, none⟩) (Kd.R_far (p := ⟨gb135, 1, none⟩) (Kd.R_types (Kd.R_types HO138.out BK135.out (by decide)) BK134.out (by decide)) (fun _ hk => hk.1.2) (.slice Ao16 t139.length co16)) (fun _ hk => hk.2) (.slice Ao11 t136.length co11)) (fun _ hk => hk.2) (.slice Ao16 t139.length co16)) (fun _ hk => trivial)), (by (with_reducible repeat (first | apply Kd.R_alloc | apply Kd.R_drewN | apply Kd.R_drew)); exact Kd.R_mono (Kd.R_far (p := ⟨gb134, 1, none⟩) (Kd.R_far (p := ⟨gb134, 0, none⟩) (Kd.R_far (p := ⟨gb135, 1, none⟩) (Kd.R_types (Kd.R_types HO141.out BK135.out (by decide)) BK134.out (by decide)) (fun _ hk => hk.1.2) (.slice Ao16 t139.length co16)) (fun _ hk => hk.2) (.slice Ao11 t136.length co11)) (fun _ hk => hk.2) (.slice Ao16 t139.length co16)) (fun _ hk => trivial)), z2_1⟩

/-! ### laws_toColor: function 113 -/
def laws_toColor.f (a0_0 : Int) (a0_1 : Int) (a0_2 : Int) (a0_3 : Int) : Option (Int × Int × Int × Int) := some (a0_0, a0_1, a0_2, a0_3)
set_option maxHeartbeats 8000000 in
set_option maxRecDepth 100000 in
theorem laws_toColor.calls (a0_0 : Int) (a0_1 : Int) (a0_2 : Int) (a0_3 : Int) (r1 : Int) (r2 : Int) (r3 : Int) (r4 : Int) (w : World) (h : laws_toColor.f a0_0 a0_1 a0_2 a0_3 = some (r1, r2, r3, r4)) :
  Calls Try.prog 113 #[.agg #[.int .i64 a0_0, .int .i64 a0_1, .int .i64 a0_2, .int .i64 a0_3]] w fun e w' => e = .returned (.agg #[.int .i64 r1, .int .i64 r2, .int .i64 r3, .int .i64 r4]) ∧ Below w.heap.size w w' := by
 have hu114 := Try.underlying114
 have hu65 := Try.underlying65
 have HB := mk0 (Below.refl w.heap.size w)
 have H : (some (a0_0, a0_1, a0_2, a0_3)) = some (r1, r2, r3, r4) := h
 clear h
 simp only [Option.some.injEq, Prod.mk.injEq] at H
 obtain ⟨rfl, rfl, rfl, rfl⟩ := H
 go_enter Try.func113, Try.ntmps113
 go_wp2_with (first | ((with_reducible refine gate_dst (N := 1) rfl ?_); refine boxz (cs := #[.int .i64 a0_0, .int .i64 a0_1, .int .i64 a0_2, .int .i64 a0_3]) (t := 114) rfl ?_; intro gb142 hg w2 hbox hb; have n0_ := mk0 (below_step z2_0 hb); have n1_ := mk0 (hbox); have GW142 := mk0 (ge_go (a := w.heap.size) hg (below_size z2_0)); have GE142 := GW142; clear HB; have HB := n0_; have BK142 := n1_; clear n0_ n1_ ; clear hb hbox hg) | ((with_reducible refine gate_dst (N := 2) rfl ?_); refine boxz (cs := #[.int .i64 0, .int .i64 0, .int .i64 0, .int .i64 0]) (t := 65) rfl ?_; intro gb143 hg w3 hbox hb; have n0_ := mk0 (blk_belowB BK142 (pkb BK142) hb); have n1_ := mk0 (below_step z2_17 hb); have n2_ := mk0 (hbox); have GW143 := mk0 (ge_go (a := w.heap.size) hg (below_size z2_17)); have GE143 := GW143; have NB142_143 := mk0 (nb_lt hg (blk_ltB BK142 (pkb BK142))); have NB143_142 := mk0 (nb_gt hg (blk_ltB BK142 (pkb BK142))); clear BK142 HB; have BK142 := n0_; have HB := n1_; have BK143 := n2_; clear n0_ n1_ n2_ ; clear hb hbox hg) | ((with_reducible refine gate_dst (N := 3) rfl ?_); refine boxz (cs := #[.int .i64 0, .int .i64 0, .int .i64 0, .int .i64 0]) (t := 65) rfl ?_; intro gb144 hg w4 hbox hb; have n0_ := mk0 (blk_belowB BK142 (pkb BK142) hb); have n1_ := mk0 (blk_belowB BK143 (pkb BK143) hb); have n2_ := mk0 (below_step z2_11 hb); have n3_ := mk0 (hbox); have GW144 := mk0 (ge_go (a := w.heap.size) hg (below_size z2_11)); have GE144 := GW144; have NB142_144 := mk0 (nb_lt hg (blk_ltB BK142 (pkb BK142))); have NB144_142 := mk0 (nb_gt hg (blk_ltB BK142 (pkb BK142))); have NB143_144 := mk0 (nb_lt hg (blk_ltB BK143 (pkb BK143))); have NB144_143 := mk0 (nb_gt hg (blk_ltB BK143 (pkb BK143))); clear BK142 BK143 HB; have BK142 := n0_; have BK143 := n1_; have HB := n2_; have BK144 := n3_; clear n0_ n1_ n2_ n3_ ; clear hb hbox hg; have hnb5 := NB142_143.out; have hnc5 := NB143_142.out; have hnb6 := NB142_144.out; have hnc6 := NB144_142.out; obtain ⟨_, _, _, _, _, _, _, _⟩ := be_4 BK142.out; have hnb8 := NB144_143.out; have hnc8 := NB143_144.out; obtain ⟨_, _, _, _, _, _, _, _⟩ := be_4 BK144.out; obtain ⟨_, _, _, _, _, _, _, _⟩ := be_4 BK143.out))
 refine bodyPost_ret (results_cell_row rfl _ _ gb143 65 #[.int .i64 a0_0, .int .i64 a0_1, .int .i64 a0_2, .int .i64 a0_3] (0, 0) _ rfl (by apply blk_fin; (focus ((with_reducible repeat (first | apply blk_putQ | refine blk_farQ NB143_144.out ?_ | refine blk_drewN ?_ _ | refine blk_drew ?_ | refine blk_alloc ?_ _)); exact BK143.out)); first | (simp only [List.setIfInBounds_toArray, List.set_cons_zero, List.set_cons_succ]; done) | rfl) Try.underlying65 rfl (by kernel_rfl)) rfl ?_
 exact ⟨z2_7, (by repeat (first | (with_reducible first | exact HB.out | apply below_alloc | apply pw_below_drewN | apply below_drew1 | refine below_set ?_ GE142.out | refine below_set ?_ GE143.out | refine below_set ?_ GE144.out) | exact HB.out))⟩

/-! ### laws_toPaint: function 103 -/
def laws_toPaint.f (a0_0 : Int) (a0_1 : Int) (a0_2 : Int) (a0_3 : Int) (a0_4 : Int) (a0_5 : Int) (a0_6 : Int) (a0_7 : Int) (a0_8 : Int) (a0_9 : Int) (a0_10 : Int) (a0_11 : Int) (a0_12 : Int) : Option (Int × Int × Int × Int × Int × Int × Int × Int × Int × Int × Int × Int × Int) := (laws_toColor.f a0_1 a0_2 a0_3 a0_4).bind fun bt148 => ((laws_toColor.f a0_5 a0_6 a0_7 a0_8).bind fun bt152 => ((laws_toPoint.f a0_9 a0_10).bind fun bt156 => ((laws_toPoint.f a0_11 a0_12).bind fun bt158 => (some (a0_0, bt148.1, bt148.2.1, bt148.2.2.1, bt148.2.2.2, bt152.1, bt152.2.1, bt152.2.2.1, bt152.2.2.2, bt156.1, bt156.2, bt158.1, bt158.2)))))
set_option maxHeartbeats 8000000 in
set_option maxRecDepth 100000 in
theorem laws_toPaint.calls (a0_0 : Int) (a0_1 : Int) (a0_2 : Int) (a0_3 : Int) (a0_4 : Int) (a0_5 : Int) (a0_6 : Int) (a0_7 : Int) (a0_8 : Int) (a0_9 : Int) (a0_10 : Int) (a0_11 : Int) (a0_12 : Int) (r1 : Int) (r2 : Int) (r3 : Int) (r4 : Int) (r5 : Int) (r6 : Int) (r7 : Int) (r8 : Int) (r9 : Int) (r10 : Int) (r11 : Int) (r12 : Int) (r13 : Int) (w : World) (h : laws_toPaint.f a0_0 a0_1 a0_2 a0_3 a0_4 a0_5 a0_6 a0_7 a0_8 a0_9 a0_10 a0_11 a0_12 = some (r1, r2, r3, r4, r5, r6, r7, r8, r9, r10, r11, r12, r13)) :
  Calls Try.prog 103 #[.agg #[.int .i64 a0_0, .int .i64 a0_1, .int .i64 a0_2, .int .i64 a0_3, .int .i64 a0_4, .int .i64 a0_5, .int .i64 a0_6, .int .i64 a0_7, .int .i64 a0_8, .int .i64 a0_9, .int .i64 a0_10, .int .i64 a0_11, .int .i64 a0_12]] w fun e w' => e = .returned (.agg #[.int .i64 r1, .int .i64 r2, .int .i64 r3, .int .i64 r4, .int .i64 r5, .int .i64 r6, .int .i64 r7, .int .i64 r8, .int .i64 r9, .int .i64 r10, .int .i64 r11, .int .i64 r12, .int .i64 r13]) ∧ Below w.heap.size w w' := by
 have hu116 := Try.underlying116
 have hu67 := Try.underlying67
 have hu114 := Try.underlying114
 have hu65 := Try.underlying65
 have hu89 := Try.underlying89
 have hu29 := Try.underlying29
 have HB := mk0 (Below.refl w.heap.size w)
 have H : ((laws_toColor.f a0_1 a0_2 a0_3 a0_4).bind fun bt148 => ((laws_toColor.f a0_5 a0_6 a0_7 a0_8).bind fun bt152 => ((laws_toPoint.f a0_9 a0_10).bind fun bt156 => ((laws_toPoint.f a0_11 a0_12).bind fun bt158 => (some (a0_0, bt148.1, bt148.2.1, bt148.2.2.1, bt148.2.2.2, bt152.1, bt152.2.1, bt152.2.2.1, bt152.2.2.2, bt156.1, bt156.2, bt158.1, bt158.2)))))) = some (r1, r2, r3, r4, r5, r6, r7, r8, r9, r10, r11, r12, r13) := h
 clear h
 replace H := Option.bind_eq_some_iff.mp H
 obtain ⟨⟨t148, t149, t150, t151⟩, A20, H⟩ := H
 try dsimp only at H
 have A2 := mk0 A20
 clear A20
 replace H := Option.bind_eq_some_iff.mp H
 obtain ⟨⟨t152, t153, t154, t155⟩, A30, H⟩ := H
 try dsimp only at H
 have A3 := mk0 A30
 clear A30
 replace H := Option.bind_eq_some_iff.mp H
 obtain ⟨⟨t156, t157⟩, A40, H⟩ := H
 try dsimp only at H
 have A4 := mk0 A40
 clear A40
 replace H := Option.bind_eq_some_iff.mp H
 obtain ⟨⟨t158, t159⟩, A50, H⟩ := H
 try dsimp only at H
 have A5 := mk0 A50
 clear A50
 simp only [Option.some.injEq, Prod.mk.injEq] at H
 obtain ⟨rfl, rfl, rfl, rfl, rfl, rfl, rfl, rfl, rfl, rfl, rfl, rfl, rfl⟩ := H
 go_enter Try.func103, Try.ntmps103
 go_wp2_with (first | ((with_reducible refine gate_dst (N := 1) rfl ?_); refine boxz (cs := #[.int .i64 a0_0, .int .i64 a0_1, .int .i64 a0_2, .int .i64 a0_3, .int .i64 a0_4, .int .i64 a0_5, .int .i64 a0_6, .int .i64 a0_7, .int .i64 a0_8, .int .i64 a0_9, .int .i64 a0_10, .int .i64 a0_11, .int .i64 a0_12]) (t := 116) rfl ?_; intro gb145 hg w6 hbox hb; have n0_ := mk0 (below_step z2_0 hb); have n1_ := mk0 (hbox); have GW145 := mk0 (ge_go (a := w.heap.size) hg (below_size z2_0)); have GE145 := GW145; clear HB; have HB := n0_; have BK145 := n1_; clear n0_ n1_ ; clear hb hbox hg) | ((with_reducible refine gate_dst (N := 2) rfl ?_); refine boxz (cs := #[.int .i64 0, .int .i64 0, .int .i64 0, .int .i64 0, .int .i64 0, .int .i64 0, .int .i64 0, .int .i64 0, .int .i64 0, .int .i64 0, .int .i64 0, .int .i64 0, .int .i64 0]) (t := 67) rfl ?_; intro gb146 hg w7 hbox hb; have n0_ := mk0 (blk_belowB BK145 (pkb BK145) hb); have n1_ := mk0 (below_step z2_18 hb); have n2_ := mk0 (hbox); have GW146 := mk0 (ge_go (a := w.heap.size) hg (below_size z2_18)); have GE146 := GW146; have NB145_146 := mk0 (nb_lt hg (blk_ltB BK145 (pkb BK145))); have NB146_145 := mk0 (nb_gt hg (blk_ltB BK145 (pkb BK145))); clear BK145 HB; have BK145 := n0_; have HB := n1_; have BK146 := n2_; clear n0_ n1_ n2_ ; clear hb hbox hg) | ((with_reducible refine gate_dst (N := 3) rfl ?_); refine boxz (cs := #[.int .i64 0, .int .i64 0, .int .i64 0, .int .i64 0, .int .i64 0, .int .i64 0, .int .i64 0, .int .i64 0, .int .i64 0, .int .i64 0, .int .i64 0, .int .i64 0, .int .i64 0]) (t := 67) rfl ?_; intro gb147 hg w8 hbox hb; have n0_ := mk0 (blk_belowB BK145 (pkb BK145) hb); have n1_ := mk0 (blk_belowB BK146 (pkb BK146) hb); have n2_ := mk0 (below_step z2_12 hb); have n3_ := mk0 (hbox); have GW147 := mk0 (ge_go (a := w.heap.size) hg (below_size z2_12)); have GE147 := GW147; have NB145_147 := mk0 (nb_lt hg (blk_ltB BK145 (pkb BK145))); have NB147_145 := mk0 (nb_gt hg (blk_ltB BK145 (pkb BK145))); have NB146_147 := mk0 (nb_lt hg (blk_ltB BK146 (pkb BK146))); have NB147_146 := mk0 (nb_gt hg (blk_ltB BK146 (pkb BK146))); clear BK145 BK146 HB; have BK145 := n0_; have BK146 := n1_; have HB := n2_; have BK147 := n3_; clear n0_ n1_ n2_ n3_ ; clear hb hbox hg; have hnb9 := NB145_146.out; have hnc9 := NB146_145.out; have hnb10 := NB145_147.out; have hnc10 := NB147_145.out; obtain ⟨_, _, _, _, _, _, _, _, _, _, _, _, _, _, _, _, _, _, _, _, _, _, _, _, _, _⟩ := be_13 BK145.out; have hnb12 := NB147_146.out; have hnc12 := NB146_147.out; obtain ⟨_, _, _, _, _, _, _, _, _, _, _, _, _, _, _, _, _, _, _, _, _, _, _, _, _, _⟩ := be_13 BK147.out) | ((with_reducible refine gate_callee (f := 113) rfl ?_); refine goesL_ (some 9) rfl rfl Try.func113 (by kernel_rfl) rfl #[.agg #[.int .i64 a0_1, .int .i64 a0_2, .int .i64 a0_3, .int .i64 a0_4]] rfl z2_4 ?_; (with_reducible refine (laws_toColor.calls a0_1 a0_2 a0_3 a0_4 t148 t149 t150 t151 _ A2.out).mono ?_); rintro e w14 ⟨rfl, hb⟩; refine ⟨_, rfl, ?_⟩; have n0_ := mk0 (blk_belowB BK145 (by (with_reducible repeat (first | refine blk_drewN ?_ _ | refine blk_drew ?_ | refine blk_alloc ?_ _)); refine blk_far ?_ NB145_147.out _; (with_reducible repeat (first | refine blk_drewN ?_ _ | refine blk_drew ?_ | refine blk_alloc ?_ _)); exact BK145.out) hb); have n1_ := mk0 (blk_belowB BK146 (by (with_reducible repeat (first | refine blk_drewN ?_ _ | refine blk_drew ?_ | refine blk_alloc ?_ _)); refine blk_far ?_ NB146_147.out _; (with_reducible repeat (first | refine blk_drewN ?_ _ | refine blk_drew ?_ | refine blk_alloc ?_ _)); exact BK146.out) hb); have n2_ := mk0 (blk_below (g := gb147) (o := .cells #[.int .i64 a0_0, .int .i64 0, .int .i64 0, .int .i64 0, .int .i64 0, .int .i64 0, .int .i64 0, .int .i64 0, .int .i64 0, .int .i64 0, .int .i64 0, .int .i64 0, .int .i64 0] 67 (0, 0)) z2_2 hb); have n3_ := mk0 (below_step z2_3 hb); clear BK145 BK146 BK147 HB; have BK145 := n0_; have BK146 := n1_; have BK147 := n2_; have HB := n3_; clear n0_ n1_ n2_ n3_; (try clear hb); obtain ⟨_, _, _, _, _, _, _, _, _, _, _, _, _, _, _, _, _, _, _, _, _, _, _, _, _, _⟩ := be_13 BK147.out; obtain ⟨_, _, _, _, _, _, _, _, _, _, _, _, _, _, _, _, _, _, _, _, _, _, _, _, _, _⟩ := be_13 BK145.out) | ((with_reducible refine gate_callee (f := 113) rfl ?_); refine goesL_ (some 13) rfl rfl Try.func113 (by kernel_rfl) rfl #[.agg #[.int .i64 a0_5, .int .i64 a0_6, .int .i64 a0_7, .int .i64 a0_8]] rfl z2_4 ?_; (with_reducible refine (laws_toColor.calls a0_5 a0_6 a0_7 a0_8 t152 t153 t154 t155 _ A3.out).mono ?_); rintro e w17 ⟨rfl, hb⟩; refine ⟨_, rfl, ?_⟩; have n0_ := mk0 (blk_belowB BK145 z2_5 hb); have n1_ := mk0 (blk_belowB BK146 z2_6 hb); have n2_ := mk0 (blk_below (g := gb147) (o := .cells #[.int .i64 a0_0, .int .i64 t148, .int .i64 t149, .int .i64 t150, .int .i64 t151, .int .i64 0, .int .i64 0, .int .i64 0, .int .i64 0, .int .i64 0, .int .i64 0, .int .i64 0, .int .i64 0] 67 (0, 0)) z2_2 hb); have n3_ := mk0 (below_step z2_3 hb); clear BK145 BK146 BK147 HB; have BK145 := n0_; have BK146 := n1_; have BK147 := n2_; have HB := n3_; clear n0_ n1_ n2_ n3_; (try clear hb); obtain ⟨_, _, _, _, _, _, _, _, _, _, _, _, _, _, _, _, _, _, _, _, _, _, _, _, _, _⟩ := be_13 BK147.out; obtain ⟨_, _, _, _, _, _, _, _, _, _, _, _, _, _, _, _, _, _, _, _, _, _, _, _, _, _⟩ := be_13 BK145.out) | ((with_reducible refine gate_callee (f := 63) rfl ?_); refine goesL_ (some 17) rfl rfl Try.func63 (by kernel_rfl) rfl #[.agg #[.int .i64 a0_9, .int .i64 a0_10]] rfl z2_4 ?_; (with_reducible refine (laws_toPoint.calls a0_9 a0_10 t156 t157 _ A4.out).mono ?_); rintro e w20 ⟨rfl, hb⟩; refine ⟨_, rfl, ?_⟩; have n0_ := mk0 (blk_belowB BK145 z2_5 hb); have n1_ := mk0 (blk_belowB BK146 z2_6 hb); have n2_ := mk0 (blk_below (g := gb147) (o := .cells #[.int .i64 a0_0, .int .i64 t148, .int .i64 t149, .int .i64 t150, .int .i64 t151, .int .i64 t152, .int .i64 t153, .int .i64 t154, .int .i64 t155, .int .i64 0, .int .i64 0, .int .i64 0, .int .i64 0] 67 (0, 0)) z2_2 hb); have n3_ := mk0 (below_step z2_3 hb); clear BK145 BK146 BK147 HB; have BK145 := n0_; have BK146 := n1_; have BK147 := n2_; have HB := n3_; clear n0_ n1_ n2_ n3_; (try clear hb); obtain ⟨_, _, _, _, _, _, _, _, _, _, _, _, _, _, _, _, _, _, _, _, _, _, _, _, _, _⟩ := be_13 BK147.out; obtain ⟨_, _, _, _, _, _, _, _, _, _, _, _, _, _, _, _, _, _, _, _, _, _, _, _, _, _⟩ := be_13 BK145.out) | ((with_reducible refine gate_callee (f := 63) rfl ?_); refine goesL_ (some 21) rfl rfl Try.func63 (by kernel_rfl) rfl #[.agg #[.int .i64 a0_11, .int .i64 a0_12]] rfl z2_4 ?_; (with_reducible refine (laws_toPoint.calls a0_11 a0_12 t158 t159 _ A5.out).mono ?_); rintro e w23 ⟨rfl, hb⟩; refine ⟨_, rfl, ?_⟩; have n0_ := mk0 (blk_belowB BK145 (by (with_reducible repeat (first | refine blk_drewN ?_ _ | refine blk_drew ?_ | refine blk_alloc ?_ _)); refine blk_far ?_ NB145_147.out _; (with_reducible repeat (first | refine blk_drewN ?_ _ | refine blk_drew ?_ | refine blk_alloc ?_ _)); refine blk_far ?_ NB145_147.out _; (with_reducible repeat (first | refine blk_drewN ?_ _ | refine blk_drew ?_ | refine blk_alloc ?_ _)); exact BK145.out) hb); have n1_ := mk0 (blk_belowB BK146 z2_13 hb); have n2_ := mk0 (blk_below (g := gb147) (o := .cells #[.int .i64 a0_0, .int .i64 t148, .int .i64 t149, .int .i64 t150, .int .i64 t151, .int .i64 t152, .int .i64 t153, .int .i64 t154, .int .i64 t155, .int .i64 t156, .int .i64 t157, .int .i64 0, .int .i64 0] 67 (0, 0)) z2_2 hb); have n3_ := mk0 (below_step z2_3 hb); clear BK145 BK146 BK147 HB; have BK145 := n0_; have BK146 := n1_; have BK147 := n2_; have HB := n3_; clear n0_ n1_ n2_ n3_; (try clear hb); obtain ⟨_, _, _, _, _, _, _, _, _, _, _, _, _, _, _, _, _, _, _, _, _, _, _, _, _, _⟩ := be_13 BK147.out; obtain ⟨_, _, _, _, _, _, _, _, _, _, _, _, _, _, _, _, _, _, _, _, _, _, _, _, _, _⟩ := be_13 BK146.out) | ((with_reducible refine gate_load (t := 67) rfl ?_); refine load_event (t := 67) rfl rfl (p := ⟨gb147, 0, none⟩) rfl [.int .i64 a0_0, .int .i64 t148, .int .i64 t149, .int .i64 t150, .int .i64 t151, .int .i64 t152, .int .i64 t153, .int .i64 t154, .int .i64 t155, .int .i64 t156, .int .i64 t157, .int .i64 t158, .int .i64 t159] _ (lie_of_blk (cs := #[.int .i64 a0_0, .int .i64 t148, .int .i64 t149, .int .i64 t150, .int .i64 t151, .int .i64 t152, .int .i64 t153, .int .i64 t154, .int .i64 t155, .int .i64 t156, .int .i64 t157, .int .i64 t158, .int .i64 t159]) (t := 67) z2_2) Try.underlying67 rfl (show (Try.prog.info? 67).map (·.size) = some 13 by kernel_rfl) ?_) | ((with_reducible refine gate_store (t := 67) (p := 2) rfl ?_); refine wstore_event rfl (t := 67) rfl (g := gb146) rfl #[.int .i64 a0_0, .int .i64 t148, .int .i64 t149, .int .i64 t150, .int .i64 t151, .int .i64 t152, .int .i64 t153, .int .i64 t154, .int .i64 t155, .int .i64 t156, .int .i64 t157, .int .i64 t158, .int .i64 t159] rfl (cs := #[.int .i64 0, .int .i64 0, .int .i64 0, .int .i64 0, .int .i64 0, .int .i64 0, .int .i64 0, .int .i64 0, .int .i64 0, .int .i64 0, .int .i64 0, .int .i64 0, .int .i64 0]) z2_13 rfl (show (Try.prog.info? 67).map (·.size) = some 13 by kernel_rfl) rfl ?_; simp only [World.setCells, Nat.reduceAdd]) | ((with_reducible refine gate_load (t := 67) rfl ?_); refine load_blk (t := 67) rfl rfl BK146 rfl z2_20 Try.underlying67 rfl (show (Try.prog.info? 67).map (·.size) = some 13 by kernel_rfl) rfl ?_) | ((with_reducible refine gate_store (t := 67) rfl ?_); refine wstore_blk (t := 67) rfl rfl BK146 rfl rfl z2_20 rfl (show (Try.prog.info? 67).map (·.size) = some 13 by kernel_rfl) rfl ?_; simp only [World.setCells, Nat.reduceAdd]) | ((with_reducible refine gate_load (t := 67) rfl ?_); refine load_blk (t := 67) rfl rfl BK147 rfl z2_21 Try.underlying67 rfl (show (Try.prog.info? 67).map (·.size) = some 13 by kernel_rfl) rfl ?_) | ((with_reducible refine gate_store (t := 67) rfl ?_); refine wstore_blk (t := 67) rfl rfl BK147 rfl rfl z2_21 rfl (show (Try.prog.info? 67).map (·.size) = some 13 by kernel_rfl) rfl ?_; simp only [World.setCells, Nat.reduceAdd]))
 refine bodyPost_ret (results_cell_row rfl _ _ gb146 67 #[.int .i64 a0_0, .int .i64 t148, .int .i64 t149, .int .i64 t150, .int .i64 t151, .int .i64 t152, .int .i64 t153, .int .i64 t154, .int .i64 t155, .int .i64 t156, .int .i64 t157, .int .i64 t158, .int .i64 t159] (0, 0) _ rfl (by apply blk_fin; (focus ((with_reducible repeat (first | apply blk_putQ | refine blk_farQ NB146_147.out ?_ | refine blk_drewN ?_ _ | refine blk_drew ?_ | refine blk_alloc ?_ _)); exact BK146.out)); first | (simp only [List.setIfInBounds_toArray, List.set_cons_zero, List.set_cons_succ]; done) | rfl) Try.underlying67 rfl (by kernel_rfl)) rfl ?_
 exact ⟨z2_7, z2_3⟩

end Go.Proofs.Ytjfienkbcacijaa.MFnExactUnderOf
