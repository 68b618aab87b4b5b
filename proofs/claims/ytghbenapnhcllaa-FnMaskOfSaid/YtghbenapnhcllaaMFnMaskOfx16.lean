/- Functions of the program as Lean functions, and the proof that a call comes to just these: machine text of this session's own program (myprint.py). -/
import Derived.Test.YtghbenapnhcllaaMFnMaskOfx0
import Derived.Test.YtghbenapnhcllaaMFnMaskOfx15
namespace Go.Proofs.Ytghbenapnhcllaa.MFnMaskOf
open Go.RowKit Go.Proofs.YtghbenapnhcllaaW.PrintWords Go.Proofs.YtghbenapnhcllaaW.PrintLast Go.Proofs.YtghbenapnhcllaaW.PrintMore
attribute [local go_sem] max2_int min2_int max_two min_two max_three min_three max_four min_four   -- for this text's walks alone
set_option linter.unusedVariables false
set_option linter.unusedSimpArgs false

theorem z16_0 {P : Prop} (h : P := by repeat (first | (with_reducible first | exact HB.out | apply below_alloc | apply pw_below_drewN | apply below_drew1 | refine below_set ?_ GE548.out) | exact HB.out)) : P := h
theorem z16_1 {P : Prop} (h : P := by (with_reducible repeat (first | refine blk_drewN ?_ _ | refine blk_drew ?_ | refine blk_alloc ?_ _)); refine blk_far ?_ NB548_551.out _; (with_reducible repeat (first | refine blk_drewN ?_ _ | refine blk_drew ?_ | refine blk_alloc ?_ _)); refine blk_far ?_ NB548_551.out _; (with_reducible repeat (first | refine blk_drewN ?_ _ | refine blk_drew ?_ | refine blk_alloc ?_ _)); exact BK548.out) : P := h
theorem z16_2 {P : Prop} (h : P := by repeat (first | (with_reducible first | exact HB.out | apply below_alloc | apply pw_below_drewN | apply below_drew1 | refine below_set ?_ GE548.out | refine below_set ?_ GE551.out | refine below_set ?_ GE553.out) | exact HB.out)) : P := h
theorem z16_3 {P : Prop} (h : P := by repeat (first | (with_reducible first | exact HB.out | apply below_alloc | apply pw_below_drewN | apply below_drew1) | exact HB.out)) : P := h
theorem z16_4 {P : Prop} (h : P := by (with_reducible repeat (first | refine blk_drewN ?_ _ | refine blk_drew ?_ | refine blk_alloc ?_ _)); exact BK548.out) : P := h
theorem z16_5 {P : Prop} (h : P := by apply blk_fin; (focus ((with_reducible repeat (first | apply blk_putQ | refine blk_drewN ?_ _ | refine blk_drew ?_ | refine blk_alloc ?_ _)); exact BK551.out)); first | (simp only [List.setIfInBounds_toArray, List.set_cons_zero, List.set_cons_succ]; done) | rfl) : P := h
theorem z16_6 {P : Prop} (h : P := by (try simp only [List.map_toArray, List.map_cons, List.map_nil]); first | done | rfl | (simp only [List.length_drop, List.length_take]; rfl)) : P := h
theorem z16_7 {P : Prop} (h : P := by repeat (first | (with_reducible first | exact HB.out | apply below_alloc | apply pw_below_drewN | apply below_drew1 | refine below_set ?_ GE548.out | refine below_set ?_ GE551.out) | exact HB.out)) : P := h
theorem z16_8 {P : Prop} (h : P := by (with_reducible repeat (first | refine blk_drewN ?_ _ | refine blk_drew ?_ | refine blk_alloc ?_ _)); refine blk_far ?_ NB548_553.out _; (with_reducible repeat (first | refine blk_drewN ?_ _ | refine blk_drew ?_ | refine blk_alloc ?_ _)); refine blk_far ?_ NB548_553.out _; (with_reducible repeat (first | refine blk_drewN ?_ _ | refine blk_drew ?_ | refine blk_alloc ?_ _)); exact BK548.out) : P := h
theorem z16_9 {P : Prop} (h : P := by (with_reducible repeat (first | refine blk_drewN ?_ _ | refine blk_drew ?_ | refine blk_alloc ?_ _)); refine blk_far ?_ NB551_553.out _; (with_reducible repeat (first | refine blk_drewN ?_ _ | refine blk_drew ?_ | refine blk_alloc ?_ _)); refine blk_far ?_ NB551_553.out _; (with_reducible repeat (first | refine blk_drewN ?_ _ | refine blk_drew ?_ | refine blk_alloc ?_ _)); exact BK551.out) : P := h
theorem z16_10 {P : Prop} (h : P := by apply blk_fin; (focus ((with_reducible repeat (first | apply blk_putQ | refine blk_drewN ?_ _ | refine blk_drew ?_ | refine blk_alloc ?_ _)); exact BK553.out)); first | (simp only [List.setIfInBounds_toArray, List.set_cons_zero, List.set_cons_succ]; done) | rfl) : P := h
theorem z16_11 {P : Prop} (h : P := by first | (rw [add_block]; exact hn552_0) | (show (Addr.add _ _).block ≠ _; rw [add_block]; exact hn552_0) | exact hn552_0) : P := h
theorem z16_12 {P : Prop} (h : P := by first | (rw [add_block]; exact hn552_1) | (show (Addr.add _ _).block ≠ _; rw [add_block]; exact hn552_1) | exact hn552_1) : P := h
/-! ### spec_WindOf: function 142 -/
mutual
def spec_WindOf.l0 : Nat → List (S52) → Int → Int → Int → Int → Option (Int)
 | 0, _, _, _, _, _ => none
 | k + 1, x0, x5, x6, x549000, x549001 => if x6 < (x0.length : Int) then (if 0 ≤ x6 then (if (x0.length : Int) = 0 then (none) else (if 0 ≤ (Int.tmod (wrap64 (x6 + 1)) (x0.length : Int)) then (if (Int.tmod (wrap64 (x6 + 1)) (x0.length : Int)) < (x0.length : Int) then ((spec_l10Near.f ((rd_T52 x0 x6).f0) ((rd_T52 x0 x6).f1)).bind fun t554 => (if t554 = true then ((spec_l10Near.f ((rd_T52 x0 (Int.tmod (wrap64 (x6 + 1)) (x0.length : Int))).f0) ((rd_T52 x0 (Int.tmod (wrap64 (x6 + 1)) (x0.length : Int))).f1)).bind fun t555 => (spec_WindOf.j1 k x0 x5 x6 (!t555) x549000 x549001 ((rd_T52 x0 x6).f0) ((rd_T52 x0 x6).f1) ((rd_T52 x0 (Int.tmod (wrap64 (x6 + 1)) (x0.length : Int))).f0) ((rd_T52 x0 (Int.tmod (wrap64 (x6 + 1)) (x0.length : Int))).f1))) else (spec_WindOf.j1 k x0 x5 x6 true x549000 x549001 ((rd_T52 x0 x6).f0) ((rd_T52 x0 x6).f1) ((rd_T52 x0 (Int.tmod (wrap64 (x6 + 1)) (x0.length : Int))).f0) ((rd_T52 x0 (Int.tmod (wrap64 (x6 + 1)) (x0.length : Int))).f1)))) else (none)) else (none))) else (none)) else (some x5)
def spec_WindOf.j1 : Nat → List (S52) → Int → Int → Bool → Int → Int → Int → Int → Int → Int → Option (Int)
 | 0, _, _, _, _, _, _, _, _, _, _ => none
 | k + 1, x0, x5, x6, x38, x549000, x549001, x552000, x552001, x554000, x554001 => if x38 = true then (some 0) else (if x552001 ≤ x549001 then (if x549001 < x554001 then (spec_WindOf.j2 k x0 x5 x6 (wrap64 ((wrap64 ((wrap64 (x554000 - x552000)) * (wrap64 (x549001 - x552001)))) - (wrap64 ((wrap64 (x549000 - x552000)) * (wrap64 (x554001 - x552001)))))) (decide ((wrap64 ((wrap64 ((wrap64 (x554000 - x552000)) * (wrap64 (x549001 - x552001)))) - (wrap64 ((wrap64 (x549000 - x552000)) * (wrap64 (x554001 - x552001)))))) > 0)) x549000 x549001 x552000 x552001 x554000 x554001) else (spec_WindOf.j2 k x0 x5 x6 (wrap64 ((wrap64 ((wrap64 (x554000 - x552000)) * (wrap64 (x549001 - x552001)))) - (wrap64 ((wrap64 (x549000 - x552000)) * (wrap64 (x554001 - x552001)))))) false x549000 x549001 x552000 x552001 x554000 x554001)) else (spec_WindOf.j2 k x0 x5 x6 (wrap64 ((wrap64 ((wrap64 (x554000 - x552000)) * (wrap64 (x549001 - x552001)))) - (wrap64 ((wrap64 (x549000 - x552000)) * (wrap64 (x554001 - x552001)))))) false x549000 x549001 x552000 x552001 x554000 x554001))
def spec_WindOf.j2 : Nat → List (S52) → Int → Int → Int → Bool → Int → Int → Int → Int → Int → Int → Option (Int)
 | 0, _, _, _, _, _, _, _, _, _, _, _ => none
 | k + 1, x0, x5, x6, x9, x77, x549000, x549001, x552000, x552001, x554000, x554001 => if x77 = true then (if x554001 ≤ x549001 then (if x549001 < x552001 then (if x9 < 0 then (spec_WindOf.l0 k x0 (wrap64 ((wrap64 (x5 + 1)) - 1)) (wrap64 (x6 + 1)) x549000 x549001) else (spec_WindOf.l0 k x0 (wrap64 (x5 + 1)) (wrap64 (x6 + 1)) x549000 x549001)) else (spec_WindOf.l0 k x0 (wrap64 (x5 + 1)) (wrap64 (x6 + 1)) x549000 x549001)) else (spec_WindOf.l0 k x0 (wrap64 (x5 + 1)) (wrap64 (x6 + 1)) x549000 x549001)) else (if x554001 ≤ x549001 then (if x549001 < x552001 then (if x9 < 0 then (spec_WindOf.l0 k x0 (wrap64 (x5 - 1)) (wrap64 (x6 + 1)) x549000 x549001) else (spec_WindOf.l0 k x0 x5 (wrap64 (x6 + 1)) x549000 x549001)) else (spec_WindOf.l0 k x0 x5 (wrap64 (x6 + 1)) x549000 x549001)) else (spec_WindOf.l0 k x0 x5 (wrap64 (x6 + 1)) x549000 x549001))
end
def spec_WindOf.f (k : Nat) (l0 : List (S52)) (a1_0 : Int) (a1_1 : Int) : Option (Int) := (spec_l10Near.f a1_0 a1_1).bind fun t549 => (if t549 = true then (spec_WindOf.l0 k l0 0 0 a1_0 a1_1) else (some 0))
theorem spec_WindOf.mono_l : ∀ k, (∀ y0 y1 y2 y3 y4, LeO (spec_WindOf.l0 k y0 y1 y2 y3 y4) (spec_WindOf.l0 (k + 1) y0 y1 y2 y3 y4)) ∧ (∀ y0 y1 y2 y3 y4 y5 y6 y7 y8 y9, LeO (spec_WindOf.j1 k y0 y1 y2 y3 y4 y5 y6 y7 y8 y9) (spec_WindOf.j1 (k + 1) y0 y1 y2 y3 y4 y5 y6 y7 y8 y9)) ∧ (∀ y0 y1 y2 y3 y4 y5 y6 y7 y8 y9 y10, LeO (spec_WindOf.j2 k y0 y1 y2 y3 y4 y5 y6 y7 y8 y9 y10) (spec_WindOf.j2 (k + 1) y0 y1 y2 y3 y4 y5 y6 y7 y8 y9 y10))
 | 0 => ⟨fun _ _ _ _ _ r h => by simp [spec_WindOf.l0] at h, fun _ _ _ _ _ _ _ _ _ _ r h => by simp [spec_WindOf.j1] at h, fun _ _ _ _ _ _ _ _ _ _ _ r h => by simp [spec_WindOf.j2] at h⟩
 | k + 1 => by
  obtain ⟨ih0, ih1, ih2⟩ := spec_WindOf.mono_l k
  refine ⟨?_, ?_, ?_⟩
  ·intro y0 y1 y2 y3 y4
   unfold spec_WindOf.l0
   repeat' first
   | (with_reducible exact ih0 _ _ _ _ _)
   | (with_reducible exact ih1 _ _ _ _ _ _ _ _ _ _)
   | (with_reducible exact ih2 _ _ _ _ _ _ _ _ _ _ _)
   | (with_reducible exact LeO.refl _)
   | (with_reducible exact LeO.none _)
   | (with_reducible refine LeO.ite ?_ ?_)
   | (with_reducible refine LeO.bind ?_ (fun _ => ?_))
   | exact ih0 _ _ _ _ _
   | exact ih1 _ _ _ _ _ _ _ _ _ _
   | exact ih2 _ _ _ _ _ _ _ _ _ _ _
   | exact LeO.none _
   | refine LeO.ite ?_ ?_
   | refine LeO.bind ?_ (fun _ => ?_)
  ·intro y0 y1 y2 y3 y4 y5 y6 y7 y8 y9
   unfold spec_WindOf.j1
   repeat' first
   | (with_reducible exact ih0 _ _ _ _ _)
   | (with_reducible exact ih1 _ _ _ _ _ _ _ _ _ _)
   | (with_reducible exact ih2 _ _ _ _ _ _ _ _ _ _ _)
   | (with_reducible exact LeO.refl _)
   | (with_reducible exact LeO.none _)
   | (with_reducible refine LeO.ite ?_ ?_)
   | (with_reducible refine LeO.bind ?_ (fun _ => ?_))
   | exact ih0 _ _ _ _ _
   | exact ih1 _ _ _ _ _ _ _ _ _ _
   | exact ih2 _ _ _ _ _ _ _ _ _ _ _
   | exact LeO.none _
   | refine LeO.ite ?_ ?_
   | refine LeO.bind ?_ (fun _ => ?_)
  ·intro y0 y1 y2 y3 y4 y5 y6 y7 y8 y9 y10
   unfold spec_WindOf.j2
   repeat' first
   | (with_reducible exact ih0 _ _ _ _ _)
   | (with_reducible exact ih1 _ _ _ _ _ _ _ _ _ _)
   | (with_reducible exact ih2 _ _ _ _ _ _ _ _ _ _ _)
   | (with_reducible exact LeO.refl _)
   | (with_reducible exact LeO.none _)
   | (with_reducible refine LeO.ite ?_ ?_)
   | (with_reducible refine LeO.bind ?_ (fun _ => ?_))
   | exact ih0 _ _ _ _ _
   | exact ih1 _ _ _ _ _ _ _ _ _ _
   | exact ih2 _ _ _ _ _ _ _ _ _ _ _
   | exact LeO.none _
   | refine LeO.ite ?_ ?_
   | refine LeO.bind ?_ (fun _ => ?_)
theorem spec_WindOf.mono : ∀ a0 a1 a2 k, LeO (spec_WindOf.f k a0 a1 a2) (spec_WindOf.f (k + 1) a0 a1 a2) := by
 intro a0 a1 a2 k
 obtain ⟨ih0, ih1, ih2⟩ := spec_WindOf.mono_l k
 unfold spec_WindOf.f
 repeat' first
   | (with_reducible exact ih0 _ _ _ _ _)
   | (with_reducible exact ih1 _ _ _ _ _ _ _ _ _ _)
   | (with_reducible exact ih2 _ _ _ _ _ _ _ _ _ _ _)
   | (with_reducible exact LeO.refl _)
   | (with_reducible exact LeO.none _)
   | (with_reducible refine LeO.ite ?_ ?_)
   | (with_reducible refine LeO.bind ?_ (fun _ => ?_))
   | exact ih0 _ _ _ _ _
   | exact ih1 _ _ _ _ _ _ _ _ _ _
   | exact ih2 _ _ _ _ _ _ _ _ _ _ _
   | exact LeO.none _
   | refine LeO.ite ?_ ?_
   | refine LeO.bind ?_ (fun _ => ?_)
set_option maxHeartbeats 8000000 in
set_option maxRecDepth 100000 in
theorem spec_WindOf.calls (k : Nat) (A0 : Option Addr) (c0 : Nat) (l0 : List (S52)) (a1_0 : Int) (a1_1 : Int) (r : Int) (w : World) (hr0 : Kd.C k52 w A0 l0.length l0) (hc0 : l0.length ≤ c0) (h : spec_WindOf.f k l0 a1_0 a1_1 = some r) :
  Calls Try.prog 142 #[.slice A0 l0.length c0, .agg #[.int .i64 a1_0, .int .i64 a1_1]] w fun e w' => e = .returned (.int .i64 r) ∧ Below w.heap.size w w' := by
 have hu52 := Try.underlying52
 have HR0 := Aside0.mk hr0
 have HC0 := Aside0.mk hc0
 clear hr0 hc0
 have HB := Aside0.mk (Below.refl w.heap.size w)
 have H : ((spec_l10Near.f a1_0 a1_1).bind fun t549 => (if t549 = true then (spec_WindOf.l0 k l0 0 0 a1_0 a1_1) else (some 0))) = some r := h
 clear h
 replace H := Option.bind_eq_some_iff.mp H
 obtain ⟨t549, A30, H⟩ := H
 try dsimp only at H
 have A3 := Aside0.mk A30
 clear A30
 by_cases c4 : t549 = true
 ·subst c4
  have H1 : (spec_WindOf.l0 k l0 0 0 a1_0 a1_1) = some r := by rw [if_pos rfl] at H; exact H
  clear H; have H := H1; clear H1
  have H' := Aside0.mk H
  clear H
  go_enter Try.func142, Try.ntmps142
  go_wp2_with (first | ((with_reducible refine gate_dst (N := 3) rfl ?_); refine boxz (cs := #[.int .i64 a1_0, .int .i64 a1_1]) (t := 52) rfl ?_; intro gb548 hg w5 hbox hb; have n0_ := Aside0.mk (below_step z16_3 hb); have n1_ := Aside0.mk (hbox); have n2_ := Aside0.mk (ge_go (a := w.heap.size) hg (below_size z16_3)); have n3_ := Aside0.mk (ge_go (a := w.heap.size) hg (below_size z16_3)); clear HB; have HB := n0_; have BK548 := n1_; have GW548 := n2_; have GE548 := n3_; clear n0_ n1_ n2_ n3_; clear hb hbox hg; obtain ⟨_, _, _, _⟩ := be_2 BK548.out) | ((with_reducible refine gate_callee (f := 151) rfl ?_); refine goesL_ (some 11) rfl rfl Try.func151 (by kernel_rfl) rfl #[.agg #[.int .i64 a1_0, .int .i64 a1_1]] rfl z16_6 ?_; (with_reducible refine (spec_l10Near.calls a1_0 a1_1 true _ A3.out).mono ?_); rintro e w7 ⟨rfl, hb⟩; refine ⟨_, rfl, ?_⟩; have n0_ := Aside0.mk (blk_belowB BK548 z16_4 hb); have n1_ := Aside0.mk (below_step z16_0 hb); clear BK548; clear HB; have BK548 := n0_; have HB := n1_; clear n0_ n1_; (try clear hb)))
  go_loopg [5, 6] k (fun kq v5 v6 w' => ∃ (x5_1 : Int) (x6_1 : Int), v5 = .int .i64 x5_1 ∧ v6 = .int .i64 x6_1 ∧ Aside0 (spec_WindOf.l0 kq l0 x5_1 x6_1 a1_0 a1_1 = some r) ∧ Aside0 (kq ≤ k) ∧ Aside0 (w'.heap[gb548]? = some (.cells #[.int .i64 a1_0, .int .i64 a1_1] 52 (0, 0))) ∧ Aside0 (Below w.heap.size w w'))
  case atStart => exact ⟨(0), (0), (by first | rfl | (simp; done) | (simp [*]; done)), (by first | rfl | (simp; done) | (simp [*]; done)), H', ⟨Nat.le_refl _⟩, ⟨by (with_reducible repeat (first | refine blk_drewN ?_ _ | refine blk_drew ?_ | refine blk_alloc ?_ _)); exact BK548.out⟩, ⟨by repeat (first | (with_reducible first | exact HB.out | apply below_alloc | apply pw_below_drewN | apply below_drew1 | refine below_set ?_ GE548.out) | exact HB.out)⟩⟩
  case round =>
   clear H'
   try clear c1
   try clear p2
   try clear c4
   try clear hcz6_0
   try clear hcz6_1
   try clear hfz6_0
   try clear hfz6_1
   obtain ⟨x5_1, x6_1, rfl, rfl, HA, HK1, BK548, HB⟩ := hrel
   cases gk with
   | zero => exact absurd HA.out (by simp [spec_WindOf.l0])
   | succ k1 =>
    have H := HA.out; clear HA
    simp only [spec_WindOf.l0] at H
    by_cases c8 : x6_1 < (l0.length : Int)
    ·rw [if_pos c8] at H
     have c8b0 : decide (x6_1 < (l0.length : Int)) = true := decide_eq_true c8
     clear c8
     by_cases c9 : 0 ≤ x6_1
     ·rw [if_pos c9] at H
      have c9b0 : decide (0 ≤ x6_1) = true := decide_eq_true c9
      clear c9
      by_cases c10 : (l0.length : Int) = 0
      ·rw [if_pos c10] at H
       exact absurd H (by simp)
      ·rw [if_neg c10] at H
       have c10b0 : ((l0.length : Int) == 0) = false := beq_eq_false_iff_ne.mpr c10
       have c10b1 : ((l0.length : Int) != 0) = true := bne_iff_ne.mpr c10
       have c10b2 : ¬ (l0 = []) := fun h_ => c10 (by rw [h_]; rfl)
       obtain ⟨ji11, hji11⟩ : ∃ j_ : Int, (Int.tmod (wrap64 (x6_1 + 1)) (l0.length : Int)) = j_ := ⟨_, rfl⟩
       replace H : (if 0 ≤ (ji11) then (if (ji11) < (l0.length : Int) then ((spec_l10Near.f ((rd_T52 l0 x6_1).f0) ((rd_T52 l0 x6_1).f1)).bind fun t554 => (if t554 = true then ((spec_l10Near.f ((rd_T52 l0 (ji11)).f0) ((rd_T52 l0 (ji11)).f1)).bind fun t555 => (spec_WindOf.j1 k1 l0 x5_1 x6_1 (!t555) a1_0 a1_1 ((rd_T52 l0 x6_1).f0) ((rd_T52 l0 x6_1).f1) ((rd_T52 l0 (ji11)).f0) ((rd_T52 l0 (ji11)).f1))) else (spec_WindOf.j1 k1 l0 x5_1 x6_1 true a1_0 a1_1 ((rd_T52 l0 x6_1).f0) ((rd_T52 l0 x6_1).f1) ((rd_T52 l0 (ji11)).f0) ((rd_T52 l0 (ji11)).f1)))) else (none)) else (none)) = some r := by first | (rw [hji11] at H; exact H) | (simp only [hji11] at H ⊢; exact H)
       by_cases c12 : 0 ≤ (ji11)
       ·rw [if_pos c12] at H
        have c12b0 : decide (0 ≤ (ji11)) = true := decide_eq_true c12
        clear c12
        by_cases c13 : (ji11) < (l0.length : Int)
        ·rw [if_pos c13] at H
         have c13b0 : decide ((ji11) < (l0.length : Int)) = true := decide_eq_true c13
         clear c13
         have HC14 := Aside0.mk H
         clear H
         have p550 : 0 ≤ (x6_1 : Int) := of_decide_eq_true (by first | (with_reducible assumption) | assumption)
         have q550 : x6_1 < (l0.length : Int) := of_decide_eq_true (by first | (with_reducible assumption) | assumption)
         obtain ⟨ad550, e550, hx550_0, hx550_1⟩ := at_T52 HR0.out x6_1 p550 q550
         cases e550
         replace hx550_0 := cell_go HB hx550_0
         replace hx550_1 := cell_go HB hx550_1
         replace p550 := eq_true p550
         replace q550 := eq_true q550
         go_upto_region 9 with (first | ((with_reducible refine gate_dst (N := 7) rfl ?_); refine boxz (cs := #[.int .i64 0, .int .i64 0]) (t := 52) rfl ?_; intro gb551 hg w15 hbox hb; have n0_ := Aside0.mk (blk_belowB BK548 z16_4 hb); have n1_ := Aside0.mk (below_step z16_0 hb); have n2_ := Aside0.mk (hbox); have n3_ := Aside0.mk (ge_go (a := w.heap.size) hg (below_size z16_0)); have n4_ := Aside0.mk (ge_go (a := w.heap.size) hg (below_size z16_0)); have n5_ := Aside0.mk (nb_lt hg (blk_ltB BK548 z16_4)); have n6_ := Aside0.mk (nb_gt hg (blk_ltB BK548 z16_4)); clear BK548; clear HB; have BK548 := n0_; have HB := n1_; have BK551 := n2_; have GW551 := n3_; have GE551 := n4_; have NB548_551 := n5_; have NB551_548 := n6_; clear n0_ n1_ n2_ n3_ n4_ n5_ n6_; clear hb hbox hg; have hnb16 := NB551_548.out; have hnc16 := NB548_551.out; have hcz17_0 : w15.cell? ⟨gb551, 0, none⟩ = some (.int .i64 0) := (blk_cell BK551.out 0).trans rfl; have hcz17_1 : w15.cell? ⟨gb551, 1, none⟩ = some (.int .i64 0) := (blk_cell BK551.out 1).trans rfl; have hfz17_0 := blk_frozen BK551.out 0; have hfz17_1 := blk_frozen BK551.out 1; have p552 : 0 ≤ ((ji11) : Int) := of_decide_eq_true (by first | (with_reducible assumption) | assumption); have q552 : (ji11) < (l0.length : Int) := of_decide_eq_true (by first | (with_reducible assumption) | assumption); obtain ⟨ad552, e552, hx552_0, hx552_1⟩ := at_T52 HR0.out (ji11) p552 q552; obtain rfl : ad550 = ad552 := (by injection e552); have hn552_0 : ad550.block ≠ gb551 := Nat.ne_of_lt (Nat.lt_of_lt_of_le (by have := World.block_lt_of_cell? _ _ hx552_0; first | rwa [add_block] at this | exact this) GW551.out); have hn552_1 : ad550.block ≠ gb551 := Nat.ne_of_lt (Nat.lt_of_lt_of_le (by have := World.block_lt_of_cell? _ _ hx552_0; first | rwa [add_block] at this | exact this) GW551.out); replace hx552_0 := cell_go HB hx552_0; replace hx552_1 := cell_go HB hx552_1; replace hx552_0 := (cell_far (p := ⟨gb551, 0, none⟩) z16_11 (.int .i64 ((rd_T52 l0 x6_1).f0))).trans hx552_0; replace hx552_1 := (cell_far (p := ⟨gb551, 0, none⟩) z16_11 (.int .i64 ((rd_T52 l0 x6_1).f0))).trans hx552_1; replace hx552_0 := (cell_far (p := ⟨gb551, 1, none⟩) z16_12 (.int .i64 ((rd_T52 l0 x6_1).f1))).trans hx552_0; replace hx552_1 := (cell_far (p := ⟨gb551, 1, none⟩) z16_12 (.int .i64 ((rd_T52 l0 x6_1).f1))).trans hx552_1; clear hn552_0; clear hn552_1; replace p552 := eq_true p552; replace q552 := eq_true q552) | ((with_reducible refine gate_dst (N := 8) rfl ?_); refine boxz (cs := #[.int .i64 0, .int .i64 0]) (t := 52) rfl ?_; intro gb553 hg w18 hbox hb; have n0_ := Aside0.mk (blk_belowB BK548 z16_1 hb); have n1_ := Aside0.mk (blk_below (g := gb551) (o := .cells #[.int .i64 ((rd_T52 l0 x6_1).f0), .int .i64 ((rd_T52 l0 x6_1).f1)] 52 (0, 0)) z16_5 hb); have n2_ := Aside0.mk (below_step z16_7 hb); have n3_ := Aside0.mk (hbox); have n4_ := Aside0.mk (ge_go (a := w.heap.size) hg (below_size z16_7)); have n5_ := Aside0.mk (ge_go (a := w.heap.size) hg (below_size z16_7)); have n6_ := Aside0.mk (nb_lt hg (blk_ltB BK548 z16_1)); have n7_ := Aside0.mk (nb_gt hg (blk_ltB BK548 z16_1)); have n8_ := Aside0.mk ((by rw [hg]; exact Nat.ne_of_lt (blk_lt (g := gb551) (o := .cells #[.int .i64 ((rd_T52 l0 x6_1).f0), .int .i64 ((rd_T52 l0 x6_1).f1)] 52 (0, 0)) z16_5) : gb551 ≠ gb553)); have n9_ := Aside0.mk ((by rw [hg]; exact Nat.ne_of_gt (blk_lt (g := gb551) (o := .cells #[.int .i64 ((rd_T52 l0 x6_1).f0), .int .i64 ((rd_T52 l0 x6_1).f1)] 52 (0, 0)) z16_5) : gb553 ≠ gb551)); clear BK548; clear BK551; clear HB; have BK548 := n0_; have BK551 := n1_; have HB := n2_; have BK553 := n3_; have GW553 := n4_; have GE553 := n5_; have NB548_553 := n6_; have NB553_548 := n7_; have NB551_553 := n8_; have NB553_551 := n9_; clear n0_ n1_ n2_ n3_ n4_ n5_ n6_ n7_ n8_ n9_; clear hb hbox hg; have hnb19 := NB553_548.out; have hnc19 := NB548_553.out; have hnb20 := NB553_551.out; have hnc20 := NB551_553.out; have hcz21_0 : w18.cell? ⟨gb553, 0, none⟩ = some (.int .i64 0) := (blk_cell BK553.out 0).trans rfl; have hcz21_1 : w18.cell? ⟨gb553, 1, none⟩ = some (.int .i64 0) := (blk_cell BK553.out 1).trans rfl; have hfz21_0 := blk_frozen BK553.out 0; have hfz21_1 := blk_frozen BK553.out 1))
         (try simp only [Act.put, List.setIfInBounds_toArray, List.set_cons_zero, List.set_cons_succ])
         go_cut [38] (fun v38 wc => ∃ (kq : Nat) (x38_13 : Bool), v38 = .bool x38_13 ∧ Aside0 (spec_WindOf.j1 kq l0 x5_1 x6_1 x38_13 a1_0 a1_1 ((rd_T52 l0 x6_1).f0) ((rd_T52 l0 x6_1).f1) ((rd_T52 l0 (ji11)).f0) ((rd_T52 l0 (ji11)).f1) = some r) ∧ Aside0 (kq ≤ k1) ∧ Aside0 (wc.heap[gb548]? = some (.cells #[.int .i64 a1_0, .int .i64 a1_1] 52 (0, 0))) ∧ Aside0 (wc.heap[gb551]? = some (.cells #[.int .i64 ((rd_T52 l0 x6_1).f0), .int .i64 ((rd_T52 l0 x6_1).f1)] 52 (0, 0))) ∧ Aside0 (wc.heap[gb553]? = some (.cells #[.int .i64 ((rd_T52 l0 (ji11)).f0), .int .i64 ((rd_T52 l0 (ji11)).f1)] 52 (0, 0))) ∧ Aside0 (Below w.heap.size w wc))
         case first =>
          have H := HC14.out; clear HC14
          replace H := Option.bind_eq_some_iff.mp H
          obtain ⟨t554, A220, H⟩ := H
          try dsimp only at H
          have A22 := Aside0.mk A220
          clear A220
          by_cases c23 : t554 = true
          ·subst c23
           have H1 : ((spec_l10Near.f ((rd_T52 l0 (ji11)).f0) ((rd_T52 l0 (ji11)).f1)).bind fun t555 => (spec_WindOf.j1 k1 l0 x5_1 x6_1 (!t555) a1_0 a1_1 ((rd_T52 l0 x6_1).f0) ((rd_T52 l0 x6_1).f1) ((rd_T52 l0 (ji11)).f0) ((rd_T52 l0 (ji11)).f1))) = some r := by rw [if_pos rfl] at H; exact H
           clear H; have H := H1; clear H1
           replace H := Option.bind_eq_some_iff.mp H
           obtain ⟨t555, A240, H⟩ := H
           try dsimp only at H
           have A24 := Aside0.mk A240
           clear A240
           have H' := Aside0.mk H
           clear H; have hnb25 := NB551_548.out; have hnc25 := NB548_551.out; have hnb26 := NB551_553.out; have hnc26 := NB553_551.out
           obtain ⟨_, _, _, _⟩ := be_2 BK551.out
           go_wp2_with (first | ((with_reducible refine gate_callee (f := 151) rfl ?_); refine goesL_ (some 32) rfl rfl Try.func151 (by kernel_rfl) rfl #[.agg #[.int .i64 ((rd_T52 l0 x6_1).f0), .int .i64 ((rd_T52 l0 x6_1).f1)]] rfl z16_6 ?_; (with_reducible refine (spec_l10Near.calls ((rd_T52 l0 x6_1).f0) ((rd_T52 l0 x6_1).f1) true _ A22.out).mono ?_); rintro e w28 ⟨rfl, hb⟩; refine ⟨_, rfl, ?_⟩; have n0_ := Aside0.mk (blk_belowB BK548 z16_8 hb); have n1_ := Aside0.mk (blk_belowB BK551 z16_9 hb); have n2_ := Aside0.mk (blk_below (g := gb553) (o := .cells #[.int .i64 ((rd_T52 l0 (ji11)).f0), .int .i64 ((rd_T52 l0 (ji11)).f1)] 52 (0, 0)) z16_10 hb); have n3_ := Aside0.mk (below_step z16_2 hb); clear BK548; clear BK551; clear BK553; clear HB; have BK548 := n0_; have BK551 := n1_; have BK553 := n2_; have HB := n3_; clear n0_ n1_ n2_ n3_; (try clear hb); have hnb29 := NB553_548.out; have hnc29 := NB548_553.out; obtain ⟨_, _, _, _⟩ := be_2 BK553.out) | (go_at_call 151; (with_reducible refine (spec_l10Near.calls ((rd_T52 l0 (ji11)).f0) ((rd_T52 l0 (ji11)).f1) t555 _ A24.out).mono ?_); rintro e w31 ⟨rfl, hb⟩; have n0_ := Aside0.mk (blk_belowB BK548 z16_4 hb); have n1_ := Aside0.mk (blk_belowB BK551 (by (with_reducible repeat (first | refine blk_drewN ?_ _ | refine blk_drew ?_ | refine blk_alloc ?_ _)); exact BK551.out) hb); have n2_ := Aside0.mk (blk_belowB BK553 (by (with_reducible repeat (first | refine blk_drewN ?_ _ | refine blk_drew ?_ | refine blk_alloc ?_ _)); exact BK553.out) hb); have n3_ := Aside0.mk (below_step z16_2 hb); clear BK548; clear BK551; clear BK553; clear HB; have BK548 := n0_; have BK551 := n1_; have BK553 := n2_; have HB := n3_; clear n0_ n1_ n2_ n3_; (try clear hb)))
           go_meet
           case rel => exact ⟨_, (!t555), (by first | rfl | (simp; done) | (simp [*]; done)), H', ⟨by have := HK1.out; first | omega | exact Nat.le_refl _⟩, ⟨by (with_reducible repeat (first | refine blk_drewN ?_ _ | refine blk_drew ?_ | refine blk_alloc ?_ _)); exact BK548.out⟩, ⟨by (with_reducible repeat (first | refine blk_drewN ?_ _ | refine blk_drew ?_ | refine blk_alloc ?_ _)); exact BK551.out⟩, ⟨by (with_reducible repeat (first | refine blk_drewN ?_ _ | refine blk_drew ?_ | refine blk_alloc ?_ _)); exact BK553.out⟩, ⟨by repeat (first | (with_reducible first | exact HB.out | apply below_alloc | apply pw_below_drewN | apply below_drew1 | refine below_set ?_ GE548.out | refine below_set ?_ GE551.out | refine below_set ?_ GE553.out) | exact HB.out)⟩⟩
          ·replace c23 := Bool.eq_false_iff.mpr c23
           subst c23
           have H1 : (spec_WindOf.j1 k1 l0 x5_1 x6_1 true a1_0 a1_1 ((rd_T52 l0 x6_1).f0) ((rd_T52 l0 x6_1).f1) ((rd_T52 l0 (ji11)).f0) ((rd_T52 l0 (ji11)).f1)) = some r := by rw [if_neg (show ¬ (false = true) by decide)] at H; exact H
           clear H; have H := H1; clear H1
           have H' := Aside0.mk H
           clear H; have hnb32 := NB551_548.out; have hnc32 := NB548_551.out; have hnb33 := NB551_553.out; have hnc33 := NB553_551.out
           obtain ⟨_, _, _, _⟩ := be_2 BK551.out
           go_wp2_with (first | ((with_reducible refine gate_callee (f := 151) rfl ?_); refine goesL_ (some 32) rfl rfl Try.func151 (by kernel_rfl) rfl #[.agg #[.int .i64 ((rd_T52 l0 x6_1).f0), .int .i64 ((rd_T52 l0 x6_1).f1)]] rfl z16_6 ?_; (with_reducible refine (spec_l10Near.calls ((rd_T52 l0 x6_1).f0) ((rd_T52 l0 x6_1).f1) false _ A22.out).mono ?_); rintro e w35 ⟨rfl, hb⟩; refine ⟨_, rfl, ?_⟩; have n0_ := Aside0.mk (blk_belowB BK548 z16_8 hb); have n1_ := Aside0.mk (blk_belowB BK551 z16_9 hb); have n2_ := Aside0.mk (blk_below (g := gb553) (o := .cells #[.int .i64 ((rd_T52 l0 (ji11)).f0), .int .i64 ((rd_T52 l0 (ji11)).f1)] 52 (0, 0)) z16_10 hb); have n3_ := Aside0.mk (below_step z16_2 hb); clear BK548; clear BK551; clear BK553; clear HB; have BK548 := n0_; have BK551 := n1_; have BK553 := n2_; have HB := n3_; clear n0_ n1_ n2_ n3_; (try clear hb)))
           go_meet
           case rel => exact ⟨_, (true), (by first | rfl | (simp; done) | (simp [*]; done)), H', ⟨by have := HK1.out; first | omega | exact Nat.le_refl _⟩, ⟨by (with_reducible repeat (first | refine blk_drewN ?_ _ | refine blk_drew ?_ | refine blk_alloc ?_ _)); exact BK548.out⟩, ⟨by (with_reducible repeat (first | refine blk_drewN ?_ _ | refine blk_drew ?_ | refine blk_alloc ?_ _)); exact BK551.out⟩, ⟨by (with_reducible repeat (first | refine blk_drewN ?_ _ | refine blk_drew ?_ | refine blk_alloc ?_ _)); exact BK553.out⟩, ⟨by repeat (first | (with_reducible first | exact HB.out | apply below_alloc | apply pw_below_drewN | apply below_drew1 | refine below_set ?_ GE548.out | refine below_set ?_ GE551.out | refine below_set ?_ GE553.out) | exact HB.out)⟩⟩
         case rest =>
          clear HC14; try clear c1
          try clear c2
          try clear p2
          try clear c3
          try clear c4
          try clear p5
          try clear q5
          try clear hx5
          try clear p6
          try clear c8
          try clear c8b0
          try clear c9
          try clear c9b0
          try clear c10
          try clear c10b0
          try clear c10b1
          try clear c10b2
          try clear c12
          try clear c12b0
          try clear c13
          try clear c13b0
          try clear c14
          try clear c15
          try clear c16
          try clear c19
          try clear c20
          try clear c23
          try clear c25
          try clear c26
          try clear c29
          try clear c32
          try clear c33
          try clear hcz17_0
          try clear hcz17_1
          try clear hcz21_0
          try clear hcz21_1
          try clear hcz27_0
          try clear hcz27_1
          try clear hcz30_0
          try clear hcz30_1
          try clear hcz34_0
          try clear hcz34_1
          try clear hcz6_0
          try clear hcz6_1
          try clear hfz17_0
          try clear hfz17_1
          try clear hfz21_0
          try clear hfz21_1
          try clear hfz27_0
          try clear hfz27_1
          try clear hfz30_0
          try clear hfz30_1
          try clear hfz34_0
          try clear hfz34_1
          try clear hfz6_0
          try clear hfz6_1
          try clear hx550_0
          try clear hx550_1
          try clear hx552_0
          try clear hx552_1
          try clear p2
          try clear p550
          try clear p552
          try clear q550
          try clear q552
          obtain ⟨kq, x38_13, rfl, HA, HJ13, BK548, BK551, BK553, HB⟩ := hcut
          cases kq with
          | zero => exact absurd HA.out (by simp [spec_WindOf.j1])
          | succ kj13 =>
           have H := HA.out; clear HA
           simp only [spec_WindOf.j1] at H
           by_cases c36 : x38_13 = true
           ·subst c36
            have H1 : (some 0) = some r := by rw [if_pos rfl] at H; exact H
            clear H; have H := H1; clear H1
            obtain rfl := Option.some.inj H
            simp only [Option.some.injEq, Prod.mk.injEq] at H
            obtain ⟨rfl⟩ := H
            go_wp2
            go_ret
            exact ⟨(by first | rfl | (simp [errW_none, errW_some] <;> rfl) | (simp only [← hji11]; first | rfl | (simp [errW_none, errW_some] <;> rfl)) | (simp [*, errW_none, errW_some] <;> rfl)), z16_2⟩
           ·replace c36 := Bool.eq_false_iff.mpr c36
            subst c36
            have H1 : (if ((rd_T52 l0 x6_1).f1) ≤ a1_1 then (if a1_1 < ((rd_T52 l0 (ji11)).f1) then (spec_WindOf.j2 kj13 l0 x5_1 x6_1 (wrap64 ((wrap64 ((wrap64 (((rd_T52 l0 (ji11)).f0) - ((rd_T52 l0 x6_1).f0))) * (wrap64 (a1_1 - ((rd_T52 l0 x6_1).f1))))) - (wrap64 ((wrap64 (a1_0 - ((rd_T52 l0 x6_1).f0))) * (wrap64 (((rd_T52 l0 (ji11)).f1) - ((rd_T52 l0 x6_1).f1))))))) (decide ((wrap64 ((wrap64 ((wrap64 (((rd_T52 l0 (ji11)).f0) - ((rd_T52 l0 x6_1).f0))) * (wrap64 (a1_1 - ((rd_T52 l0 x6_1).f1))))) - (wrap64 ((wrap64 (a1_0 - ((rd_T52 l0 x6_1).f0))) * (wrap64 (((rd_T52 l0 (ji11)).f1) - ((rd_T52 l0 x6_1).f1))))))) > 0)) a1_0 a1_1 ((rd_T52 l0 x6_1).f0) ((rd_T52 l0 x6_1).f1) ((rd_T52 l0 (ji11)).f0) ((rd_T52 l0 (ji11)).f1)) else (spec_WindOf.j2 kj13 l0 x5_1 x6_1 (wrap64 ((wrap64 ((wrap64 (((rd_T52 l0 (ji11)).f0) - ((rd_T52 l0 x6_1).f0))) * (wrap64 (a1_1 - ((rd_T52 l0 x6_1).f1))))) - (wrap64 ((wrap64 (a1_0 - ((rd_T52 l0 x6_1).f0))) * (wrap64 (((rd_T52 l0 (ji11)).f1) - ((rd_T52 l0 x6_1).f1))))))) false a1_0 a1_1 ((rd_T52 l0 x6_1).f0) ((rd_T52 l0 x6_1).f1) ((rd_T52 l0 (ji11)).f0) ((rd_T52 l0 (ji11)).f1))) else (spec_WindOf.j2 kj13 l0 x5_1 x6_1 (wrap64 ((wrap64 ((wrap64 (((rd_T52 l0 (ji11)).f0) - ((rd_T52 l0 x6_1).f0))) * (wrap64 (a1_1 - ((rd_T52 l0 x6_1).f1))))) - (wrap64 ((wrap64 (a1_0 - ((rd_T52 l0 x6_1).f0))) * (wrap64 (((rd_T52 l0 (ji11)).f1) - ((rd_T52 l0 x6_1).f1))))))) false a1_0 a1_1 ((rd_T52 l0 x6_1).f0) ((rd_T52 l0 x6_1).f1) ((rd_T52 l0 (ji11)).f0) ((rd_T52 l0 (ji11)).f1))) = some r := by rw [if_neg (show ¬ (false = true) by decide)] at H; exact H
            clear H; have H := H1; clear H1
            have HC37 := Aside0.mk H
            clear H; have hnb38 := NB553_548.out; have hnc38 := NB548_553.out; have hnb39 := NB553_551.out; have hnc39 := NB551_553.out
            obtain ⟨_, _, _, _⟩ := be_2 BK553.out
            have hnb41 := NB551_548.out; have hnc41 := NB548_551.out
            obtain ⟨_, _, _, _⟩ := be_2 BK551.out
            obtain ⟨_, _, _, _⟩ := be_2 BK548.out
            go_upto_region 12 with (fail)
            go_cut [77] (fun v77 wc => ∃ (kq : Nat) (x77_36 : Bool), v77 = .bool x77_36 ∧ Aside0 (spec_WindOf.j2 kq l0 x5_1 x6_1 (wrap64 ((wrap64 ((wrap64 (((rd_T52 l0 (ji11)).f0) - ((rd_T52 l0 x6_1).f0))) * (wrap64 (a1_1 - ((rd_T52 l0 x6_1).f1))))) - (wrap64 ((wrap64 (a1_0 - ((rd_T52 l0 x6_1).f0))) * (wrap64 (((rd_T52 l0 (ji11)).f1) - ((rd_T52 l0 x6_1).f1))))))) x77_36 a1_0 a1_1 ((rd_T52 l0 x6_1).f0) ((rd_T52 l0 x6_1).f1) ((rd_T52 l0 (ji11)).f0) ((rd_T52 l0 (ji11)).f1) = some r) ∧ Aside0 (kq ≤ kj13) ∧ Aside0 (wc.heap[gb548]? = some (.cells #[.int .i64 a1_0, .int .i64 a1_1] 52 (0, 0))) ∧ Aside0 (wc.heap[gb551]? = some (.cells #[.int .i64 ((rd_T52 l0 x6_1).f0), .int .i64 ((rd_T52 l0 x6_1).f1)] 52 (0, 0))) ∧ Aside0 (wc.heap[gb553]? = some (.cells #[.int .i64 ((rd_T52 l0 (ji11)).f0), .int .i64 ((rd_T52 l0 (ji11)).f1)] 52 (0, 0))) ∧ Aside0 (Below w.heap.size w wc))
            case first =>
             have H := HC37.out; clear HC37
             by_cases c44 : ((rd_T52 l0 x6_1).f1) ≤ a1_1
             ·rw [if_pos c44] at H
              have c44b0 : decide (((rd_T52 l0 x6_1).f1) ≤ a1_1) = true := decide_eq_true c44
              clear c44
              (first | rw [c44b0] | (simp only [i64_w, i32_w]; rw [c44b0]) | skip)
              by_cases c45 : a1_1 < ((rd_T52 l0 (ji11)).f1)
              ·rw [if_pos c45] at H
               have c45b0 : decide (a1_1 < ((rd_T52 l0 (ji11)).f1)) = true := decide_eq_true c45
               clear c45
               have H' := Aside0.mk H
               clear H; have hnb46 := NB551_548.out; have hnc46 := NB548_551.out; have hnb47 := NB551_553.out; have hnc47 := NB553_551.out
               obtain ⟨_, _, _, _⟩ := be_2 BK551.out
               have hnb49 := NB548_553.out; have hnc49 := NB553_548.out
               obtain ⟨_, _, _, _⟩ := be_2 BK548.out
               obtain ⟨_, _, _, _⟩ := be_2 BK553.out
               go_wp2
               go_meet
               case rel => exact ⟨_, (decide ((wrap64 ((wrap64 ((wrap64 (((rd_T52 l0 (ji11)).f0) - ((rd_T52 l0 x6_1).f0))) * (wrap64 (a1_1 - ((rd_T52 l0 x6_1).f1))))) - (wrap64 ((wrap64 (a1_0 - ((rd_T52 l0 x6_1).f0))) * (wrap64 (((rd_T52 l0 (ji11)).f1) - ((rd_T52 l0 x6_1).f1))))))) > 0)), (by first | rfl | (simp; done) | (simp only [← hji11] <;> (first | rfl | simp)) | (simp [*]; done)), H', ⟨by have := HK1.out; have := HJ13.out; first | omega | exact Nat.le_refl _⟩, ⟨by (with_reducible repeat (first | refine blk_drewN ?_ _ | refine blk_drew ?_ | refine blk_alloc ?_ _)); exact BK548.out⟩, ⟨by (with_reducible repeat (first | refine blk_drewN ?_ _ | refine blk_drew ?_ | refine blk_alloc ?_ _)); exact BK551.out⟩, ⟨by (with_reducible repeat (first | refine blk_drewN ?_ _ | refine blk_drew ?_ | refine blk_alloc ?_ _)); exact BK553.out⟩, ⟨by repeat (first | (with_reducible first | exact HB.out | apply below_alloc | apply pw_below_drewN | apply below_drew1 | refine below_set ?_ GE548.out | refine below_set ?_ GE551.out | refine below_set ?_ GE553.out) | exact HB.out)⟩⟩
              ·rw [if_neg c45] at H
               have c45b0 : decide (a1_1 < ((rd_T52 l0 (ji11)).f1)) = false := decide_eq_false c45
               clear c45
               have H' := Aside0.mk H
               clear H; have hnb52 := NB551_548.out; have hnc52 := NB548_551.out; have hnb53 := NB551_553.out; have hnc53 := NB553_551.out
               obtain ⟨_, _, _, _⟩ := be_2 BK551.out
               have hnb55 := NB548_553.out; have hnc55 := NB553_548.out
               obtain ⟨_, _, _, _⟩ := be_2 BK548.out
               obtain ⟨_, _, _, _⟩ := be_2 BK553.out
               go_wp2
               go_meet
               case rel => exact ⟨_, (false), (by first | rfl | (simp; done) | (simp [*]; done)), H', ⟨by have := HK1.out; have := HJ13.out; first | omega | exact Nat.le_refl _⟩, ⟨by (with_reducible repeat (first | refine blk_drewN ?_ _ | refine blk_drew ?_ | refine blk_alloc ?_ _)); exact BK548.out⟩, ⟨by (with_reducible repeat (first | refine blk_drewN ?_ _ | refine blk_drew ?_ | refine blk_alloc ?_ _)); exact BK551.out⟩, ⟨by (with_reducible repeat (first | refine blk_drewN ?_ _ | refine blk_drew ?_ | refine blk_alloc ?_ _)); exact BK553.out⟩, ⟨by repeat (first | (with_reducible first | exact HB.out | apply below_alloc | apply pw_below_drewN | apply below_drew1 | refine below_set ?_ GE548.out | refine below_set ?_ GE551.out | refine below_set ?_ GE553.out) | exact HB.out)⟩⟩
             ·rw [if_neg c44] at H
              have c44b0 : decide (((rd_T52 l0 x6_1).f1) ≤ a1_1) = false := decide_eq_false c44
              clear c44
              (first | rw [c44b0] | (simp only [i64_w, i32_w]; rw [c44b0]) | skip)
              have H' := Aside0.mk H
              clear H; have hnb58 := NB551_548.out; have hnc58 := NB548_551.out; have hnb59 := NB551_553.out; have hnc59 := NB553_551.out
              obtain ⟨_, _, _, _⟩ := be_2 BK551.out
              have hnb61 := NB548_553.out; have hnc61 := NB553_548.out
              obtain ⟨_, _, _, _⟩ := be_2 BK548.out
              go_wp2
              go_meet
              case rel => exact ⟨_, (false), (by first | rfl | (simp; done) | (simp [*]; done)), H', ⟨by have := HK1.out; have := HJ13.out; first | omega | exact Nat.le_refl _⟩, ⟨by (with_reducible repeat (first | refine blk_drewN ?_ _ | refine blk_drew ?_ | refine blk_alloc ?_ _)); exact BK548.out⟩, ⟨by (with_reducible repeat (first | refine blk_drewN ?_ _ | refine blk_drew ?_ | refine blk_alloc ?_ _)); exact BK551.out⟩, ⟨by (with_reducible repeat (first | refine blk_drewN ?_ _ | refine blk_drew ?_ | refine blk_alloc ?_ _)); exact BK553.out⟩, ⟨by repeat (first | (with_reducible first | exact HB.out | apply below_alloc | apply pw_below_drewN | apply below_drew1 | refine below_set ?_ GE548.out | refine below_set ?_ GE551.out | refine below_set ?_ GE553.out) | exact HB.out)⟩⟩
            case rest =>
             clear HC37; try clear c1
             try clear c2
             try clear p2
             try clear c3
             try clear c4
             try clear c5
             try clear p5
             try clear q5
             try clear hx5
             try clear c6
             try clear p6
             try clear c8
             try clear c8b0
             try clear c9
             try clear c9b0
             try clear c10
             try clear c10b0
             try clear c10b1
             try clear c10b2
             try clear c12
             try clear c12b0
             try clear c13
             try clear c13b0
             try clear c14
             try clear c15
             try clear c16
             try clear c19
             try clear c20
             try clear c23
             try clear c25
             try clear c26
             try clear c29
             try clear c32
             try clear c33
             try clear c36
             try clear c38
             try clear c39
             try clear c41
             try clear c44
             try clear c44b0
             try clear c45
             try clear c45b0
             try clear c46
             try clear c47
             try clear c49
             try clear c52
             try clear c53
             try clear c55
             try clear p55
             try clear q55
             try clear hx55
             try clear c58
             try clear c59
             try clear c61
             try clear hcz17_0
             try clear hcz17_1
             try clear hcz21_0
             try clear hcz21_1
             try clear hcz27_0
             try clear hcz27_1
             try clear hcz30_0
             try clear hcz30_1
             try clear hcz34_0
             try clear hcz34_1
             try clear hcz40_0
             try clear hcz40_1
             try clear hcz42_0
             try clear hcz42_1
             try clear hcz43_0
             try clear hcz43_1
             try clear hcz48_0
             try clear hcz48_1
             try clear hcz50_0
             try clear hcz50_1
             try clear hcz51_0
             try clear hcz51_1
             try clear hcz54_0
             try clear hcz54_1
             try clear hcz56_0
             try clear hcz56_1
             try clear hcz57_0
             try clear hcz57_1
             try clear hcz60_0
             try clear hcz60_1
             try clear hcz62_0
             try clear hcz62_1
             try clear hcz6_0
             try clear hcz6_1
             try clear hfz17_0
             try clear hfz17_1
             try clear hfz21_0
             try clear hfz21_1
             try clear hfz27_0
             try clear hfz27_1
             try clear hfz30_0
             try clear hfz30_1
             try clear hfz34_0
             try clear hfz34_1
             try clear hfz40_0
             try clear hfz40_1
             try clear hfz42_0
             try clear hfz42_1
             try clear hfz43_0
             try clear hfz43_1
             try clear hfz48_0
             try clear hfz48_1
             try clear hfz50_0
             try clear hfz50_1
             try clear hfz51_0
             try clear hfz51_1
             try clear hfz54_0
             try clear hfz54_1
             try clear hfz56_0
             try clear hfz56_1
             try clear hfz57_0
             try clear hfz57_1
             try clear hfz60_0
             try clear hfz60_1
             try clear hfz62_0
             try clear hfz62_1
             try clear hfz6_0
             try clear hfz6_1
             try clear hx550_0
             try clear hx550_1
             try clear hx552_0
             try clear hx552_1
             try clear p2
             try clear p5
             try clear p550
             try clear p552
             try clear p6
             try clear q5
             try clear q550
             try clear q552
             obtain ⟨kq, x77_36, rfl, HA, HJ36, BK548, BK551, BK553, HB⟩ := hcut
             cases kq with
             | zero => exact absurd HA.out (by simp [spec_WindOf.j2])
             | succ kj36 =>
              have H := HA.out; clear HA
              simp only [spec_WindOf.j2] at H
              by_cases c63 : x77_36 = true
              ·subst c63
               have H1 : (if ((rd_T52 l0 (ji11)).f1) ≤ a1_1 then (if a1_1 < ((rd_T52 l0 x6_1).f1) then (if (wrap64 ((wrap64 ((wrap64 (((rd_T52 l0 (ji11)).f0) - ((rd_T52 l0 x6_1).f0))) * (wrap64 (a1_1 - ((rd_T52 l0 x6_1).f1))))) - (wrap64 ((wrap64 (a1_0 - ((rd_T52 l0 x6_1).f0))) * (wrap64 (((rd_T52 l0 (ji11)).f1) - ((rd_T52 l0 x6_1).f1))))))) < 0 then (spec_WindOf.l0 kj36 l0 (wrap64 ((wrap64 (x5_1 + 1)) - 1)) (wrap64 (x6_1 + 1)) a1_0 a1_1) else (spec_WindOf.l0 kj36 l0 (wrap64 (x5_1 + 1)) (wrap64 (x6_1 + 1)) a1_0 a1_1)) else (spec_WindOf.l0 kj36 l0 (wrap64 (x5_1 + 1)) (wrap64 (x6_1 + 1)) a1_0 a1_1)) else (spec_WindOf.l0 kj36 l0 (wrap64 (x5_1 + 1)) (wrap64 (x6_1 + 1)) a1_0 a1_1)) = some r := by rw [if_pos rfl] at H; exact H
               clear H; have H := H1; clear H1
               by_cases c64 : ((rd_T52 l0 (ji11)).f1) ≤ a1_1
               ·rw [if_pos c64] at H
                have c64b0 : decide (((rd_T52 l0 (ji11)).f1) ≤ a1_1) = true := decide_eq_true c64
                clear c64
                by_cases c65 : a1_1 < ((rd_T52 l0 x6_1).f1)
                ·rw [if_pos c65] at H
                 have c65b0 : decide (a1_1 < ((rd_T52 l0 x6_1).f1)) = true := decide_eq_true c65
                 clear c65
                 by_cases c66 : (wrap64 ((wrap64 ((wrap64 (((rd_T52 l0 (ji11)).f0) - ((rd_T52 l0 x6_1).f0))) * (wrap64 (a1_1 - ((rd_T52 l0 x6_1).f1))))) - (wrap64 ((wrap64 (a1_0 - ((rd_T52 l0 x6_1).f0))) * (wrap64 (((rd_T52 l0 (ji11)).f1) - ((rd_T52 l0 x6_1).f1))))))) < 0
                 ·rw [if_pos c66] at H
                  have c66b0 : decide ((wrap64 ((wrap64 ((wrap64 (((rd_T52 l0 (ji11)).f0) - ((rd_T52 l0 x6_1).f0))) * (wrap64 (a1_1 - ((rd_T52 l0 x6_1).f1))))) - (wrap64 ((wrap64 (a1_0 - ((rd_T52 l0 x6_1).f0))) * (wrap64 (((rd_T52 l0 (ji11)).f1) - ((rd_T52 l0 x6_1).f1))))))) < 0) = true := decide_eq_true c66
                  clear c66
                  have H' := Aside0.mk H
                  clear H; have hnb67 := NB553_548.out; have hnc67 := NB548_553.out; have hnb68 := NB553_551.out; have hnc68 := NB551_553.out
                  obtain ⟨_, _, _, _⟩ := be_2 BK553.out
                  have hnb70 := NB548_551.out; have hnc70 := NB551_548.out
                  obtain ⟨_, _, _, _⟩ := be_2 BK548.out
                  obtain ⟨_, _, _, _⟩ := be_2 BK551.out
                  go_wp2
                  go_roundg kj36
                  case measure => have := HK1.out; have := HJ13.out; have := HJ36.out; omega
                  case rel => exact ⟨(wrap64 ((wrap64 (x5_1 + 1)) - 1)), (wrap64 (x6_1 + 1)), (by first | rfl | (simp; done) | (simp [*]; done)), (by first | rfl | (simp; done) | (simp [*]; done)), H', ⟨by have := HK1.out; have := HJ13.out; have := HJ36.out; omega⟩, ⟨by (with_reducible repeat (first | refine blk_drewN ?_ _ | refine blk_drew ?_ | refine blk_alloc ?_ _)); exact BK548.out⟩, ⟨by repeat (first | (with_reducible first | exact HB.out | apply below_alloc | apply pw_below_drewN | apply below_drew1 | refine below_set ?_ GE548.out | refine below_set ?_ GE551.out | refine below_set ?_ GE553.out) | exact HB.out)⟩⟩
                 ·rw [if_neg c66] at H
                  have c66b0 : decide ((wrap64 ((wrap64 ((wrap64 (((rd_T52 l0 (ji11)).f0) - ((rd_T52 l0 x6_1).f0))) * (wrap64 (a1_1 - ((rd_T52 l0 x6_1).f1))))) - (wrap64 ((wrap64 (a1_0 - ((rd_T52 l0 x6_1).f0))) * (wrap64 (((rd_T52 l0 (ji11)).f1) - ((rd_T52 l0 x6_1).f1))))))) < 0) = false := decide_eq_false c66
                  clear c66
                  have H' := Aside0.mk H
                  clear H; have hnb73 := NB553_548.out; have hnc73 := NB548_553.out; have hnb74 := NB553_551.out; have hnc74 := NB551_553.out
                  obtain ⟨_, _, _, _⟩ := be_2 BK553.out
                  have hnb76 := NB548_551.out; have hnc76 := NB551_548.out
                  obtain ⟨_, _, _, _⟩ := be_2 BK548.out
                  obtain ⟨_, _, _, _⟩ := be_2 BK551.out
                  go_wp2
                  go_roundg kj36
                  case measure => have := HK1.out; have := HJ13.out; have := HJ36.out; omega
                  case rel => exact ⟨(wrap64 (x5_1 + 1)), (wrap64 (x6_1 + 1)), (by first | rfl | (simp; done) | (simp [*]; done)), (by first | rfl | (simp; done) | (simp [*]; done)), H', ⟨by have := HK1.out; have := HJ13.out; have := HJ36.out; omega⟩, ⟨by (with_reducible repeat (first | refine blk_drewN ?_ _ | refine blk_drew ?_ | refine blk_alloc ?_ _)); exact BK548.out⟩, ⟨by repeat (first | (with_reducible first | exact HB.out | apply below_alloc | apply pw_below_drewN | apply below_drew1 | refine below_set ?_ GE548.out | refine below_set ?_ GE551.out | refine below_set ?_ GE553.out) | exact HB.out)⟩⟩
                ·rw [if_neg c65] at H
                 have c65b0 : decide (a1_1 < ((rd_T52 l0 x6_1).f1)) = false := decide_eq_false c65
                 clear c65
                 have H' := Aside0.mk H
                 clear H; have hnb79 := NB553_548.out; have hnc79 := NB548_553.out; have hnb80 := NB553_551.out; have hnc80 := NB551_553.out
                 obtain ⟨_, _, _, _⟩ := be_2 BK553.out
                 have hnb82 := NB548_551.out; have hnc82 := NB551_548.out
                 obtain ⟨_, _, _, _⟩ := be_2 BK548.out
                 obtain ⟨_, _, _, _⟩ := be_2 BK551.out
                 go_wp2
                 go_roundg kj36
                 case measure => have := HK1.out; have := HJ13.out; have := HJ36.out; omega
                 case rel => exact ⟨(wrap64 (x5_1 + 1)), (wrap64 (x6_1 + 1)), (by first | rfl | (simp; done) | (simp [*]; done)), (by first | rfl | (simp; done) | (simp [*]; done)), H', ⟨by have := HK1.out; have := HJ13.out; have := HJ36.out; omega⟩, ⟨by (with_reducible repeat (first | refine blk_drewN ?_ _ | refine blk_drew ?_ | refine blk_alloc ?_ _)); exact BK548.out⟩, ⟨by repeat (first | (with_reducible first | exact HB.out | apply below_alloc | apply pw_below_drewN | apply below_drew1 | refine below_set ?_ GE548.out | refine below_set ?_ GE551.out | refine below_set ?_ GE553.out) | exact HB.out)⟩⟩
               ·rw [if_neg c64] at H
                have c64b0 : decide (((rd_T52 l0 (ji11)).f1) ≤ a1_1) = false := decide_eq_false c64
                clear c64
                have H' := Aside0.mk H
                clear H; have hnb85 := NB553_548.out; have hnc85 := NB548_553.out; have hnb86 := NB553_551.out; have hnc86 := NB551_553.out
                obtain ⟨_, _, _, _⟩ := be_2 BK553.out
                have hnb88 := NB548_551.out; have hnc88 := NB551_548.out
                obtain ⟨_, _, _, _⟩ := be_2 BK548.out
                go_wp2
                go_roundg kj36
                case measure => have := HK1.out; have := HJ13.out; have := HJ36.out; omega
                case rel => exact ⟨(wrap64 (x5_1 + 1)), (wrap64 (x6_1 + 1)), (by first | rfl | (simp; done) | (simp [*]; done)), (by first | rfl | (simp; done) | (simp [*]; done)), H', ⟨by have := HK1.out; have := HJ13.out; have := HJ36.out; omega⟩, ⟨by (with_reducible repeat (first | refine blk_drewN ?_ _ | refine blk_drew ?_ | refine blk_alloc ?_ _)); exact BK548.out⟩, ⟨by repeat (first | (with_reducible first | exact HB.out | apply below_alloc | apply pw_below_drewN | apply below_drew1 | refine below_set ?_ GE548.out | refine below_set ?_ GE551.out | refine below_set ?_ GE553.out) | exact HB.out)⟩⟩
              ·replace c63 := Bool.eq_false_iff.mpr c63
               subst c63
               have H1 : (if ((rd_T52 l0 (ji11)).f1) ≤ a1_1 then (if a1_1 < ((rd_T52 l0 x6_1).f1) then (if (wrap64 ((wrap64 ((wrap64 (((rd_T52 l0 (ji11)).f0) - ((rd_T52 l0 x6_1).f0))) * (wrap64 (a1_1 - ((rd_T52 l0 x6_1).f1))))) - (wrap64 ((wrap64 (a1_0 - ((rd_T52 l0 x6_1).f0))) * (wrap64 (((rd_T52 l0 (ji11)).f1) - ((rd_T52 l0 x6_1).f1))))))) < 0 then (spec_WindOf.l0 kj36 l0 (wrap64 (x5_1 - 1)) (wrap64 (x6_1 + 1)) a1_0 a1_1) else (spec_WindOf.l0 kj36 l0 x5_1 (wrap64 (x6_1 + 1)) a1_0 a1_1)) else (spec_WindOf.l0 kj36 l0 x5_1 (wrap64 (x6_1 + 1)) a1_0 a1_1)) else (spec_WindOf.l0 kj36 l0 x5_1 (wrap64 (x6_1 + 1)) a1_0 a1_1)) = some r := by rw [if_neg (show ¬ (false = true) by decide)] at H; exact H
               clear H; have H := H1; clear H1
               by_cases c90 : ((rd_T52 l0 (ji11)).f1) ≤ a1_1
               ·rw [if_pos c90] at H
                have c90b0 : decide (((rd_T52 l0 (ji11)).f1) ≤ a1_1) = true := decide_eq_true c90
                clear c90
                by_cases c91 : a1_1 < ((rd_T52 l0 x6_1).f1)
                ·rw [if_pos c91] at H
                 have c91b0 : decide (a1_1 < ((rd_T52 l0 x6_1).f1)) = true := decide_eq_true c91
                 clear c91
                 by_cases c92 : (wrap64 ((wrap64 ((wrap64 (((rd_T52 l0 (ji11)).f0) - ((rd_T52 l0 x6_1).f0))) * (wrap64 (a1_1 - ((rd_T52 l0 x6_1).f1))))) - (wrap64 ((wrap64 (a1_0 - ((rd_T52 l0 x6_1).f0))) * (wrap64 (((rd_T52 l0 (ji11)).f1) - ((rd_T52 l0 x6_1).f1))))))) < 0
                 ·rw [if_pos c92] at H
                  have c92b0 : decide ((wrap64 ((wrap64 ((wrap64 (((rd_T52 l0 (ji11)).f0) - ((rd_T52 l0 x6_1).f0))) * (wrap64 (a1_1 - ((rd_T52 l0 x6_1).f1))))) - (wrap64 ((wrap64 (a1_0 - ((rd_T52 l0 x6_1).f0))) * (wrap64 (((rd_T52 l0 (ji11)).f1) - ((rd_T52 l0 x6_1).f1))))))) < 0) = true := decide_eq_true c92
                  clear c92
                  have H' := Aside0.mk H
                  clear H; have hnb93 := NB553_548.out; have hnc93 := NB548_553.out; have hnb94 := NB553_551.out; have hnc94 := NB551_553.out
                  obtain ⟨_, _, _, _⟩ := be_2 BK553.out
                  have hnb96 := NB548_551.out; have hnc96 := NB551_548.out
                  obtain ⟨_, _, _, _⟩ := be_2 BK548.out
                  obtain ⟨_, _, _, _⟩ := be_2 BK551.out
                  go_wp2
                  go_roundg kj36
                  case measure => have := HK1.out; have := HJ13.out; have := HJ36.out; omega
                  case rel => exact ⟨(wrap64 (x5_1 - 1)), (wrap64 (x6_1 + 1)), (by first | rfl | (simp; done) | (simp [*]; done)), (by first | rfl | (simp; done) | (simp [*]; done)), H', ⟨by have := HK1.out; have := HJ13.out; have := HJ36.out; omega⟩, ⟨by (with_reducible repeat (first | refine blk_drewN ?_ _ | refine blk_drew ?_ | refine blk_alloc ?_ _)); exact BK548.out⟩, ⟨by repeat (first | (with_reducible first | exact HB.out | apply below_alloc | apply pw_below_drewN | apply below_drew1 | refine below_set ?_ GE548.out | refine below_set ?_ GE551.out | refine below_set ?_ GE553.out) | exact HB.out)⟩⟩
                 ·rw [if_neg c92] at H
                  have c92b0 : decide ((wrap64 ((wrap64 ((wrap64 (((rd_T52 l0 (ji11)).f0) - ((rd_T52 l0 x6_1).f0))) * (wrap64 (a1_1 - ((rd_T52 l0 x6_1).f1))))) - (wrap64 ((wrap64 (a1_0 - ((rd_T52 l0 x6_1).f0))) * (wrap64 (((rd_T52 l0 (ji11)).f1) - ((rd_T52 l0 x6_1).f1))))))) < 0) = false := decide_eq_false c92
                  clear c92
                  have H' := Aside0.mk H
                  clear H; have hnb99 := NB553_548.out; have hnc99 := NB548_553.out; have hnb100 := NB553_551.out; have hnc100 := NB551_553.out
                  obtain ⟨_, _, _, _⟩ := be_2 BK553.out
                  have hnb102 := NB548_551.out; have hnc102 := NB551_548.out
                  obtain ⟨_, _, _, _⟩ := be_2 BK548.out
                  obtain ⟨_, _, _, _⟩ := be_2 BK551.out
                  go_wp2
                  go_roundg kj36
                  case measure => have := HK1.out; have := HJ13.out; have := HJ36.out; omega
                  case rel => exact ⟨(x5_1), (wrap64 (x6_1 + 1)), (by first | rfl | (simp; done) | (simp [*]; done)), (by first | rfl | (simp; done) | (simp [*]; done)), H', ⟨by have := HK1.out; have := HJ13.out; have := HJ36.out; omega⟩, ⟨by (with_reducible repeat (first | refine blk_drewN ?_ _ | refine blk_drew ?_ | refine blk_alloc ?_ _)); exact BK548.out⟩, ⟨by repeat (first | (with_reducible first | exact HB.out | apply below_alloc | apply pw_below_drewN | apply below_drew1 | refine below_set ?_ GE548.out | refine below_set ?_ GE551.out | refine below_set ?_ GE553.out) | exact HB.out)⟩⟩
                ·rw [if_neg c91] at H
                 have c91b0 : decide (a1_1 < ((rd_T52 l0 x6_1).f1)) = false := decide_eq_false c91
                 clear c91
                 have H' := Aside0.mk H
                 clear H; have hnb105 := NB553_548.out; have hnc105 := NB548_553.out; have hnb106 := NB553_551.out; have hnc106 := NB551_553.out
                 obtain ⟨_, _, _, _⟩ := be_2 BK553.out
                 have hnb108 := NB548_551.out; have hnc108 := NB551_548.out
                 obtain ⟨_, _, _, _⟩ := be_2 BK548.out
                 obtain ⟨_, _, _, _⟩ := be_2 BK551.out
                 go_wp2
                 go_roundg kj36
                 case measure => have := HK1.out; have := HJ13.out; have := HJ36.out; omega
                 case rel => exact ⟨(x5_1), (wrap64 (x6_1 + 1)), (by first | rfl | (simp; done) | (simp [*]; done)), (by first | rfl | (simp; done) | (simp [*]; done)), H', ⟨by have := HK1.out; have := HJ13.out; have := HJ36.out; omega⟩, ⟨by (with_reducible repeat (first | refine blk_drewN ?_ _ | refine blk_drew ?_ | refine blk_alloc ?_ _)); exact BK548.out⟩, ⟨by repeat (first | (with_reducible first | exact HB.out | apply below_alloc | apply pw_below_drewN | apply below_drew1 | refine below_set ?_ GE548.out | refine below_set ?_ GE551.out | refine below_set ?_ GE553.out) | exact HB.out)⟩⟩
               ·rw [if_neg c90] at H
                have c90b0 : decide (((rd_T52 l0 (ji11)).f1) ≤ a1_1) = false := decide_eq_false c90
                clear c90
                have H' := Aside0.mk H
                clear H; have hnb111 := NB553_548.out; have hnc111 := NB548_553.out; have hnb112 := NB553_551.out; have hnc112 := NB551_553.out
                obtain ⟨_, _, _, _⟩ := be_2 BK553.out
                have hnb114 := NB548_551.out; have hnc114 := NB551_548.out
                obtain ⟨_, _, _, _⟩ := be_2 BK548.out
                go_wp2
                go_roundg kj36
                case measure => have := HK1.out; have := HJ13.out; have := HJ36.out; omega
                case rel => exact ⟨(x5_1), (wrap64 (x6_1 + 1)), (by first | rfl | (simp; done) | (simp [*]; done)), (by first | rfl | (simp; done) | (simp [*]; done)), H', ⟨by have := HK1.out; have := HJ13.out; have := HJ36.out; omega⟩, ⟨by (with_reducible repeat (first | refine blk_drewN ?_ _ | refine blk_drew ?_ | refine blk_alloc ?_ _)); exact BK548.out⟩, ⟨by repeat (first | (with_reducible first | exact HB.out | apply below_alloc | apply pw_below_drewN | apply below_drew1 | refine below_set ?_ GE548.out | refine below_set ?_ GE551.out | refine below_set ?_ GE553.out) | exact HB.out)⟩⟩
        ·rw [if_neg c13] at H
         exact absurd H (by simp)
       ·rw [if_neg c12] at H
        exact absurd H (by simp)
     ·rw [if_neg c9] at H
      exact absurd H (by simp)
    ·rw [if_neg c8] at H
     have c8b0 : decide (x6_1 < (l0.length : Int)) = false := decide_eq_false c8
     clear c8
     obtain rfl := Option.some.inj H
     simp only [Option.some.injEq, Prod.mk.injEq] at H
     obtain ⟨rfl⟩ := H
     go_wp2
     go_ret
     exact ⟨(by first | rfl | (simp [errW_none, errW_some] <;> rfl) | (simp [*, errW_none, errW_some] <;> rfl)), z16_0⟩
 ·replace c4 := Bool.eq_false_iff.mpr c4
  subst c4
  have H1 : (some 0) = some r := by rw [if_neg (show ¬ (false = true) by decide)] at H; exact H
  clear H; have H := H1; clear H1
  obtain rfl := Option.some.inj H
  simp only [Option.some.injEq, Prod.mk.injEq] at H
  obtain ⟨rfl⟩ := H
  go_enter Try.func142, Try.ntmps142
  go_wp2_with (first | ((with_reducible refine gate_dst (N := 3) rfl ?_); refine boxz (cs := #[.int .i64 a1_0, .int .i64 a1_1]) (t := 52) rfl ?_; intro gb548 hg w116 hbox hb; have n0_ := Aside0.mk (below_step z16_3 hb); have n1_ := Aside0.mk (hbox); have n2_ := Aside0.mk (ge_go (a := w.heap.size) hg (below_size z16_3)); have n3_ := Aside0.mk (ge_go (a := w.heap.size) hg (below_size z16_3)); clear HB; have HB := n0_; have BK548 := n1_; have GW548 := n2_; have GE548 := n3_; clear n0_ n1_ n2_ n3_; clear hb hbox hg; obtain ⟨_, _, _, _⟩ := be_2 BK548.out) | ((with_reducible refine gate_callee (f := 151) rfl ?_); refine goesL_ (some 11) rfl rfl Try.func151 (by kernel_rfl) rfl #[.agg #[.int .i64 a1_0, .int .i64 a1_1]] rfl z16_6 ?_; (with_reducible refine (spec_l10Near.calls a1_0 a1_1 false _ A3.out).mono ?_); rintro e w118 ⟨rfl, hb⟩; refine ⟨_, rfl, ?_⟩; have n0_ := Aside0.mk (blk_belowB BK548 z16_4 hb); have n1_ := Aside0.mk (below_step z16_0 hb); clear BK548; clear HB; have BK548 := n0_; have HB := n1_; clear n0_ n1_; (try clear hb)))
  go_ret
  exact ⟨(by first | rfl | (simp [errW_none, errW_some] <;> rfl) | (simp [*, errW_none, errW_some] <;> rfl)), z16_0⟩

end Go.Proofs.Ytghbenapnhcllaa.MFnMaskOf
