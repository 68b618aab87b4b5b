/- Functions of the program as Lean functions, and the proof that a call comes to just these: machine text of this session's own program (myprint.py). -/
import Derived.Test.YtndeonfbolookaaMFnExactMaskAtx0
import Derived.Test.YtndeonfbolookaaMFnExactMaskAtx4
namespace Go.Proofs.Ytndeonfbolookaa.MFnExactMaskAt
open Go.RowKit Go.Proofs.YtndeonfbolookaaW.PrintWords Go.Proofs.YtndeonfbolookaaW.PrintLast Go.Proofs.YtndeonfbolookaaW.PrintMore
attribute [local go_sem] max2_int min2_int max_two min_two max_three min_three max_four min_four   -- for this text's walks alone
set_option linter.unusedVariables false
set_option linter.unusedSimpArgs false

theorem z5_0 {P : Prop} (h : P := by repeat (first | (with_reducible first | exact HB.out | apply below_alloc | apply pw_below_drewN | apply below_drew1 | refine below_set ?_ GE154.out) | exact HB.out)) : P := h
theorem z5_1 {P : Prop} (h : P := by repeat (first | (with_reducible first | exact HB.out | apply below_alloc | apply pw_below_drewN | apply below_drew1) | exact HB.out)) : P := h
theorem z5_2 {P : Prop} (h : P := by (with_reducible repeat (first | refine blk_drewN ?_ _ | refine blk_drew ?_ | refine blk_alloc ?_ _)); exact BK154.out) : P := h
theorem z5_3 {P : Prop} (h : P := by (try simp only [List.map_toArray, List.map_cons, List.map_nil]); first | done | rfl | (simp only [List.length_drop, List.length_take]; rfl)) : P := h
theorem z5_4 {P : Prop} (h : P := by (with_reducible repeat (first | refine blk_drewN ?_ _ | refine blk_drew ?_ | refine blk_alloc ?_ _)); refine blk_far ?_ NB154_160.out _; (with_reducible repeat (first | refine blk_drewN ?_ _ | refine blk_drew ?_ | refine blk_alloc ?_ _)); refine blk_far ?_ NB154_160.out _; (with_reducible repeat (first | refine blk_drewN ?_ _ | refine blk_drew ?_ | refine blk_alloc ?_ _)); exact BK154.out) : P := h
theorem z5_5 {P : Prop} (h : P := by apply blk_fin; (focus ((with_reducible repeat (first | apply blk_putQ | refine blk_drewN ?_ _ | refine blk_drew ?_ | refine blk_alloc ?_ _)); exact BK160.out)); first | (simp only [List.setIfInBounds_toArray, List.set_cons_zero, List.set_cons_succ]; done) | rfl) : P := h
theorem z5_6 {P : Prop} (h : P := by first | rfl | (simp [errW_none, errW_some] <;> rfl) | (simp [*, errW_none, errW_some] <;> rfl)) : P := h
theorem z5_7 {P : Prop} (h : P := by repeat (first | (with_reducible first | exact HB.out | apply below_alloc | apply pw_below_drewN | apply below_drew1 | refine below_set ?_ GE154.out | refine below_set ?_ GE157.out) | exact HB.out)) : P := h
theorem z5_8 {P : Prop} (h : P := by repeat (first | (with_reducible first | exact HB.out | apply below_alloc | apply pw_below_drewN | apply below_drew1 | refine below_set ?_ GE154.out | refine below_set ?_ GE160.out) | exact HB.out)) : P := h
theorem z5_9 {P : Prop} (h : P := by (with_reducible repeat (first | refine blk_drewN ?_ _ | refine blk_drew ?_ | refine blk_alloc ?_ _)); refine blk_far ?_ NB154_157.out _; (with_reducible repeat (first | refine blk_drewN ?_ _ | refine blk_drew ?_ | refine blk_alloc ?_ _)); refine blk_far ?_ NB154_157.out _; (with_reducible repeat (first | refine blk_drewN ?_ _ | refine blk_drew ?_ | refine blk_alloc ?_ _)); exact BK154.out) : P := h
theorem z5_10 {P : Prop} (h : P := by repeat (first | (with_reducible first | exact HB.out | apply below_alloc | apply pw_below_drewN | apply below_drew1 | refine below_set ?_ GE163.out) | exact HB.out)) : P := h
theorem z5_11 {P : Prop} (h : P := by apply blk_fin; (focus ((with_reducible repeat (first | apply blk_putQ | refine blk_drewN ?_ _ | refine blk_drew ?_ | refine blk_alloc ?_ _)); exact BK157.out)); first | (simp only [List.setIfInBounds_toArray, List.set_cons_zero, List.set_cons_succ]; done) | rfl) : P := h
theorem z5_12 {P : Prop} (h : P := by first | (rw [add_block]; exact hn161_0) | (show (Addr.add _ _).block ≠ _; rw [add_block]; exact hn161_0) | exact hn161_0) : P := h
theorem z5_13 {P : Prop} (h : P := by first | (rw [add_block]; exact hn161_1) | (show (Addr.add _ _).block ≠ _; rw [add_block]; exact hn161_1) | exact hn161_1) : P := h
/-! ### impl_WindOf: function 81 -/
mutual
def impl_WindOf.l0 : Nat → List (S42) → List (S42) → Int → Int → Int → Int → Option (Int)
 | 0, _, _, _, _, _, _ => none
 | k + 1, x0, x15, x16, x17, x155000, x155001 => if x17 < x16 then (if 0 ≤ x17 then (if x17 < (x15.length : Int) then ((impl_isNear.f ((rd_T42 x15 x17).f0) ((rd_T42 x15 x17).f1)).bind fun t158 => (if t158 = true then (impl_WindOf.l0 k x0 x15 x16 (wrap64 (x17 + 1)) x155000 x155001) else (some 0))) else (none)) else (none)) else (impl_WindOf.l1 k x0 0 x0 (x0.length : Int) 0 x155000 x155001)
def impl_WindOf.l1 : Nat → List (S42) → Int → List (S42) → Int → Int → Int → Int → Option (Int)
 | 0, _, _, _, _, _, _, _ => none
 | k + 1, x0, x7, x25, x26, x27, x155000, x155001 => if x27 < x26 then (if 0 ≤ x27 then (if x27 < (x25.length : Int) then (if (x0.length : Int) = 0 then (none) else (if 0 ≤ (Int.tmod (wrap64 (x27 + 1)) (x0.length : Int)) then (if (Int.tmod (wrap64 (x27 + 1)) (x0.length : Int)) < (x0.length : Int) then (if ((rd_T42 x25 x27).f1) ≤ x155001 then (if x155001 < ((rd_T42 x0 (Int.tmod (wrap64 (x27 + 1)) (x0.length : Int))).f1) then (impl_WindOf.j2 k x0 x7 (wrap64 ((wrap64 ((wrap64 (((rd_T42 x0 (Int.tmod (wrap64 (x27 + 1)) (x0.length : Int))).f0) - ((rd_T42 x25 x27).f0))) * (wrap64 (x155001 - ((rd_T42 x25 x27).f1))))) - (wrap64 ((wrap64 (x155000 - ((rd_T42 x25 x27).f0))) * (wrap64 (((rd_T42 x0 (Int.tmod (wrap64 (x27 + 1)) (x0.length : Int))).f1) - ((rd_T42 x25 x27).f1))))))) x25 x26 x27 (decide ((wrap64 ((wrap64 ((wrap64 (((rd_T42 x0 (Int.tmod (wrap64 (x27 + 1)) (x0.length : Int))).f0) - ((rd_T42 x25 x27).f0))) * (wrap64 (x155001 - ((rd_T42 x25 x27).f1))))) - (wrap64 ((wrap64 (x155000 - ((rd_T42 x25 x27).f0))) * (wrap64 (((rd_T42 x0 (Int.tmod (wrap64 (x27 + 1)) (x0.length : Int))).f1) - ((rd_T42 x25 x27).f1))))))) > 0)) x155000 x155001 ((rd_T42 x25 x27).f0) ((rd_T42 x25 x27).f1) ((rd_T42 x0 (Int.tmod (wrap64 (x27 + 1)) (x0.length : Int))).f0) ((rd_T42 x0 (Int.tmod (wrap64 (x27 + 1)) (x0.length : Int))).f1)) else (impl_WindOf.j2 k x0 x7 (wrap64 ((wrap64 ((wrap64 (((rd_T42 x0 (Int.tmod (wrap64 (x27 + 1)) (x0.length : Int))).f0) - ((rd_T42 x25 x27).f0))) * (wrap64 (x155001 - ((rd_T42 x25 x27).f1))))) - (wrap64 ((wrap64 (x155000 - ((rd_T42 x25 x27).f0))) * (wrap64 (((rd_T42 x0 (Int.tmod (wrap64 (x27 + 1)) (x0.length : Int))).f1) - ((rd_T42 x25 x27).f1))))))) x25 x26 x27 false x155000 x155001 ((rd_T42 x25 x27).f0) ((rd_T42 x25 x27).f1) ((rd_T42 x0 (Int.tmod (wrap64 (x27 + 1)) (x0.length : Int))).f0) ((rd_T42 x0 (Int.tmod (wrap64 (x27 + 1)) (x0.length : Int))).f1))) else (impl_WindOf.j2 k x0 x7 (wrap64 ((wrap64 ((wrap64 (((rd_T42 x0 (Int.tmod (wrap64 (x27 + 1)) (x0.length : Int))).f0) - ((rd_T42 x25 x27).f0))) * (wrap64 (x155001 - ((rd_T42 x25 x27).f1))))) - (wrap64 ((wrap64 (x155000 - ((rd_T42 x25 x27).f0))) * (wrap64 (((rd_T42 x0 (Int.tmod (wrap64 (x27 + 1)) (x0.length : Int))).f1) - ((rd_T42 x25 x27).f1))))))) x25 x26 x27 false x155000 x155001 ((rd_T42 x25 x27).f0) ((rd_T42 x25 x27).f1) ((rd_T42 x0 (Int.tmod (wrap64 (x27 + 1)) (x0.length : Int))).f0) ((rd_T42 x0 (Int.tmod (wrap64 (x27 + 1)) (x0.length : Int))).f1))) else (none)) else (none))) else (none)) else (none)) else (some x7)
def impl_WindOf.j2 : Nat → List (S42) → Int → Int → List (S42) → Int → Int → Bool → Int → Int → Int → Int → Int → Int → Option (Int)
 | 0, _, _, _, _, _, _, _, _, _, _, _, _, _ => none
 | k + 1, x0, x7, x11, x25, x26, x27, x63, x155000, x155001, x161000, x161001, x163000, x163001 => if x63 = true then (impl_WindOf.l1 k x0 (wrap64 (x7 + 1)) x25 x26 (wrap64 (x27 + 1)) x155000 x155001) else (if x163001 ≤ x155001 then (if x155001 < x161001 then (if x11 < 0 then (impl_WindOf.l1 k x0 (wrap64 (x7 - 1)) x25 x26 (wrap64 (x27 + 1)) x155000 x155001) else (impl_WindOf.l1 k x0 x7 x25 x26 (wrap64 (x27 + 1)) x155000 x155001)) else (impl_WindOf.l1 k x0 x7 x25 x26 (wrap64 (x27 + 1)) x155000 x155001)) else (impl_WindOf.l1 k x0 x7 x25 x26 (wrap64 (x27 + 1)) x155000 x155001))
end
def impl_WindOf.f (k : Nat) (l0 : List (S42)) (a1_0 : Int) (a1_1 : Int) : Option (Int) := (impl_isNear.f a1_0 a1_1).bind fun t155 => (if t155 = true then (impl_WindOf.l0 k l0 l0 (l0.length : Int) 0 a1_0 a1_1) else (some 0))
theorem impl_WindOf.mono_l : ∀ k, (∀ y0 y1 y2 y3 y4 y5, LeO (impl_WindOf.l0 k y0 y1 y2 y3 y4 y5) (impl_WindOf.l0 (k + 1) y0 y1 y2 y3 y4 y5)) ∧ (∀ y0 y1 y2 y3 y4 y5 y6, LeO (impl_WindOf.l1 k y0 y1 y2 y3 y4 y5 y6) (impl_WindOf.l1 (k + 1) y0 y1 y2 y3 y4 y5 y6)) ∧ (∀ y0 y1 y2 y3 y4 y5 y6 y7 y8 y9 y10 y11 y12, LeO (impl_WindOf.j2 k y0 y1 y2 y3 y4 y5 y6 y7 y8 y9 y10 y11 y12) (impl_WindOf.j2 (k + 1) y0 y1 y2 y3 y4 y5 y6 y7 y8 y9 y10 y11 y12))
 | 0 => ⟨fun _ _ _ _ _ _ r h => by simp [impl_WindOf.l0] at h, fun _ _ _ _ _ _ _ r h => by simp [impl_WindOf.l1] at h, fun _ _ _ _ _ _ _ _ _ _ _ _ _ r h => by simp [impl_WindOf.j2] at h⟩
 | k + 1 => by
  obtain ⟨ih0, ih1, ih2⟩ := impl_WindOf.mono_l k
  refine ⟨?_, ?_, ?_⟩
  ·intro y0 y1 y2 y3 y4 y5
   unfold impl_WindOf.l0
   repeat' first
   | (with_reducible exact ih0 _ _ _ _ _ _)
   | (with_reducible exact ih1 _ _ _ _ _ _ _)
   | (with_reducible exact ih2 _ _ _ _ _ _ _ _ _ _ _ _ _)
   | (with_reducible exact LeO.refl _)
   | (with_reducible exact LeO.none _)
   | (with_reducible refine LeO.ite ?_ ?_)
   | (with_reducible refine LeO.bind ?_ (fun _ => ?_))
   | exact ih0 _ _ _ _ _ _
   | exact ih1 _ _ _ _ _ _ _
   | exact ih2 _ _ _ _ _ _ _ _ _ _ _ _ _
   | exact LeO.none _
   | refine LeO.ite ?_ ?_
   | refine LeO.bind ?_ (fun _ => ?_)
  ·intro y0 y1 y2 y3 y4 y5 y6
   unfold impl_WindOf.l1
   repeat' first
   | (with_reducible exact ih0 _ _ _ _ _ _)
   | (with_reducible exact ih1 _ _ _ _ _ _ _)
   | (with_reducible exact ih2 _ _ _ _ _ _ _ _ _ _ _ _ _)
   | (with_reducible exact LeO.refl _)
   | (with_reducible exact LeO.none _)
   | (with_reducible refine LeO.ite ?_ ?_)
   | (with_reducible refine LeO.bind ?_ (fun _ => ?_))
   | exact ih0 _ _ _ _ _ _
   | exact ih1 _ _ _ _ _ _ _
   | exact ih2 _ _ _ _ _ _ _ _ _ _ _ _ _
   | exact LeO.none _
   | refine LeO.ite ?_ ?_
   | refine LeO.bind ?_ (fun _ => ?_)
  ·intro y0 y1 y2 y3 y4 y5 y6 y7 y8 y9 y10 y11 y12
   unfold impl_WindOf.j2
   repeat' first
   | (with_reducible exact ih0 _ _ _ _ _ _)
   | (with_reducible exact ih1 _ _ _ _ _ _ _)
   | (with_reducible exact ih2 _ _ _ _ _ _ _ _ _ _ _ _ _)
   | (with_reducible exact LeO.refl _)
   | (with_reducible exact LeO.none _)
   | (with_reducible refine LeO.ite ?_ ?_)
   | (with_reducible refine LeO.bind ?_ (fun _ => ?_))
   | exact ih0 _ _ _ _ _ _
   | exact ih1 _ _ _ _ _ _ _
   | exact ih2 _ _ _ _ _ _ _ _ _ _ _ _ _
   | exact LeO.none _
   | refine LeO.ite ?_ ?_
   | refine LeO.bind ?_ (fun _ => ?_)
theorem impl_WindOf.mono : ∀ a0 a1 a2 k, LeO (impl_WindOf.f k a0 a1 a2) (impl_WindOf.f (k + 1) a0 a1 a2) := by
 intro a0 a1 a2 k
 obtain ⟨ih0, ih1, ih2⟩ := impl_WindOf.mono_l k
 unfold impl_WindOf.f
 repeat' first
   | (with_reducible exact ih0 _ _ _ _ _ _)
   | (with_reducible exact ih1 _ _ _ _ _ _ _)
   | (with_reducible exact ih2 _ _ _ _ _ _ _ _ _ _ _ _ _)
   | (with_reducible exact LeO.refl _)
   | (with_reducible exact LeO.none _)
   | (with_reducible refine LeO.ite ?_ ?_)
   | (with_reducible refine LeO.bind ?_ (fun _ => ?_))
   | exact ih0 _ _ _ _ _ _
   | exact ih1 _ _ _ _ _ _ _
   | exact ih2 _ _ _ _ _ _ _ _ _ _ _ _ _
   | exact LeO.none _
   | refine LeO.ite ?_ ?_
   | refine LeO.bind ?_ (fun _ => ?_)
set_option maxHeartbeats 8000000 in
set_option maxRecDepth 100000 in
theorem impl_WindOf.calls (k : Nat) (A0 : Option Addr) (c0 : Nat) (l0 : List (S42)) (a1_0 : Int) (a1_1 : Int) (r : Int) (w : World) (hr0 : Kd.C k42 w A0 l0.length l0) (hc0 : l0.length ≤ c0) (h : impl_WindOf.f k l0 a1_0 a1_1 = some r) :
  Calls Try.prog 81 #[.slice A0 l0.length c0, .agg #[.int .i64 a1_0, .int .i64 a1_1]] w fun e w' => e = .returned (.int .i64 r) ∧ Below w.heap.size w w' := by
 have hu42 := Try.underlying42
 have HR0 := Aside0.mk hr0
 have HC0 := Aside0.mk hc0
 clear hr0 hc0
 have HB := Aside0.mk (Below.refl w.heap.size w)
 have H : ((impl_isNear.f a1_0 a1_1).bind fun t155 => (if t155 = true then (impl_WindOf.l0 k l0 l0 (l0.length : Int) 0 a1_0 a1_1) else (some 0))) = some r := h
 clear h
 replace H := Option.bind_eq_some_iff.mp H
 obtain ⟨t155, A30, H⟩ := H
 try dsimp only at H
 have A3 := Aside0.mk A30
 clear A30
 by_cases c4 : t155 = true
 ·subst c4
  have H1 : (impl_WindOf.l0 k l0 l0 (l0.length : Int) 0 a1_0 a1_1) = some r := by rw [if_pos rfl] at H; exact H
  clear H; have H := H1; clear H1
  have H' := Aside0.mk H
  clear H
  go_enter Try.func81, Try.ntmps81
  go_wp2_with (first | ((with_reducible refine gate_dst (N := 3) rfl ?_); refine boxz (cs := #[.int .i64 a1_0, .int .i64 a1_1]) (t := 42) rfl ?_; intro gb154 hg w5 hbox hb; have n0_ := Aside0.mk (below_step z5_1 hb); have n1_ := Aside0.mk (hbox); have n2_ := Aside0.mk ((by rw [hg]; exact (below_size z5_1) : w.heap.size ≤ gb154)); have n3_ := Aside0.mk ((by rw [hg]; exact (below_size z5_1) : w.heap.size ≤ gb154)); clear HB; have HB := n0_; have BK154 := n1_; have GW154 := n2_; have GE154 := n3_; clear n0_ n1_ n2_ n3_; clear hb hbox hg; have hcz6_0 : w5.cell? ⟨gb154, 0, none⟩ = some (.int .i64 a1_0) := (blk_cell BK154.out 0).trans rfl; have hcz6_1 : w5.cell? ⟨gb154, 1, none⟩ = some (.int .i64 a1_1) := (blk_cell BK154.out 1).trans rfl; have hfz6_0 := blk_frozen BK154.out 0; have hfz6_1 := blk_frozen BK154.out 1) | ((with_reducible refine gate_callee (f := 135) rfl ?_); refine goesL_ (some 13) rfl rfl Try.func135 (by kernel_rfl) rfl #[.agg #[.int .i64 a1_0, .int .i64 a1_1]] rfl z5_3 ?_; (with_reducible refine (impl_isNear.calls a1_0 a1_1 true _ A3.out).mono ?_); rintro e w7 ⟨rfl, hb⟩; refine ⟨_, rfl, ?_⟩; have n0_ := Aside0.mk (blk_belowB BK154 z5_2 hb); have n1_ := Aside0.mk (below_step z5_0 hb); clear BK154; clear HB; have BK154 := n0_; have HB := n1_; clear n0_ n1_; (try clear hb)))
  go_loopg [17] k (fun kq v17 w' => ∃ (x17_1 : Int), v17 = .int .i64 x17_1 ∧ Aside0 (impl_WindOf.l0 kq l0 l0 (l0.length : Int) x17_1 a1_0 a1_1 = some r) ∧ Aside0 (kq ≤ k) ∧ Aside0 (w'.heap[gb154]? = some (.cells #[.int .i64 a1_0, .int .i64 a1_1] 42 (0, 0))) ∧ Aside0 (Below w.heap.size w w'))
  case atStart => exact ⟨(0), (by first | rfl | (simp; done) | (simp [*]; done)), H', ⟨Nat.le_refl _⟩, ⟨by (with_reducible repeat (first | refine blk_drewN ?_ _ | refine blk_drew ?_ | refine blk_alloc ?_ _)); exact BK154.out⟩, ⟨by repeat (first | (with_reducible first | exact HB.out | apply below_alloc | apply pw_below_drewN | apply below_drew1 | refine below_set ?_ GE154.out) | exact HB.out)⟩⟩
  case round =>
   clear H'
   try clear c1
   try clear p2
   try clear c4
   try clear hcz6_0
   try clear hcz6_1
   try clear hfz6_0
   try clear hfz6_1
   obtain ⟨x17_1, rfl, HA, HK1, BK154, HB⟩ := hrel
   cases gk with
   | zero => exact absurd HA.out (by simp [impl_WindOf.l0])
   | succ k1 =>
    have H := HA.out; clear HA
    simp only [impl_WindOf.l0] at H
    by_cases c8 : x17_1 < (l0.length : Int)
    ·rw [if_pos c8] at H
     have c8b0 : decide (x17_1 < (l0.length : Int)) = true := decide_eq_true c8
     clear c8
     by_cases c9 : 0 ≤ x17_1
     ·rw [if_pos c9] at H
      have c9b0 : decide (0 ≤ x17_1) = true := decide_eq_true c9
      clear c9
      by_cases c10 : x17_1 < (l0.length : Int)
      ·rw [if_pos c10] at H
       have c10b0 : decide (x17_1 < (l0.length : Int)) = true := decide_eq_true c10
       clear c10
       replace H := Option.bind_eq_some_iff.mp H
       obtain ⟨t158, A110, H⟩ := H
       try dsimp only at H
       have A11 := Aside0.mk A110
       clear A110
       by_cases c12 : t158 = true
       ·subst c12
        have H1 : (impl_WindOf.l0 k1 l0 l0 (l0.length : Int) (wrap64 (x17_1 + 1)) a1_0 a1_1) = some r := by rw [if_pos rfl] at H; exact H
        clear H; have H := H1; clear H1
        have H' := Aside0.mk H
        clear H
        have p156 : 0 ≤ (x17_1 : Int) := of_decide_eq_true (by first | (with_reducible assumption) | assumption)
        have q156 : x17_1 < (l0.length : Int) := of_decide_eq_true (by first | (with_reducible assumption) | assumption)
        obtain ⟨ad156, e156, hx156_0, hx156_1⟩ := at_T42 HR0.out x17_1 p156 q156
        cases e156
        replace hx156_0 := cell_go HB hx156_0
        replace hx156_1 := cell_go HB hx156_1
        replace p156 := eq_true p156
        replace q156 := eq_true q156
        go_wp2_with (first | ((with_reducible refine gate_dst (N := 6) rfl ?_); refine boxz (cs := #[.int .i64 0, .int .i64 0]) (t := 42) rfl ?_; intro gb157 hg w13 hbox hb; have n0_ := Aside0.mk (blk_belowB BK154 z5_2 hb); have n1_ := Aside0.mk (below_step z5_0 hb); have n2_ := Aside0.mk (hbox); have n3_ := Aside0.mk ((by rw [hg]; exact (below_size z5_0) : w.heap.size ≤ gb157)); have n4_ := Aside0.mk ((by rw [hg]; exact (below_size z5_0) : w.heap.size ≤ gb157)); have n5_ := Aside0.mk ((by rw [hg]; exact Nat.ne_of_lt (blk_ltB BK154 z5_2) : gb154 ≠ gb157)); have n6_ := Aside0.mk ((by rw [hg]; exact Nat.ne_of_gt (blk_ltB BK154 z5_2) : gb157 ≠ gb154)); clear BK154; clear HB; have BK154 := n0_; have HB := n1_; have BK157 := n2_; have GW157 := n3_; have GE157 := n4_; have NB154_157 := n5_; have NB157_154 := n6_; clear n0_ n1_ n2_ n3_ n4_ n5_ n6_; clear hb hbox hg; have hnb14 := NB157_154.out; have hnc14 := NB154_157.out; have hcz15_0 : w13.cell? ⟨gb157, 0, none⟩ = some (.int .i64 0) := (blk_cell BK157.out 0).trans rfl; have hcz15_1 : w13.cell? ⟨gb157, 1, none⟩ = some (.int .i64 0) := (blk_cell BK157.out 1).trans rfl; have hfz15_0 := blk_frozen BK157.out 0; have hfz15_1 := blk_frozen BK157.out 1) | ((with_reducible refine gate_callee (f := 135) rfl ?_); refine goesL_ (some 22) rfl rfl Try.func135 (by kernel_rfl) rfl #[.agg #[.int .i64 ((rd_T42 l0 x17_1).f0), .int .i64 ((rd_T42 l0 x17_1).f1)]] rfl z5_3 ?_; (with_reducible refine (impl_isNear.calls ((rd_T42 l0 x17_1).f0) ((rd_T42 l0 x17_1).f1) true _ A11.out).mono ?_); rintro e w16 ⟨rfl, hb⟩; refine ⟨_, rfl, ?_⟩; have n0_ := Aside0.mk (blk_belowB BK154 z5_9 hb); have n1_ := Aside0.mk (blk_below (g := gb157) (o := .cells #[.int .i64 ((rd_T42 l0 x17_1).f0), .int .i64 ((rd_T42 l0 x17_1).f1)] 42 (0, 0)) z5_11 hb); have n2_ := Aside0.mk (below_step z5_7 hb); clear BK154; clear BK157; clear HB; have BK154 := n0_; have BK157 := n1_; have HB := n2_; clear n0_ n1_ n2_; (try clear hb)))
        go_roundg k1
        case measure => have := HK1.out; omega
        case rel => exact ⟨(wrap64 (x17_1 + 1)), (by first | rfl | (simp; done) | (simp [*]; done)), H', ⟨by have := HK1.out; omega⟩, ⟨by (with_reducible repeat (first | refine blk_drewN ?_ _ | refine blk_drew ?_ | refine blk_alloc ?_ _)); exact BK154.out⟩, ⟨by repeat (first | (with_reducible first | exact HB.out | apply below_alloc | apply pw_below_drewN | apply below_drew1 | refine below_set ?_ GE154.out | refine below_set ?_ GE157.out) | exact HB.out)⟩⟩
       ·replace c12 := Bool.eq_false_iff.mpr c12
        subst c12
        have H1 : (some 0) = some r := by rw [if_neg (show ¬ (false = true) by decide)] at H; exact H
        clear H; have H := H1; clear H1
        obtain rfl := Option.some.inj H
        simp only [Option.some.injEq, Prod.mk.injEq] at H
        obtain ⟨rfl⟩ := H
        have p156 : 0 ≤ (x17_1 : Int) := of_decide_eq_true (by first | (with_reducible assumption) | assumption)
        have q156 : x17_1 < (l0.length : Int) := of_decide_eq_true (by first | (with_reducible assumption) | assumption)
        obtain ⟨ad156, e156, hx156_0, hx156_1⟩ := at_T42 HR0.out x17_1 p156 q156
        cases e156
        replace hx156_0 := cell_go HB hx156_0
        replace hx156_1 := cell_go HB hx156_1
        replace p156 := eq_true p156
        replace q156 := eq_true q156
        go_wp2_with (first | ((with_reducible refine gate_dst (N := 6) rfl ?_); refine boxz (cs := #[.int .i64 0, .int .i64 0]) (t := 42) rfl ?_; intro gb157 hg w17 hbox hb; have n0_ := Aside0.mk (blk_belowB BK154 z5_2 hb); have n1_ := Aside0.mk (below_step z5_0 hb); have n2_ := Aside0.mk (hbox); have n3_ := Aside0.mk ((by rw [hg]; exact (below_size z5_0) : w.heap.size ≤ gb157)); have n4_ := Aside0.mk ((by rw [hg]; exact (below_size z5_0) : w.heap.size ≤ gb157)); have n5_ := Aside0.mk ((by rw [hg]; exact Nat.ne_of_lt (blk_ltB BK154 z5_2) : gb154 ≠ gb157)); have n6_ := Aside0.mk ((by rw [hg]; exact Nat.ne_of_gt (blk_ltB BK154 z5_2) : gb157 ≠ gb154)); clear BK154; clear HB; have BK154 := n0_; have HB := n1_; have BK157 := n2_; have GW157 := n3_; have GE157 := n4_; have NB154_157 := n5_; have NB157_154 := n6_; clear n0_ n1_ n2_ n3_ n4_ n5_ n6_; clear hb hbox hg; have hnb18 := NB157_154.out; have hnc18 := NB154_157.out; have hcz19_0 : w17.cell? ⟨gb157, 0, none⟩ = some (.int .i64 0) := (blk_cell BK157.out 0).trans rfl; have hcz19_1 : w17.cell? ⟨gb157, 1, none⟩ = some (.int .i64 0) := (blk_cell BK157.out 1).trans rfl; have hfz19_0 := blk_frozen BK157.out 0; have hfz19_1 := blk_frozen BK157.out 1) | ((with_reducible refine gate_callee (f := 135) rfl ?_); refine goesL_ (some 22) rfl rfl Try.func135 (by kernel_rfl) rfl #[.agg #[.int .i64 ((rd_T42 l0 x17_1).f0), .int .i64 ((rd_T42 l0 x17_1).f1)]] rfl z5_3 ?_; (with_reducible refine (impl_isNear.calls ((rd_T42 l0 x17_1).f0) ((rd_T42 l0 x17_1).f1) false _ A11.out).mono ?_); rintro e w20 ⟨rfl, hb⟩; refine ⟨_, rfl, ?_⟩; have n0_ := Aside0.mk (blk_belowB BK154 z5_9 hb); have n1_ := Aside0.mk (blk_below (g := gb157) (o := .cells #[.int .i64 ((rd_T42 l0 x17_1).f0), .int .i64 ((rd_T42 l0 x17_1).f1)] 42 (0, 0)) z5_11 hb); have n2_ := Aside0.mk (below_step z5_7 hb); clear BK154; clear BK157; clear HB; have BK154 := n0_; have BK157 := n1_; have HB := n2_; clear n0_ n1_ n2_; (try clear hb)))
        go_ret
        exact ⟨z5_6, z5_7⟩
      ·rw [if_neg c10] at H
       exact absurd H (by simp)
     ·rw [if_neg c9] at H
      exact absurd H (by simp)
    ·rw [if_neg c8] at H
     have c8b0 : decide (x17_1 < (l0.length : Int)) = false := decide_eq_false c8
     clear c8
     have H' := Aside0.mk H
     clear H
     go_wp2
     go_loopg [7, 27] k1 (fun kq v7 v27 w' => ∃ (x7_2 : Int) (x27_2 : Int), v7 = .int .i64 x7_2 ∧ v27 = .int .i64 x27_2 ∧ Aside0 (impl_WindOf.l1 kq l0 x7_2 l0 (l0.length : Int) x27_2 a1_0 a1_1 = some r) ∧ Aside0 (kq ≤ k1) ∧ Aside0 (w'.heap[gb154]? = some (.cells #[.int .i64 a1_0, .int .i64 a1_1] 42 (0, 0))) ∧ Aside0 (Below w.heap.size w w'))
     case atStart => exact ⟨(0), (0), (by first | rfl | (simp; done) | (simp [*]; done)), (by first | rfl | (simp; done) | (simp [*]; done)), H', ⟨Nat.le_refl _⟩, ⟨by (with_reducible repeat (first | refine blk_drewN ?_ _ | refine blk_drew ?_ | refine blk_alloc ?_ _)); exact BK154.out⟩, ⟨by repeat (first | (with_reducible first | exact HB.out | apply below_alloc | apply pw_below_drewN | apply below_drew1 | refine below_set ?_ GE154.out) | exact HB.out)⟩⟩
     case round =>
      clear H'
      try clear c1
      try clear p1
      try clear q1
      try clear hx1
      try clear p2
      try clear c4
      try clear p6
      try clear c8
      try clear c8b0
      try clear c9
      try clear c9b0
      try clear c10
      try clear c10b0
      try clear c12
      try clear c13
      try clear c14
      try clear p15
      try clear q15
      try clear hx15
      try clear c18
      try clear hcz15_0
      try clear hcz15_1
      try clear hcz19_0
      try clear hcz19_1
      try clear hcz6_0
      try clear hcz6_1
      try clear hfz15_0
      try clear hfz15_1
      try clear hfz19_0
      try clear hfz19_1
      try clear hfz6_0
      try clear hfz6_1
      try clear hx156_0
      try clear hx156_1
      try clear p156
      try clear p2
      try clear q156
      obtain ⟨x7_2, x27_2, rfl, rfl, HA, HK2, BK154, HB⟩ := hrel
      cases gk with
      | zero => exact absurd HA.out (by simp [impl_WindOf.l1])
      | succ k2 =>
       have H := HA.out; clear HA
       simp only [impl_WindOf.l1] at H
       by_cases c21 : x27_2 < (l0.length : Int)
       ·rw [if_pos c21] at H
        have c21b0 : decide (x27_2 < (l0.length : Int)) = true := decide_eq_true c21
        clear c21
        by_cases c22 : 0 ≤ x27_2
        ·rw [if_pos c22] at H
         have c22b0 : decide (0 ≤ x27_2) = true := decide_eq_true c22
         clear c22
         by_cases c23 : x27_2 < (l0.length : Int)
         ·rw [if_pos c23] at H
          have c23b0 : decide (x27_2 < (l0.length : Int)) = true := decide_eq_true c23
          clear c23
          by_cases c24 : (l0.length : Int) = 0
          ·rw [if_pos c24] at H
           exact absurd H (by simp)
          ·rw [if_neg c24] at H
           have c24b0 : ((l0.length : Int) == 0) = false := beq_eq_false_iff_ne.mpr c24
           have c24b1 : ((l0.length : Int) != 0) = true := bne_iff_ne.mpr c24
           have c24b2 : ¬ (l0 = []) := fun h_ => c24 (by rw [h_]; rfl)
           obtain ⟨ji25, hji25⟩ : ∃ j_ : Int, (Int.tmod (wrap64 (x27_2 + 1)) (l0.length : Int)) = j_ := ⟨_, rfl⟩
           replace H : (if 0 ≤ (ji25) then (if (ji25) < (l0.length : Int) then (if ((rd_T42 l0 x27_2).f1) ≤ a1_1 then (if a1_1 < ((rd_T42 l0 (ji25)).f1) then (impl_WindOf.j2 k2 l0 x7_2 (wrap64 ((wrap64 ((wrap64 (((rd_T42 l0 (ji25)).f0) - ((rd_T42 l0 x27_2).f0))) * (wrap64 (a1_1 - ((rd_T42 l0 x27_2).f1))))) - (wrap64 ((wrap64 (a1_0 - ((rd_T42 l0 x27_2).f0))) * (wrap64 (((rd_T42 l0 (ji25)).f1) - ((rd_T42 l0 x27_2).f1))))))) l0 (l0.length : Int) x27_2 (decide ((wrap64 ((wrap64 ((wrap64 (((rd_T42 l0 (ji25)).f0) - ((rd_T42 l0 x27_2).f0))) * (wrap64 (a1_1 - ((rd_T42 l0 x27_2).f1))))) - (wrap64 ((wrap64 (a1_0 - ((rd_T42 l0 x27_2).f0))) * (wrap64 (((rd_T42 l0 (ji25)).f1) - ((rd_T42 l0 x27_2).f1))))))) > 0)) a1_0 a1_1 ((rd_T42 l0 x27_2).f0) ((rd_T42 l0 x27_2).f1) ((rd_T42 l0 (ji25)).f0) ((rd_T42 l0 (ji25)).f1)) else (impl_WindOf.j2 k2 l0 x7_2 (wrap64 ((wrap64 ((wrap64 (((rd_T42 l0 (ji25)).f0) - ((rd_T42 l0 x27_2).f0))) * (wrap64 (a1_1 - ((rd_T42 l0 x27_2).f1))))) - (wrap64 ((wrap64 (a1_0 - ((rd_T42 l0 x27_2).f0))) * (wrap64 (((rd_T42 l0 (ji25)).f1) - ((rd_T42 l0 x27_2).f1))))))) l0 (l0.length : Int) x27_2 false a1_0 a1_1 ((rd_T42 l0 x27_2).f0) ((rd_T42 l0 x27_2).f1) ((rd_T42 l0 (ji25)).f0) ((rd_T42 l0 (ji25)).f1))) else (impl_WindOf.j2 k2 l0 x7_2 (wrap64 ((wrap64 ((wrap64 (((rd_T42 l0 (ji25)).f0) - ((rd_T42 l0 x27_2).f0))) * (wrap64 (a1_1 - ((rd_T42 l0 x27_2).f1))))) - (wrap64 ((wrap64 (a1_0 - ((rd_T42 l0 x27_2).f0))) * (wrap64 (((rd_T42 l0 (ji25)).f1) - ((rd_T42 l0 x27_2).f1))))))) l0 (l0.length : Int) x27_2 false a1_0 a1_1 ((rd_T42 l0 x27_2).f0) ((rd_T42 l0 x27_2).f1) ((rd_T42 l0 (ji25)).f0) ((rd_T42 l0 (ji25)).f1))) else (none)) else (none)) = some r := by first | (rw [hji25] at H; exact H) | (simp only [hji25] at H ⊢; exact H)
           by_cases c26 : 0 ≤ (ji25)
           ·rw [if_pos c26] at H
            have c26b0 : decide (0 ≤ (ji25)) = true := decide_eq_true c26
            clear c26
            by_cases c27 : (ji25) < (l0.length : Int)
            ·rw [if_pos c27] at H
             have c27b0 : decide ((ji25) < (l0.length : Int)) = true := decide_eq_true c27
             clear c27
             have HC28 := Aside0.mk H
             clear H
             have p159 : 0 ≤ (x27_2 : Int) := of_decide_eq_true (by first | (with_reducible assumption) | assumption)
             have q159 : x27_2 < (l0.length : Int) := of_decide_eq_true (by first | (with_reducible assumption) | assumption)
             obtain ⟨ad159, e159, hx159_0, hx159_1⟩ := at_T42 HR0.out x27_2 p159 q159
             cases e159
             replace hx159_0 := cell_go HB hx159_0
             replace hx159_1 := cell_go HB hx159_1
             replace p159 := eq_true p159
             replace q159 := eq_true q159
             go_upto_region 15 with (first | ((with_reducible refine gate_dst (N := 9) rfl ?_); refine boxz (cs := #[.int .i64 0, .int .i64 0]) (t := 42) rfl ?_; intro gb160 hg w29 hbox hb; have n0_ := Aside0.mk (blk_belowB BK154 z5_2 hb); have n1_ := Aside0.mk (below_step z5_0 hb); have n2_ := Aside0.mk (hbox); have n3_ := Aside0.mk ((by rw [hg]; exact (below_size z5_0) : w.heap.size ≤ gb160)); have n4_ := Aside0.mk ((by rw [hg]; exact (below_size z5_0) : w.heap.size ≤ gb160)); have n5_ := Aside0.mk ((by rw [hg]; exact Nat.ne_of_lt (blk_ltB BK154 z5_2) : gb154 ≠ gb160)); have n6_ := Aside0.mk ((by rw [hg]; exact Nat.ne_of_gt (blk_ltB BK154 z5_2) : gb160 ≠ gb154)); clear BK154; clear HB; have BK154 := n0_; have HB := n1_; have BK160 := n2_; have GW160 := n3_; have GE160 := n4_; have NB154_160 := n5_; have NB160_154 := n6_; clear n0_ n1_ n2_ n3_ n4_ n5_ n6_; clear hb hbox hg; have hnb30 := NB160_154.out; have hnc30 := NB154_160.out; have hcz31_0 : w29.cell? ⟨gb160, 0, none⟩ = some (.int .i64 0) := (blk_cell BK160.out 0).trans rfl; have hcz31_1 : w29.cell? ⟨gb160, 1, none⟩ = some (.int .i64 0) := (blk_cell BK160.out 1).trans rfl; have hfz31_0 := blk_frozen BK160.out 0; have hfz31_1 := blk_frozen BK160.out 1; have p161 : 0 ≤ ((ji25) : Int) := of_decide_eq_true (by first | (with_reducible assumption) | assumption); have q161 : (ji25) < (l0.length : Int) := of_decide_eq_true (by first | (with_reducible assumption) | assumption); obtain ⟨ad161, e161, hx161_0, hx161_1⟩ := at_T42 HR0.out (ji25) p161 q161; obtain rfl : ad159 = ad161 := (by injection e161); have hn161_0 : ad159.block ≠ gb160 := Nat.ne_of_lt (Nat.lt_of_lt_of_le (by have := World.block_lt_of_cell? _ _ hx161_0; first | rwa [add_block] at this | exact this) GW160.out); have hn161_1 : ad159.block ≠ gb160 := Nat.ne_of_lt (Nat.lt_of_lt_of_le (by have := World.block_lt_of_cell? _ _ hx161_0; first | rwa [add_block] at this | exact this) GW160.out); replace hx161_0 := cell_go HB hx161_0; replace hx161_1 := cell_go HB hx161_1; replace hx161_0 := (cell_far (p := ⟨gb160, 0, none⟩) z5_12 (.int .i64 ((rd_T42 l0 x27_2).f0))).trans hx161_0; replace hx161_1 := (cell_far (p := ⟨gb160, 0, none⟩) z5_12 (.int .i64 ((rd_T42 l0 x27_2).f0))).trans hx161_1; replace hx161_0 := (cell_far (p := ⟨gb160, 1, none⟩) z5_13 (.int .i64 ((rd_T42 l0 x27_2).f1))).trans hx161_0; replace hx161_1 := (cell_far (p := ⟨gb160, 1, none⟩) z5_13 (.int .i64 ((rd_T42 l0 x27_2).f1))).trans hx161_1; clear hn161_0; clear hn161_1; replace p161 := eq_true p161; replace q161 := eq_true q161) | ((with_reducible refine gate_dst (N := 10) rfl ?_); refine boxz (cs := #[.int .i64 0, .int .i64 0]) (t := 42) rfl ?_; intro gb162 hg w32 hbox hb; have n0_ := Aside0.mk (blk_belowB BK154 z5_4 hb); have n1_ := Aside0.mk (blk_below (g := gb160) (o := .cells #[.int .i64 ((rd_T42 l0 x27_2).f0), .int .i64 ((rd_T42 l0 x27_2).f1)] 42 (0, 0)) z5_5 hb); have n2_ := Aside0.mk (below_step z5_8 hb); have n3_ := Aside0.mk (hbox); have n4_ := Aside0.mk ((by rw [hg]; exact (below_size z5_8) : w.heap.size ≤ gb162)); have n5_ := Aside0.mk ((by rw [hg]; exact (below_size z5_8) : w.heap.size ≤ gb162)); have n6_ := Aside0.mk ((by rw [hg]; exact Nat.ne_of_lt (blk_ltB BK154 z5_4) : gb154 ≠ gb162)); have n7_ := Aside0.mk ((by rw [hg]; exact Nat.ne_of_gt (blk_ltB BK154 z5_4) : gb162 ≠ gb154)); have n8_ := Aside0.mk ((by rw [hg]; exact Nat.ne_of_lt (blk_lt (g := gb160) (o := .cells #[.int .i64 ((rd_T42 l0 x27_2).f0), .int .i64 ((rd_T42 l0 x27_2).f1)] 42 (0, 0)) z5_5) : gb160 ≠ gb162)); have n9_ := Aside0.mk ((by rw [hg]; exact Nat.ne_of_gt (blk_lt (g := gb160) (o := .cells #[.int .i64 ((rd_T42 l0 x27_2).f0), .int .i64 ((rd_T42 l0 x27_2).f1)] 42 (0, 0)) z5_5) : gb162 ≠ gb160)); clear BK154; clear BK160; clear HB; have BK154 := n0_; have BK160 := n1_; have HB := n2_; have BK162 := n3_; have GW162 := n4_; have GE162 := n5_; have NB154_162 := n6_; have NB162_154 := n7_; have NB160_162 := n8_; have NB162_160 := n9_; clear n0_ n1_ n2_ n3_ n4_ n5_ n6_ n7_ n8_ n9_; clear hb hbox hg; have hnb33 := NB162_154.out; have hnc33 := NB154_162.out; have hnb34 := NB162_160.out; have hnc34 := NB160_162.out; have hcz35_0 : w32.cell? ⟨gb162, 0, none⟩ = some (.int .i64 0) := (blk_cell BK162.out 0).trans rfl; have hcz35_1 : w32.cell? ⟨gb162, 1, none⟩ = some (.int .i64 0) := (blk_cell BK162.out 1).trans rfl; have hfz35_0 := blk_frozen BK162.out 0; have hfz35_1 := blk_frozen BK162.out 1; have hcz36_0 : w32.cell? ⟨gb160, 0, none⟩ = some (.int .i64 ((rd_T42 l0 x27_2).f0)) := (blk_cell BK160.out 0).trans rfl; have hcz36_1 : w32.cell? ⟨gb160, 1, none⟩ = some (.int .i64 ((rd_T42 l0 x27_2).f1)) := (blk_cell BK160.out 1).trans rfl; have hfz36_0 := blk_frozen BK160.out 0; have hfz36_1 := blk_frozen BK160.out 1; have hcz37_0 : w32.cell? ⟨gb154, 0, none⟩ = some (.int .i64 a1_0) := (blk_cell BK154.out 0).trans rfl; have hcz37_1 : w32.cell? ⟨gb154, 1, none⟩ = some (.int .i64 a1_1) := (blk_cell BK154.out 1).trans rfl; have hfz37_0 := blk_frozen BK154.out 0; have hfz37_1 := blk_frozen BK154.out 1))
             (try simp only [Act.put, List.setIfInBounds_toArray, List.set_cons_zero, List.set_cons_succ])
             go_cut [63] (fun v63 wc => ∃ (kq : Nat) (x63_27 : Bool), v63 = .bool x63_27 ∧ Aside0 (impl_WindOf.j2 kq l0 x7_2 (wrap64 ((wrap64 ((wrap64 (((rd_T42 l0 (ji25)).f0) - ((rd_T42 l0 x27_2).f0))) * (wrap64 (a1_1 - ((rd_T42 l0 x27_2).f1))))) - (wrap64 ((wrap64 (a1_0 - ((rd_T42 l0 x27_2).f0))) * (wrap64 (((rd_T42 l0 (ji25)).f1) - ((rd_T42 l0 x27_2).f1))))))) l0 (l0.length : Int) x27_2 x63_27 a1_0 a1_1 ((rd_T42 l0 x27_2).f0) ((rd_T42 l0 x27_2).f1) ((rd_T42 l0 (ji25)).f0) ((rd_T42 l0 (ji25)).f1) = some r) ∧ Aside0 (kq ≤ k2) ∧ Aside0 (wc.heap[gb154]? = some (.cells #[.int .i64 a1_0, .int .i64 a1_1] 42 (0, 0))) ∧ Aside0 (wc.heap[gb160]? = some (.cells #[.int .i64 ((rd_T42 l0 x27_2).f0), .int .i64 ((rd_T42 l0 x27_2).f1)] 42 (0, 0))) ∧ Aside0 (wc.heap[gb162]? = some (.cells #[.int .i64 ((rd_T42 l0 (ji25)).f0), .int .i64 ((rd_T42 l0 (ji25)).f1)] 42 (0, 0))) ∧ Aside0 (Below w.heap.size w wc))
             case first =>
              have H := HC28.out; clear HC28
              by_cases c38 : ((rd_T42 l0 x27_2).f1) ≤ a1_1
              ·rw [if_pos c38] at H
               have c38b0 : decide (((rd_T42 l0 x27_2).f1) ≤ a1_1) = true := decide_eq_true c38
               clear c38
               (first | rw [c38b0] | (simp only [i64_w, i32_w]; rw [c38b0]) | skip)
               by_cases c39 : a1_1 < ((rd_T42 l0 (ji25)).f1)
               ·rw [if_pos c39] at H
                have c39b0 : decide (a1_1 < ((rd_T42 l0 (ji25)).f1)) = true := decide_eq_true c39
                clear c39
                have H' := Aside0.mk H
                clear H; have hnb40 := NB160_154.out; have hnc40 := NB154_160.out; have hnb41 := NB160_162.out; have hnc41 := NB162_160.out
                have hcz42_0 : w32.cell? ⟨gb160, 0, none⟩ = some (.int .i64 ((rd_T42 l0 x27_2).f0)) := (blk_cell BK160.out 0).trans rfl
                have hcz42_1 : w32.cell? ⟨gb160, 1, none⟩ = some (.int .i64 ((rd_T42 l0 x27_2).f1)) := (blk_cell BK160.out 1).trans rfl
                have hfz42_0 := blk_frozen BK160.out 0
                have hfz42_1 := blk_frozen BK160.out 1
                have hnb43 := NB154_162.out; have hnc43 := NB162_154.out
                have hcz44_0 : w32.cell? ⟨gb154, 0, none⟩ = some (.int .i64 a1_0) := (blk_cell BK154.out 0).trans rfl
                have hcz44_1 : w32.cell? ⟨gb154, 1, none⟩ = some (.int .i64 a1_1) := (blk_cell BK154.out 1).trans rfl
                have hfz44_0 := blk_frozen BK154.out 0
                have hfz44_1 := blk_frozen BK154.out 1
                have hcz45_0 : w32.cell? ⟨gb162, 0, none⟩ = some (.int .i64 0) := (blk_cell BK162.out 0).trans rfl
                have hcz45_1 : w32.cell? ⟨gb162, 1, none⟩ = some (.int .i64 0) := (blk_cell BK162.out 1).trans rfl
                have hfz45_0 := blk_frozen BK162.out 0
                have hfz45_1 := blk_frozen BK162.out 1
                go_wp2
                go_meet
                case rel => exact ⟨_, (decide ((wrap64 ((wrap64 ((wrap64 (((rd_T42 l0 (ji25)).f0) - ((rd_T42 l0 x27_2).f0))) * (wrap64 (a1_1 - ((rd_T42 l0 x27_2).f1))))) - (wrap64 ((wrap64 (a1_0 - ((rd_T42 l0 x27_2).f0))) * (wrap64 (((rd_T42 l0 (ji25)).f1) - ((rd_T42 l0 x27_2).f1))))))) > 0)), (by first | rfl | (simp; done) | (simp only [← hji25] <;> (first | rfl | simp)) | (simp [*]; done)), H', ⟨by have := HK1.out; have := HK2.out; first | omega | exact Nat.le_refl _⟩, ⟨by (with_reducible repeat (first | refine blk_drewN ?_ _ | refine blk_drew ?_ | refine blk_alloc ?_ _)); refine blk_far ?_ NB154_162.out _; (with_reducible repeat (first | refine blk_drewN ?_ _ | refine blk_drew ?_ | refine blk_alloc ?_ _)); refine blk_far ?_ NB154_162.out _; (with_reducible repeat (first | refine blk_drewN ?_ _ | refine blk_drew ?_ | refine blk_alloc ?_ _)); exact BK154.out⟩, ⟨by (with_reducible repeat (first | refine blk_drewN ?_ _ | refine blk_drew ?_ | refine blk_alloc ?_ _)); refine blk_far ?_ NB160_162.out _; (with_reducible repeat (first | refine blk_drewN ?_ _ | refine blk_drew ?_ | refine blk_alloc ?_ _)); refine blk_far ?_ NB160_162.out _; (with_reducible repeat (first | refine blk_drewN ?_ _ | refine blk_drew ?_ | refine blk_alloc ?_ _)); exact BK160.out⟩, ⟨by (with_reducible repeat (first | refine blk_drewN ?_ _ | refine blk_drew ?_ | refine blk_alloc ?_ _)); refine blk_put (cs := #[.int .i64 ((rd_T42 l0 (ji25)).f0), .int .i64 0]) ?_ 1 _ rfl; (with_reducible repeat (first | refine blk_drewN ?_ _ | refine blk_drew ?_ | refine blk_alloc ?_ _)); refine blk_put (cs := #[.int .i64 0, .int .i64 0]) ?_ 0 _ rfl; (with_reducible repeat (first | refine blk_drewN ?_ _ | refine blk_drew ?_ | refine blk_alloc ?_ _)); exact BK162.out⟩, ⟨by repeat (first | (with_reducible first | exact HB.out | apply below_alloc | apply pw_below_drewN | apply below_drew1 | refine below_set ?_ GE154.out | refine below_set ?_ GE160.out | refine below_set ?_ GE162.out) | exact HB.out)⟩⟩
               ·rw [if_neg c39] at H
                have c39b0 : decide (a1_1 < ((rd_T42 l0 (ji25)).f1)) = false := decide_eq_false c39
                clear c39
                have H' := Aside0.mk H
                clear H; have hnb46 := NB160_154.out; have hnc46 := NB154_160.out; have hnb47 := NB160_162.out; have hnc47 := NB162_160.out
                have hcz48_0 : w32.cell? ⟨gb160, 0, none⟩ = some (.int .i64 ((rd_T42 l0 x27_2).f0)) := (blk_cell BK160.out 0).trans rfl
                have hcz48_1 : w32.cell? ⟨gb160, 1, none⟩ = some (.int .i64 ((rd_T42 l0 x27_2).f1)) := (blk_cell BK160.out 1).trans rfl
                have hfz48_0 := blk_frozen BK160.out 0
                have hfz48_1 := blk_frozen BK160.out 1
                have hnb49 := NB154_162.out; have hnc49 := NB162_154.out
                have hcz50_0 : w32.cell? ⟨gb154, 0, none⟩ = some (.int .i64 a1_0) := (blk_cell BK154.out 0).trans rfl
                have hcz50_1 : w32.cell? ⟨gb154, 1, none⟩ = some (.int .i64 a1_1) := (blk_cell BK154.out 1).trans rfl
                have hfz50_0 := blk_frozen BK154.out 0
                have hfz50_1 := blk_frozen BK154.out 1
                have hcz51_0 : w32.cell? ⟨gb162, 0, none⟩ = some (.int .i64 0) := (blk_cell BK162.out 0).trans rfl
                have hcz51_1 : w32.cell? ⟨gb162, 1, none⟩ = some (.int .i64 0) := (blk_cell BK162.out 1).trans rfl
                have hfz51_0 := blk_frozen BK162.out 0
                have hfz51_1 := blk_frozen BK162.out 1
                go_wp2
                go_meet
                case rel => exact ⟨_, (false), (by first | rfl | (simp; done) | (simp [*]; done)), H', ⟨by have := HK1.out; have := HK2.out; first | omega | exact Nat.le_refl _⟩, ⟨by (with_reducible repeat (first | refine blk_drewN ?_ _ | refine blk_drew ?_ | refine blk_alloc ?_ _)); refine blk_far ?_ NB154_162.out _; (with_reducible repeat (first | refine blk_drewN ?_ _ | refine blk_drew ?_ | refine blk_alloc ?_ _)); refine blk_far ?_ NB154_162.out _; (with_reducible repeat (first | refine blk_drewN ?_ _ | refine blk_drew ?_ | refine blk_alloc ?_ _)); exact BK154.out⟩, ⟨by (with_reducible repeat (first | refine blk_drewN ?_ _ | refine blk_drew ?_ | refine blk_alloc ?_ _)); refine blk_far ?_ NB160_162.out _; (with_reducible repeat (first | refine blk_drewN ?_ _ | refine blk_drew ?_ | refine blk_alloc ?_ _)); refine blk_far ?_ NB160_162.out _; (with_reducible repeat (first | refine blk_drewN ?_ _ | refine blk_drew ?_ | refine blk_alloc ?_ _)); exact BK160.out⟩, ⟨by (with_reducible repeat (first | refine blk_drewN ?_ _ | refine blk_drew ?_ | refine blk_alloc ?_ _)); refine blk_put (cs := #[.int .i64 ((rd_T42 l0 (ji25)).f0), .int .i64 0]) ?_ 1 _ rfl; (with_reducible repeat (first | refine blk_drewN ?_ _ | refine blk_drew ?_ | refine blk_alloc ?_ _)); refine blk_put (cs := #[.int .i64 0, .int .i64 0]) ?_ 0 _ rfl; (with_reducible repeat (first | refine blk_drewN ?_ _ | refine blk_drew ?_ | refine blk_alloc ?_ _)); exact BK162.out⟩, ⟨by repeat (first | (with_reducible first | exact HB.out | apply below_alloc | apply pw_below_drewN | apply below_drew1 | refine below_set ?_ GE154.out | refine below_set ?_ GE160.out | refine below_set ?_ GE162.out) | exact HB.out)⟩⟩
              ·rw [if_neg c38] at H
               have c38b0 : decide (((rd_T42 l0 x27_2).f1) ≤ a1_1) = false := decide_eq_false c38
               clear c38
               (first | rw [c38b0] | (simp only [i64_w, i32_w]; rw [c38b0]) | skip)
               have H' := Aside0.mk H
               clear H; have hnb52 := NB160_154.out; have hnc52 := NB154_160.out; have hnb53 := NB160_162.out; have hnc53 := NB162_160.out
               have hcz54_0 : w32.cell? ⟨gb160, 0, none⟩ = some (.int .i64 ((rd_T42 l0 x27_2).f0)) := (blk_cell BK160.out 0).trans rfl
               have hcz54_1 : w32.cell? ⟨gb160, 1, none⟩ = some (.int .i64 ((rd_T42 l0 x27_2).f1)) := (blk_cell BK160.out 1).trans rfl
               have hfz54_0 := blk_frozen BK160.out 0
               have hfz54_1 := blk_frozen BK160.out 1
               have hnb55 := NB154_162.out; have hnc55 := NB162_154.out
               have hcz56_0 : w32.cell? ⟨gb154, 0, none⟩ = some (.int .i64 a1_0) := (blk_cell BK154.out 0).trans rfl
               have hcz56_1 : w32.cell? ⟨gb154, 1, none⟩ = some (.int .i64 a1_1) := (blk_cell BK154.out 1).trans rfl
               have hfz56_0 := blk_frozen BK154.out 0
               have hfz56_1 := blk_frozen BK154.out 1
               go_wp2
               go_meet
               case rel => exact ⟨_, (false), (by first | rfl | (simp; done) | (simp [*]; done)), H', ⟨by have := HK1.out; have := HK2.out; first | omega | exact Nat.le_refl _⟩, ⟨by (with_reducible repeat (first | refine blk_drewN ?_ _ | refine blk_drew ?_ | refine blk_alloc ?_ _)); refine blk_far ?_ NB154_162.out _; (with_reducible repeat (first | refine blk_drewN ?_ _ | refine blk_drew ?_ | refine blk_alloc ?_ _)); refine blk_far ?_ NB154_162.out _; (with_reducible repeat (first | refine blk_drewN ?_ _ | refine blk_drew ?_ | refine blk_alloc ?_ _)); exact BK154.out⟩, ⟨by (with_reducible repeat (first | refine blk_drewN ?_ _ | refine blk_drew ?_ | refine blk_alloc ?_ _)); refine blk_far ?_ NB160_162.out _; (with_reducible repeat (first | refine blk_drewN ?_ _ | refine blk_drew ?_ | refine blk_alloc ?_ _)); refine blk_far ?_ NB160_162.out _; (with_reducible repeat (first | refine blk_drewN ?_ _ | refine blk_drew ?_ | refine blk_alloc ?_ _)); exact BK160.out⟩, ⟨by (with_reducible repeat (first | refine blk_drewN ?_ _ | refine blk_drew ?_ | refine blk_alloc ?_ _)); refine blk_put (cs := #[.int .i64 ((rd_T42 l0 (ji25)).f0), .int .i64 0]) ?_ 1 _ rfl; (with_reducible repeat (first | refine blk_drewN ?_ _ | refine blk_drew ?_ | refine blk_alloc ?_ _)); refine blk_put (cs := #[.int .i64 0, .int .i64 0]) ?_ 0 _ rfl; (with_reducible repeat (first | refine blk_drewN ?_ _ | refine blk_drew ?_ | refine blk_alloc ?_ _)); exact BK162.out⟩, ⟨by repeat (first | (with_reducible first | exact HB.out | apply below_alloc | apply pw_below_drewN | apply below_drew1 | refine below_set ?_ GE154.out | refine below_set ?_ GE160.out | refine below_set ?_ GE162.out) | exact HB.out)⟩⟩
             case rest =>
              clear HC28; try clear c1
              try clear p1
              try clear q1
              try clear hx1
              try clear c2
              try clear p2
              try clear c3
              try clear c4
              try clear c5
              try clear p6
              try clear c8
              try clear c8b0
              try clear c9
              try clear c9b0
              try clear c10
              try clear c10b0
              try clear c12
              try clear c13
              try clear c14
              try clear p15
              try clear q15
              try clear hx15
              try clear p16
              try clear q16
              try clear hx16
              try clear c18
              try clear c21
              try clear c21b0
              try clear c22
              try clear c22b0
              try clear c23
              try clear c23b0
              try clear c24
              try clear c24b0
              try clear c24b1
              try clear c24b2
              try clear c26
              try clear c26b0
              try clear c27
              try clear c27b0
              try clear c30
              try clear c33
              try clear c34
              try clear c38
              try clear c38b0
              try clear c39
              try clear c39b0
              try clear c40
              try clear c41
              try clear c43
              try clear c46
              try clear c47
              try clear c49
              try clear c52
              try clear c53
              try clear c55
              try clear hcz15_0
              try clear hcz15_1
              try clear hcz19_0
              try clear hcz19_1
              try clear hcz31_0
              try clear hcz31_1
              try clear hcz35_0
              try clear hcz35_1
              try clear hcz36_0
              try clear hcz36_1
              try clear hcz37_0
              try clear hcz37_1
              try clear hcz42_0
              try clear hcz42_1
              try clear hcz44_0
              try clear hcz44_1
              try clear hcz45_0
              try clear hcz45_1
              try clear hcz48_0
              try clear hcz48_1
              try clear hcz50_0
              try clear hcz50_1
              try clear hcz51_0
              try clear hcz51_1
              try clear hcz54_0
              try clear hcz54_1
              try clear hcz56_0
              try clear hcz56_1
              try clear hcz6_0
              try clear hcz6_1
              try clear hfz15_0
              try clear hfz15_1
              try clear hfz19_0
              try clear hfz19_1
              try clear hfz31_0
              try clear hfz31_1
              try clear hfz35_0
              try clear hfz35_1
              try clear hfz36_0
              try clear hfz36_1
              try clear hfz37_0
              try clear hfz37_1
              try clear hfz42_0
              try clear hfz42_1
              try clear hfz44_0
              try clear hfz44_1
              try clear hfz45_0
              try clear hfz45_1
              try clear hfz48_0
              try clear hfz48_1
              try clear hfz50_0
              try clear hfz50_1
              try clear hfz51_0
              try clear hfz51_1
              try clear hfz54_0
              try clear hfz54_1
              try clear hfz56_0
              try clear hfz56_1
              try clear hfz6_0
              try clear hfz6_1
              try clear hx156_0
              try clear hx156_1
              try clear hx159_0
              try clear hx159_1
              try clear hx161_0
              try clear hx161_1
              try clear p1
              try clear p15
              try clear p156
              try clear p159
              try clear p161
              try clear p2
              try clear p6
              try clear q1
              try clear q15
              try clear q156
              try clear q159
              try clear q161
              obtain ⟨kq, x63_27, rfl, HA, HJ27, BK154, BK160, BK162, HB⟩ := hcut
              cases kq with
              | zero => exact absurd HA.out (by simp [impl_WindOf.j2])
              | succ kj27 =>
               have H := HA.out; clear HA
               simp only [impl_WindOf.j2] at H
               by_cases c57 : x63_27 = true
               ·subst c57
                have H1 : (impl_WindOf.l1 kj27 l0 (wrap64 (x7_2 + 1)) l0 (l0.length : Int) (wrap64 (x27_2 + 1)) a1_0 a1_1) = some r := by rw [if_pos rfl] at H; exact H
                clear H; have H := H1; clear H1
                have H' := Aside0.mk H
                clear H
                go_wp2
                go_roundg kj27
                case measure => have := HK1.out; have := HK2.out; have := HJ27.out; omega
                case rel => exact ⟨(wrap64 (x7_2 + 1)), (wrap64 (x27_2 + 1)), (by first | rfl | (simp; done) | (simp [*]; done)), (by first | rfl | (simp; done) | (simp [*]; done)), H', ⟨by have := HK1.out; have := HK2.out; have := HJ27.out; omega⟩, ⟨by (with_reducible repeat (first | refine blk_drewN ?_ _ | refine blk_drew ?_ | refine blk_alloc ?_ _)); exact BK154.out⟩, ⟨by repeat (first | (with_reducible first | exact HB.out | apply below_alloc | apply pw_below_drewN | apply below_drew1 | refine below_set ?_ GE154.out | refine below_set ?_ GE160.out | refine below_set ?_ GE162.out) | exact HB.out)⟩⟩
               ·replace c57 := Bool.eq_false_iff.mpr c57
                subst c57
                have H1 : (if ((rd_T42 l0 (ji25)).f1) ≤ a1_1 then (if a1_1 < ((rd_T42 l0 x27_2).f1) then (if (wrap64 ((wrap64 ((wrap64 (((rd_T42 l0 (ji25)).f0) - ((rd_T42 l0 x27_2).f0))) * (wrap64 (a1_1 - ((rd_T42 l0 x27_2).f1))))) - (wrap64 ((wrap64 (a1_0 - ((rd_T42 l0 x27_2).f0))) * (wrap64 (((rd_T42 l0 (ji25)).f1) - ((rd_T42 l0 x27_2).f1))))))) < 0 then (impl_WindOf.l1 kj27 l0 (wrap64 (x7_2 - 1)) l0 (l0.length : Int) (wrap64 (x27_2 + 1)) a1_0 a1_1) else (impl_WindOf.l1 kj27 l0 x7_2 l0 (l0.length : Int) (wrap64 (x27_2 + 1)) a1_0 a1_1)) else (impl_WindOf.l1 kj27 l0 x7_2 l0 (l0.length : Int) (wrap64 (x27_2 + 1)) a1_0 a1_1)) else (impl_WindOf.l1 kj27 l0 x7_2 l0 (l0.length : Int) (wrap64 (x27_2 + 1)) a1_0 a1_1)) = some r := by rw [if_neg (show ¬ (false = true) by decide)] at H; exact H
                clear H; have H := H1; clear H1
                by_cases c58 : ((rd_T42 l0 (ji25)).f1) ≤ a1_1
                ·rw [if_pos c58] at H
                 have c58b0 : decide (((rd_T42 l0 (ji25)).f1) ≤ a1_1) = true := decide_eq_true c58
                 clear c58
                 by_cases c59 : a1_1 < ((rd_T42 l0 x27_2).f1)
                 ·rw [if_pos c59] at H
                  have c59b0 : decide (a1_1 < ((rd_T42 l0 x27_2).f1)) = true := decide_eq_true c59
                  clear c59
                  by_cases c60 : (wrap64 ((wrap64 ((wrap64 (((rd_T42 l0 (ji25)).f0) - ((rd_T42 l0 x27_2).f0))) * (wrap64 (a1_1 - ((rd_T42 l0 x27_2).f1))))) - (wrap64 ((wrap64 (a1_0 - ((rd_T42 l0 x27_2).f0))) * (wrap64 (((rd_T42 l0 (ji25)).f1) - ((rd_T42 l0 x27_2).f1))))))) < 0
                  ·rw [if_pos c60] at H
                   have c60b0 : decide ((wrap64 ((wrap64 ((wrap64 (((rd_T42 l0 (ji25)).f0) - ((rd_T42 l0 x27_2).f0))) * (wrap64 (a1_1 - ((rd_T42 l0 x27_2).f1))))) - (wrap64 ((wrap64 (a1_0 - ((rd_T42 l0 x27_2).f0))) * (wrap64 (((rd_T42 l0 (ji25)).f1) - ((rd_T42 l0 x27_2).f1))))))) < 0) = true := decide_eq_true c60
                   clear c60
                   have H' := Aside0.mk H
                   clear H; have hnb61 := NB162_154.out; have hnc61 := NB154_162.out; have hnb62 := NB162_160.out; have hnc62 := NB160_162.out
                   have hcz63_0 : wc.cell? ⟨gb162, 0, none⟩ = some (.int .i64 ((rd_T42 l0 (ji25)).f0)) := (blk_cell BK162.out 0).trans rfl
                   have hcz63_1 : wc.cell? ⟨gb162, 1, none⟩ = some (.int .i64 ((rd_T42 l0 (ji25)).f1)) := (blk_cell BK162.out 1).trans rfl
                   have hfz63_0 := blk_frozen BK162.out 0
                   have hfz63_1 := blk_frozen BK162.out 1
                   have hnb64 := NB154_160.out; have hnc64 := NB160_154.out
                   have hcz65_0 : wc.cell? ⟨gb154, 0, none⟩ = some (.int .i64 a1_0) := (blk_cell BK154.out 0).trans rfl
                   have hcz65_1 : wc.cell? ⟨gb154, 1, none⟩ = some (.int .i64 a1_1) := (blk_cell BK154.out 1).trans rfl
                   have hfz65_0 := blk_frozen BK154.out 0
                   have hfz65_1 := blk_frozen BK154.out 1
                   have hcz66_0 : wc.cell? ⟨gb160, 0, none⟩ = some (.int .i64 ((rd_T42 l0 x27_2).f0)) := (blk_cell BK160.out 0).trans rfl
                   have hcz66_1 : wc.cell? ⟨gb160, 1, none⟩ = some (.int .i64 ((rd_T42 l0 x27_2).f1)) := (blk_cell BK160.out 1).trans rfl
                   have hfz66_0 := blk_frozen BK160.out 0
                   have hfz66_1 := blk_frozen BK160.out 1
                   go_wp2
                   go_roundg kj27
                   case measure => have := HK1.out; have := HK2.out; have := HJ27.out; omega
                   case rel => exact ⟨(wrap64 (x7_2 - 1)), (wrap64 (x27_2 + 1)), (by first | rfl | (simp; done) | (simp [*]; done)), (by first | rfl | (simp; done) | (simp [*]; done)), H', ⟨by have := HK1.out; have := HK2.out; have := HJ27.out; omega⟩, ⟨by (with_reducible repeat (first | refine blk_drewN ?_ _ | refine blk_drew ?_ | refine blk_alloc ?_ _)); exact BK154.out⟩, ⟨by repeat (first | (with_reducible first | exact HB.out | apply below_alloc | apply pw_below_drewN | apply below_drew1 | refine below_set ?_ GE154.out | refine below_set ?_ GE160.out | refine below_set ?_ GE162.out) | exact HB.out)⟩⟩
                  ·rw [if_neg c60] at H
                   have c60b0 : decide ((wrap64 ((wrap64 ((wrap64 (((rd_T42 l0 (ji25)).f0) - ((rd_T42 l0 x27_2).f0))) * (wrap64 (a1_1 - ((rd_T42 l0 x27_2).f1))))) - (wrap64 ((wrap64 (a1_0 - ((rd_T42 l0 x27_2).f0))) * (wrap64 (((rd_T42 l0 (ji25)).f1) - ((rd_T42 l0 x27_2).f1))))))) < 0) = false := decide_eq_false c60
                   clear c60
                   have H' := Aside0.mk H
                   clear H; have hnb67 := NB162_154.out; have hnc67 := NB154_162.out; have hnb68 := NB162_160.out; have hnc68 := NB160_162.out
                   have hcz69_0 : wc.cell? ⟨gb162, 0, none⟩ = some (.int .i64 ((rd_T42 l0 (ji25)).f0)) := (blk_cell BK162.out 0).trans rfl
                   have hcz69_1 : wc.cell? ⟨gb162, 1, none⟩ = some (.int .i64 ((rd_T42 l0 (ji25)).f1)) := (blk_cell BK162.out 1).trans rfl
                   have hfz69_0 := blk_frozen BK162.out 0
                   have hfz69_1 := blk_frozen BK162.out 1
                   have hnb70 := NB154_160.out; have hnc70 := NB160_154.out
                   have hcz71_0 : wc.cell? ⟨gb154, 0, none⟩ = some (.int .i64 a1_0) := (blk_cell BK154.out 0).trans rfl
                   have hcz71_1 : wc.cell? ⟨gb154, 1, none⟩ = some (.int .i64 a1_1) := (blk_cell BK154.out 1).trans rfl
                   have hfz71_0 := blk_frozen BK154.out 0
                   have hfz71_1 := blk_frozen BK154.out 1
                   have hcz72_0 : wc.cell? ⟨gb160, 0, none⟩ = some (.int .i64 ((rd_T42 l0 x27_2).f0)) := (blk_cell BK160.out 0).trans rfl
                   have hcz72_1 : wc.cell? ⟨gb160, 1, none⟩ = some (.int .i64 ((rd_T42 l0 x27_2).f1)) := (blk_cell BK160.out 1).trans rfl
                   have hfz72_0 := blk_frozen BK160.out 0
                   have hfz72_1 := blk_frozen BK160.out 1
                   go_wp2
                   go_roundg kj27
                   case measure => have := HK1.out; have := HK2.out; have := HJ27.out; omega
                   case rel => exact ⟨(x7_2), (wrap64 (x27_2 + 1)), (by first | rfl | (simp; done) | (simp [*]; done)), (by first | rfl | (simp; done) | (simp [*]; done)), H', ⟨by have := HK1.out; have := HK2.out; have := HJ27.out; omega⟩, ⟨by (with_reducible repeat (first | refine blk_drewN ?_ _ | refine blk_drew ?_ | refine blk_alloc ?_ _)); exact BK154.out⟩, ⟨by repeat (first | (with_reducible first | exact HB.out | apply below_alloc | apply pw_below_drewN | apply below_drew1 | refine below_set ?_ GE154.out | refine below_set ?_ GE160.out | refine below_set ?_ GE162.out) | exact HB.out)⟩⟩
                 ·rw [if_neg c59] at H
                  have c59b0 : decide (a1_1 < ((rd_T42 l0 x27_2).f1)) = false := decide_eq_false c59
                  clear c59
                  have H' := Aside0.mk H
                  clear H; have hnb73 := NB162_154.out; have hnc73 := NB154_162.out; have hnb74 := NB162_160.out; have hnc74 := NB160_162.out
                  have hcz75_0 : wc.cell? ⟨gb162, 0, none⟩ = some (.int .i64 ((rd_T42 l0 (ji25)).f0)) := (blk_cell BK162.out 0).trans rfl
                  have hcz75_1 : wc.cell? ⟨gb162, 1, none⟩ = some (.int .i64 ((rd_T42 l0 (ji25)).f1)) := (blk_cell BK162.out 1).trans rfl
                  have hfz75_0 := blk_frozen BK162.out 0
                  have hfz75_1 := blk_frozen BK162.out 1
                  have hnb76 := NB154_160.out; have hnc76 := NB160_154.out
                  have hcz77_0 : wc.cell? ⟨gb154, 0, none⟩ = some (.int .i64 a1_0) := (blk_cell BK154.out 0).trans rfl
                  have hcz77_1 : wc.cell? ⟨gb154, 1, none⟩ = some (.int .i64 a1_1) := (blk_cell BK154.out 1).trans rfl
                  have hfz77_0 := blk_frozen BK154.out 0
                  have hfz77_1 := blk_frozen BK154.out 1
                  have hcz78_0 : wc.cell? ⟨gb160, 0, none⟩ = some (.int .i64 ((rd_T42 l0 x27_2).f0)) := (blk_cell BK160.out 0).trans rfl
                  have hcz78_1 : wc.cell? ⟨gb160, 1, none⟩ = some (.int .i64 ((rd_T42 l0 x27_2).f1)) := (blk_cell BK160.out 1).trans rfl
                  have hfz78_0 := blk_frozen BK160.out 0
                  have hfz78_1 := blk_frozen BK160.out 1
                  go_wp2
                  go_roundg kj27
                  case measure => have := HK1.out; have := HK2.out; have := HJ27.out; omega
                  case rel => exact ⟨(x7_2), (wrap64 (x27_2 + 1)), (by first | rfl | (simp; done) | (simp [*]; done)), (by first | rfl | (simp; done) | (simp [*]; done)), H', ⟨by have := HK1.out; have := HK2.out; have := HJ27.out; omega⟩, ⟨by (with_reducible repeat (first | refine blk_drewN ?_ _ | refine blk_drew ?_ | refine blk_alloc ?_ _)); exact BK154.out⟩, ⟨by repeat (first | (with_reducible first | exact HB.out | apply below_alloc | apply pw_below_drewN | apply below_drew1 | refine below_set ?_ GE154.out | refine below_set ?_ GE160.out | refine below_set ?_ GE162.out) | exact HB.out)⟩⟩
                ·rw [if_neg c58] at H
                 have c58b0 : decide (((rd_T42 l0 (ji25)).f1) ≤ a1_1) = false := decide_eq_false c58
                 clear c58
                 have H' := Aside0.mk H
                 clear H; have hnb79 := NB162_154.out; have hnc79 := NB154_162.out; have hnb80 := NB162_160.out; have hnc80 := NB160_162.out
                 have hcz81_0 : wc.cell? ⟨gb162, 0, none⟩ = some (.int .i64 ((rd_T42 l0 (ji25)).f0)) := (blk_cell BK162.out 0).trans rfl
                 have hcz81_1 : wc.cell? ⟨gb162, 1, none⟩ = some (.int .i64 ((rd_T42 l0 (ji25)).f1)) := (blk_cell BK162.out 1).trans rfl
                 have hfz81_0 := blk_frozen BK162.out 0
                 have hfz81_1 := blk_frozen BK162.out 1
                 have hnb82 := NB154_160.out; have hnc82 := NB160_154.out
                 have hcz83_0 : wc.cell? ⟨gb154, 0, none⟩ = some (.int .i64 a1_0) := (blk_cell BK154.out 0).trans rfl
                 have hcz83_1 : wc.cell? ⟨gb154, 1, none⟩ = some (.int .i64 a1_1) := (blk_cell BK154.out 1).trans rfl
                 have hfz83_0 := blk_frozen BK154.out 0
                 have hfz83_1 := blk_frozen BK154.out 1
                 go_wp2
                 go_roundg kj27
                 case measure => have := HK1.out; have := HK2.out; have := HJ27.out; omega
                 case rel => exact ⟨(x7_2), (wrap64 (x27_2 + 1)), (by first | rfl | (simp; done) | (simp [*]; done)), (by first | rfl | (simp; done) | (simp [*]; done)), H', ⟨by have := HK1.out; have := HK2.out; have := HJ27.out; omega⟩, ⟨by (with_reducible repeat (first | refine blk_drewN ?_ _ | refine blk_drew ?_ | refine blk_alloc ?_ _)); exact BK154.out⟩, ⟨by repeat (first | (with_reducible first | exact HB.out | apply below_alloc | apply pw_below_drewN | apply below_drew1 | refine below_set ?_ GE154.out | refine below_set ?_ GE160.out | refine below_set ?_ GE162.out) | exact HB.out)⟩⟩
            ·rw [if_neg c27] at H
             exact absurd H (by simp)
           ·rw [if_neg c26] at H
            exact absurd H (by simp)
         ·rw [if_neg c23] at H
          exact absurd H (by simp)
        ·rw [if_neg c22] at H
         exact absurd H (by simp)
       ·rw [if_neg c21] at H
        have c21b0 : decide (x27_2 < (l0.length : Int)) = false := decide_eq_false c21
        clear c21
        obtain rfl := Option.some.inj H
        simp only [Option.some.injEq, Prod.mk.injEq] at H
        obtain ⟨rfl⟩ := H
        go_wp2
        go_ret
        exact ⟨z5_6, z5_0⟩
 ·replace c4 := Bool.eq_false_iff.mpr c4
  subst c4
  have H1 : (some 0) = some r := by rw [if_neg (show ¬ (false = true) by decide)] at H; exact H
  clear H; have H := H1; clear H1
  obtain rfl := Option.some.inj H
  simp only [Option.some.injEq, Prod.mk.injEq] at H
  obtain ⟨rfl⟩ := H
  go_enter Try.func81, Try.ntmps81
  go_wp2_with (first | ((with_reducible refine gate_dst (N := 3) rfl ?_); refine boxz (cs := #[.int .i64 a1_0, .int .i64 a1_1]) (t := 42) rfl ?_; intro gb154 hg w84 hbox hb; have n0_ := Aside0.mk (below_step z5_1 hb); have n1_ := Aside0.mk (hbox); have n2_ := Aside0.mk ((by rw [hg]; exact (below_size z5_1) : w.heap.size ≤ gb154)); have n3_ := Aside0.mk ((by rw [hg]; exact (below_size z5_1) : w.heap.size ≤ gb154)); clear HB; have HB := n0_; have BK154 := n1_; have GW154 := n2_; have GE154 := n3_; clear n0_ n1_ n2_ n3_; clear hb hbox hg; have hcz85_0 : w84.cell? ⟨gb154, 0, none⟩ = some (.int .i64 a1_0) := (blk_cell BK154.out 0).trans rfl; have hcz85_1 : w84.cell? ⟨gb154, 1, none⟩ = some (.int .i64 a1_1) := (blk_cell BK154.out 1).trans rfl; have hfz85_0 := blk_frozen BK154.out 0; have hfz85_1 := blk_frozen BK154.out 1) | ((with_reducible refine gate_callee (f := 135) rfl ?_); refine goesL_ (some 13) rfl rfl Try.func135 (by kernel_rfl) rfl #[.agg #[.int .i64 a1_0, .int .i64 a1_1]] rfl z5_3 ?_; (with_reducible refine (impl_isNear.calls a1_0 a1_1 false _ A3.out).mono ?_); rintro e w86 ⟨rfl, hb⟩; refine ⟨_, rfl, ?_⟩; have n0_ := Aside0.mk (blk_belowB BK154 z5_2 hb); have n1_ := Aside0.mk (below_step z5_0 hb); clear BK154; clear HB; have BK154 := n0_; have HB := n1_; clear n0_ n1_; (try clear hb)))
  go_ret
  exact ⟨z5_6, z5_0⟩

/-! ### impl_Covers: function 28 -/
def impl_Covers.l0 : Nat → Bool → Int → List (List (S42)) → Int → Int → Int → Int → Option (Bool)
 | 0, _, _, _, _, _, _, _ => none
 | k + 1, x1, x7, x10, x11, x12, x164000, x164001 => if x12 < x11 then (if 0 ≤ x12 then (if x12 < (x10.length : Int) then ((impl_WindOf.f k (rd_L4 x10 x12) x164000 x164001).bind fun t165 => (impl_Covers.l0 k x1 (wrap64 (x7 + t165)) x10 x11 (wrap64 (x12 + 1)) x164000 x164001)) else (none)) else (none)) else (if x1 = true then (some ((Int.tmod x7 2) != 0)) else (some (x7 != 0)))
def impl_Covers.f (k : Nat) (l0 : List (List (S42))) (a1 : Bool) (a2_0 : Int) (a2_1 : Int) : Option (Bool) := impl_Covers.l0 k a1 0 l0 (l0.length : Int) 0 a2_0 a2_1
theorem impl_Covers.mono_l : ∀ k, (∀ y0 y1 y2 y3 y4 y5 y6, LeO (impl_Covers.l0 k y0 y1 y2 y3 y4 y5 y6) (impl_Covers.l0 (k + 1) y0 y1 y2 y3 y4 y5 y6))
 | 0 => fun _ _ _ _ _ _ _ r h => by simp [impl_Covers.l0] at h
 | k + 1 => by
  have ih0 := impl_Covers.mono_l k
  ·intro y0 y1 y2 y3 y4 y5 y6
   unfold impl_Covers.l0
   repeat' first
   | (with_reducible exact ih0 _ _ _ _ _ _ _)
   | (with_reducible exact impl_WindOf.mono _ _ _ _)
   | (with_reducible exact LeO.refl _)
   | (with_reducible exact LeO.none _)
   | (with_reducible refine LeO.ite ?_ ?_)
   | (with_reducible refine LeO.bind ?_ (fun _ => ?_))
   | exact ih0 _ _ _ _ _ _ _
   | exact impl_WindOf.mono _ _ _ _
   | exact LeO.none _
   | refine LeO.ite ?_ ?_
   | refine LeO.bind ?_ (fun _ => ?_)
theorem impl_Covers.mono : ∀ a0 a1 a2 a3 k, LeO (impl_Covers.f k a0 a1 a2 a3) (impl_Covers.f (k + 1) a0 a1 a2 a3) := by
 intro a0 a1 a2 a3 k
 have ih0 := impl_Covers.mono_l k
 unfold impl_Covers.f
 repeat' first
   | (with_reducible exact ih0 _ _ _ _ _ _ _)
   | (with_reducible exact impl_WindOf.mono _ _ _ _)
   | (with_reducible exact LeO.refl _)
   | (with_reducible exact LeO.none _)
   | (with_reducible refine LeO.ite ?_ ?_)
   | (with_reducible refine LeO.bind ?_ (fun _ => ?_))
   | exact ih0 _ _ _ _ _ _ _
   | exact impl_WindOf.mono _ _ _ _
   | exact LeO.none _
   | refine LeO.ite ?_ ?_
   | refine LeO.bind ?_ (fun _ => ?_)
set_option maxHeartbeats 8000000 in
set_option maxRecDepth 100000 in
theorem impl_Covers.calls (k : Nat) (A0 : Option Addr) (c0 : Nat) (l0 : List (List (S42))) (a1 : Bool) (a2_0 : Int) (a2_1 : Int) (r : Bool) (w : World) (hr0 : Kd.C (Kd.slice 42 k42) w A0 l0.length l0) (hc0 : l0.length ≤ c0) (h : impl_Covers.f k l0 a1 a2_0 a2_1 = some r) :
  Calls Try.prog 28 #[.slice A0 l0.length c0, .bool a1, .agg #[.int .i64 a2_0, .int .i64 a2_1]] w fun e w' => e = .returned (.bool r) ∧ Below w.heap.size w w' := by
 have hu42 := Try.underlying42
 have HR0 := Aside0.mk hr0
 have HC0 := Aside0.mk hc0
 clear hr0 hc0
 have HB := Aside0.mk (Below.refl w.heap.size w)
 have H : (impl_Covers.l0 k a1 0 l0 (l0.length : Int) 0 a2_0 a2_1) = some r := h
 clear h
 have H' := Aside0.mk H
 clear H
 go_enter Try.func28, Try.ntmps28
 go_wp2_with (first | ((with_reducible refine gate_dst (N := 5) rfl ?_); refine boxz (cs := #[.int .i64 a2_0, .int .i64 a2_1]) (t := 42) rfl ?_; intro gb163 hg w4 hbox hb; have n0_ := Aside0.mk (below_step z5_1 hb); have n1_ := Aside0.mk (hbox); have n2_ := Aside0.mk ((by rw [hg]; exact (below_size z5_1) : w.heap.size ≤ gb163)); have n3_ := Aside0.mk ((by rw [hg]; exact (below_size z5_1) : w.heap.size ≤ gb163)); clear HB; have HB := n0_; have BK163 := n1_; have GW163 := n2_; have GE163 := n3_; clear n0_ n1_ n2_ n3_; clear hb hbox hg))
 go_loopg [7, 12] k (fun kq v7 v12 w' => ∃ (x7_1 : Int) (x12_1 : Int), v7 = .int .i64 x7_1 ∧ v12 = .int .i64 x12_1 ∧ Aside0 (impl_Covers.l0 kq a1 x7_1 l0 (l0.length : Int) x12_1 a2_0 a2_1 = some r) ∧ Aside0 (kq ≤ k) ∧ Aside0 (w'.heap[gb163]? = some (.cells #[.int .i64 a2_0, .int .i64 a2_1] 42 (0, 0))) ∧ Aside0 (Below w.heap.size w w'))
 case atStart => exact ⟨(0), (0), (by first | rfl | (simp; done) | (simp [*]; done)), (by first | rfl | (simp; done) | (simp [*]; done)), H', ⟨Nat.le_refl _⟩, ⟨by (with_reducible repeat (first | refine blk_drewN ?_ _ | refine blk_drew ?_ | refine blk_alloc ?_ _)); exact BK163.out⟩, ⟨by repeat (first | (with_reducible first | exact HB.out | apply below_alloc | apply pw_below_drewN | apply below_drew1 | refine below_set ?_ GE163.out) | exact HB.out)⟩⟩
 case round =>
  clear H'
  try clear c2
  try clear p2
  obtain ⟨x7_1, x12_1, rfl, rfl, HA, HK1, BK163, HB⟩ := hrel
  cases gk with
  | zero => exact absurd HA.out (by simp [impl_Covers.l0])
  | succ k1 =>
   have H := HA.out; clear HA
   simp only [impl_Covers.l0] at H
   by_cases c5 : x12_1 < (l0.length : Int)
   ·rw [if_pos c5] at H
    have c5b0 : decide (x12_1 < (l0.length : Int)) = true := decide_eq_true c5
    clear c5
    by_cases c6 : 0 ≤ x12_1
    ·rw [if_pos c6] at H
     have c6b0 : decide (0 ≤ x12_1) = true := decide_eq_true c6
     clear c6
     by_cases c7 : x12_1 < (l0.length : Int)
     ·rw [if_pos c7] at H
      have c7b0 : decide (x12_1 < (l0.length : Int)) = true := decide_eq_true c7
      clear c7
      replace H := Option.bind_eq_some_iff.mp H
      obtain ⟨t165, A80, H⟩ := H
      try dsimp only at H
      have A8 := Aside0.mk A80
      clear A80
      have H' := Aside0.mk H
      clear H
      have p164 : 0 ≤ (x12_1 : Int) := of_decide_eq_true (by first | (with_reducible assumption) | assumption)
      have q164 : x12_1 < (l0.length : Int) := of_decide_eq_true (by first | (with_reducible assumption) | assumption)
      obtain ⟨ad164, A164_0, c164_0, e164, hx164_0, hl164_0, hi164_0⟩ := at_L4 HR0.out x12_1 p164 q164
      cases e164
      replace hx164_0 := cell_go HB hx164_0
      have HR164_0 := Aside0.mk hi164_0
      have HC164_0 := Aside0.mk hl164_0
      clear hi164_0 hl164_0
      replace p164 := eq_true p164
      replace q164 := eq_true q164
      have hcz9_0 : wr.cell? ⟨gb163, 0, none⟩ = some (.int .i64 a2_0) := (blk_cell BK163.out 0).trans rfl
      have hcz9_1 : wr.cell? ⟨gb163, 1, none⟩ = some (.int .i64 a2_1) := (blk_cell BK163.out 1).trans rfl
      have hfz9_0 := blk_frozen BK163.out 0
      have hfz9_1 := blk_frozen BK163.out 1
      go_wp2_with (first | ((with_reducible refine gate_callee (f := 81) rfl ?_); refine goesL_ (some 19) rfl rfl Try.func81 (by kernel_rfl) rfl #[.slice A164_0 (rd_L4 l0 x12_1).length c164_0, .agg #[.int .i64 a2_0, .int .i64 a2_1]] rfl z5_3 ?_; (with_reducible refine (impl_WindOf.calls k1 _ _ (rd_L4 l0 x12_1) a2_0 a2_1 t165 _ ?side1 ?side2 A8.out).mono ?_); (case side1 => repeat (first | exact (Kd.C_below HR164_0.out HB.out) | (with_reducible refine Kd.C_alloc ?_ _) | (with_reducible refine Kd.C_drewN ?_ _) | (with_reducible refine Kd.C_drew ?_))); (case side2 => exact HC164_0.out); rintro e w10 ⟨rfl, hb⟩; refine ⟨_, rfl, ?_⟩; have n0_ := Aside0.mk (blk_belowB BK163 (by (with_reducible repeat (first | refine blk_drewN ?_ _ | refine blk_drew ?_ | refine blk_alloc ?_ _)); exact BK163.out) hb); have n1_ := Aside0.mk (below_step z5_10 hb); clear BK163; clear HB; have BK163 := n0_; have HB := n1_; clear n0_ n1_; (try clear hb)))
      go_roundg k1
      case measure => have := HK1.out; omega
      case rel => exact ⟨(wrap64 (x7_1 + t165)), (wrap64 (x12_1 + 1)), (by first | rfl | (simp; done) | (simp [*]; done)), (by first | rfl | (simp; done) | (simp [*]; done)), H', ⟨by have := HK1.out; omega⟩, ⟨by (with_reducible repeat (first | refine blk_drewN ?_ _ | refine blk_drew ?_ | refine blk_alloc ?_ _)); exact BK163.out⟩, ⟨by repeat (first | (with_reducible first | exact HB.out | apply below_alloc | apply pw_below_drewN | apply below_drew1 | refine below_set ?_ GE163.out) | exact HB.out)⟩⟩
     ·rw [if_neg c7] at H
      exact absurd H (by simp)
    ·rw [if_neg c6] at H
     exact absurd H (by simp)
   ·rw [if_neg c5] at H
    have c5b0 : decide (x12_1 < (l0.length : Int)) = false := decide_eq_false c5
    clear c5
    by_cases c11 : a1 = true
    ·subst c11
     have H1 : (some ((Int.tmod x7_1 2) != 0)) = some r := by rw [if_pos rfl] at H; exact H
     clear H; have H := H1; clear H1
     obtain rfl := Option.some.inj H
     simp only [Option.some.injEq, Prod.mk.injEq] at H
     obtain ⟨rfl⟩ := H
     go_wp2
     go_ret
     exact ⟨z5_6, z5_10⟩
    ·replace c11 := Bool.eq_false_iff.mpr c11
     subst c11
     have H1 : (some (x7_1 != 0)) = some r := by rw [if_neg (show ¬ (false = true) by decide)] at H; exact H
     clear H; have H := H1; clear H1
     obtain rfl := Option.some.inj H
     simp only [Option.some.injEq, Prod.mk.injEq] at H
     obtain ⟨rfl⟩ := H
     go_wp2
     go_ret
     exact ⟨z5_6, z5_10⟩

/-! ### impl_isSquare: function 107 -/
def impl_isSquare.f (a0 : Int) (a1 : Int) : Option (Bool) := (impl_inRange.f a0 (-2000) 2000).bind fun t166 => (if t166 = true then ((impl_inRange.f a1 (-2000) 2000).bind fun t167 => (some t167)) else (some false))
set_option maxHeartbeats 8000000 in
set_option maxRecDepth 100000 in
theorem impl_isSquare.calls (a0 : Int) (a1 : Int) (r : Bool) (w : World) (h : impl_isSquare.f a0 a1 = some r) :
  Calls Try.prog 107 #[.int .i64 a0, .int .i64 a1] w fun e w' => e = .returned (.bool r) ∧ Drawn0 w w' := by
 have H : ((impl_inRange.f a0 (-2000) 2000).bind fun t166 => (if t166 = true then ((impl_inRange.f a1 (-2000) 2000).bind fun t167 => (some t167)) else (some false))) = some r := h
 clear h
 replace H := Option.bind_eq_some_iff.mp H
 obtain ⟨t166, A30, H⟩ := H
 try dsimp only at H
 have A3 := Aside0.mk A30
 clear A30
 by_cases c4 : t166 = true
 ·subst c4
  have H1 : ((impl_inRange.f a1 (-2000) 2000).bind fun t167 => (some t167)) = some r := by rw [if_pos rfl] at H; exact H
  clear H; have H := H1; clear H1
  replace H := Option.bind_eq_some_iff.mp H
  obtain ⟨t167, A50, H⟩ := H
  try dsimp only at H
  have A5 := Aside0.mk A50
  clear A50
  obtain rfl := Option.some.inj H
  simp only [Option.some.injEq, Prod.mk.injEq] at H
  obtain ⟨rfl⟩ := H
  go_enter Try.func107, Try.ntmps107
  go_wp2_with (first | ((with_reducible refine gate_callee (f := 71) rfl ?_); refine goesL_ (some 6) rfl rfl Try.func71 (by kernel_rfl) rfl #[.int .i64 a0, .int .i64 (-2000), .int .i64 2000] rfl z5_3 ?_; (with_reducible refine (impl_inRange.calls a0 (-2000) 2000 true _ A3.out).mono ?_); rintro e w' ⟨rfl, ⟨nd, rfl⟩⟩; refine ⟨_, rfl, ?_⟩) | (go_at_call 71; (with_reducible refine (impl_inRange.calls a1 (-2000) 2000 t167 _ A5.out).mono ?_); rintro e w' ⟨rfl, ⟨nd, rfl⟩⟩))
  go_ret
  exact ⟨(by first | rfl | (simp; done) | (simp [*]; done)), (by repeat (first | exact Drawn0.refl _ | apply Drawn0.step))⟩
 ·replace c4 := Bool.eq_false_iff.mpr c4
  subst c4
  have H1 : (some false) = some r := by rw [if_neg (show ¬ (false = true) by decide)] at H; exact H
  clear H; have H := H1; clear H1
  obtain rfl := Option.some.inj H
  simp only [Option.some.injEq, Prod.mk.injEq] at H
  obtain ⟨rfl⟩ := H
  go_enter Try.func107, Try.ntmps107
  go_wp2_with (first | ((with_reducible refine gate_callee (f := 71) rfl ?_); refine goesL_ (some 6) rfl rfl Try.func71 (by kernel_rfl) rfl #[.int .i64 a0, .int .i64 (-2000), .int .i64 2000] rfl z5_3 ?_; (with_reducible refine (impl_inRange.calls a0 (-2000) 2000 false _ A3.out).mono ?_); rintro e w' ⟨rfl, ⟨nd, rfl⟩⟩; refine ⟨_, rfl, ?_⟩))
  go_ret
  exact ⟨(by first | rfl | (simp; done) | (simp [*]; done)), (by repeat (first | exact Drawn0.refl _ | apply Drawn0.step))⟩

/-! ### impl_pointsOf: function 108 -/
def impl_pointsOf.f (a0 : Int) (a1 : Int) : Option (Int × Int × Int × Int × Int × Int × Int × Int) := some (wrap64 ((wrap64 (256 * a0)) + 64), wrap64 ((wrap64 (256 * a1)) + 64), wrap64 ((wrap64 ((wrap64 (256 * a0)) + 64)) + 128), wrap64 ((wrap64 (256 * a1)) + 64), wrap64 ((wrap64 (256 * a0)) + 64), wrap64 ((wrap64 ((wrap64 (256 * a1)) + 64)) + 128), wrap64 ((wrap64 ((wrap64 (256 * a0)) + 64)) + 128), wrap64 ((wrap64 ((wrap64 (256 * a1)) + 64)) + 128))
set_option maxHeartbeats 8000000 in
set_option maxRecDepth 100000 in
theorem impl_pointsOf.calls (a0 : Int) (a1 : Int) (r1 : Int) (r2 : Int) (r3 : Int) (r4 : Int) (r5 : Int) (r6 : Int) (r7 : Int) (r8 : Int) (w : World) (h : impl_pointsOf.f a0 a1 = some (r1, r2, r3, r4, r5, r6, r7, r8)) :
  Calls Try.prog 108 #[.int .i64 a0, .int .i64 a1] w fun e w' => e = .returned (.agg #[.int .i64 r1, .int .i64 r2, .int .i64 r3, .int .i64 r4, .int .i64 r5, .int .i64 r6, .int .i64 r7, .int .i64 r8]) ∧ Below w.heap.size w w' := by
 have hu123 := Try.underlying123
 have hu42 := Try.underlying42
 have HB := Aside0.mk (Below.refl w.heap.size w)
 have H : (some (wrap64 ((wrap64 (256 * a0)) + 64), wrap64 ((wrap64 (256 * a1)) + 64), wrap64 ((wrap64 ((wrap64 (256 * a0)) + 64)) + 128), wrap64 ((wrap64 (256 * a1)) + 64), wrap64 ((wrap64 (256 * a0)) + 64), wrap64 ((wrap64 ((wrap64 (256 * a1)) + 64)) + 128), wrap64 ((wrap64 ((wrap64 (256 * a0)) + 64)) + 128), wrap64 ((wrap64 ((wrap64 (256 * a1)) + 64)) + 128))) = some (r1, r2, r3, r4, r5, r6, r7, r8) := h
 clear h
 simp only [Option.some.injEq, Prod.mk.injEq] at H
 obtain ⟨rfl, rfl, rfl, rfl, rfl, rfl, rfl, rfl⟩ := H
 go_enter Try.func108, Try.ntmps108
 go_wp2_with (first | ((with_reducible refine gate_dst (N := 4) rfl ?_); refine boxz (cs := #[.int .i64 0, .int .i64 0, .int .i64 0, .int .i64 0, .int .i64 0, .int .i64 0, .int .i64 0, .int .i64 0]) (t := 123) rfl ?_; intro gb168 hg w3 hbox hb; have n0_ := Aside0.mk (below_step z5_1 hb); have n1_ := Aside0.mk (hbox); have n2_ := Aside0.mk ((by rw [hg]; exact (below_size z5_1) : w.heap.size ≤ gb168)); have n3_ := Aside0.mk ((by rw [hg]; exact (below_size z5_1) : w.heap.size ≤ gb168)); clear HB; have HB := n0_; have BK168 := n1_; have GW168 := n2_; have GE168 := n3_; clear n0_ n1_ n2_ n3_; clear hb hbox hg; obtain ⟨_, _, _, _, _, _, _, _, _, _, _, _, _, _, _, _⟩ := be_8 BK168.out))
 refine bodyPost_ret (results_cell_row rfl _ _ gb168 123 #[.int .i64 (wrap64 ((wrap64 (256 * a0)) + 64)), .int .i64 (wrap64 ((wrap64 (256 * a1)) + 64)), .int .i64 (wrap64 ((wrap64 ((wrap64 (256 * a0)) + 64)) + 128)), .int .i64 (wrap64 ((wrap64 (256 * a1)) + 64)), .int .i64 (wrap64 ((wrap64 (256 * a0)) + 64)), .int .i64 (wrap64 ((wrap64 ((wrap64 (256 * a1)) + 64)) + 128)), .int .i64 (wrap64 ((wrap64 ((wrap64 (256 * a0)) + 64)) + 128)), .int .i64 (wrap64 ((wrap64 ((wrap64 (256 * a1)) + 64)) + 128))] (0, 0) _ rfl (by apply blk_fin; (focus ((with_reducible repeat (first | apply blk_putQ | refine blk_drewN ?_ _ | refine blk_drew ?_ | refine blk_alloc ?_ _)); exact BK168.out)); first | (simp only [List.setIfInBounds_toArray, List.set_cons_zero, List.set_cons_succ]; done) | rfl) Try.underlying123 rfl (by kernel_rfl)) rfl ?_
 exact ⟨z5_6, (by repeat (first | (with_reducible first | exact HB.out | apply below_alloc | apply pw_below_drewN | apply below_drew1 | refine below_set ?_ GE168.out) | exact HB.out))⟩

end Go.Proofs.Ytndeonfbolookaa.MFnExactMaskAt
