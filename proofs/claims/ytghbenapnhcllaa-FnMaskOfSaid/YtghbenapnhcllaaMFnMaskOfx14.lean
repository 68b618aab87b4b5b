/- Functions of the program as Lean functions, and the proof that a call comes to just these: machine text of this session's own program (myprint.py). -/
import Derived.Test.YtghbenapnhcllaaMFnMaskOfx0
import Derived.Test.YtghbenapnhcllaaMFnMaskOfx13
namespace Go.Proofs.Ytghbenapnhcllaa.MFnMaskOf
open Go.RowKit Go.Proofs.YtghbenapnhcllaaW.PrintWords Go.Proofs.YtghbenapnhcllaaW.PrintLast Go.Proofs.YtghbenapnhcllaaW.PrintMore
attribute [local go_sem] max2_int min2_int max_two min_two max_three min_three max_four min_four   -- for this text's walks alone
set_option linter.unusedVariables false
set_option linter.unusedSimpArgs false

theorem z14_0 {P : Prop} (h : P := by repeat (first | (with_reducible first | exact HB.out | apply below_alloc | apply pw_below_drewN | apply below_drew1 | refine below_set ?_ GE502.out) | exact HB.out)) : P := h
theorem z14_1 {P : Prop} (h : P := by (with_reducible repeat (first | refine blk_drewN ?_ _ | refine blk_drew ?_ | refine blk_alloc ?_ _)); exact BK502.out) : P := h
theorem z14_2 {P : Prop} (h : P := by repeat (first | (with_reducible first | exact HB.out | apply below_alloc | apply pw_below_drewN | apply below_drew1) | exact HB.out)) : P := h
theorem z14_3 {P : Prop} (h : P := by (with_reducible repeat (first | refine blk_drewN ?_ _ | refine blk_drew ?_ | refine blk_alloc ?_ _)); refine blk_far ?_ NB502_508.out _; (with_reducible repeat (first | refine blk_drewN ?_ _ | refine blk_drew ?_ | refine blk_alloc ?_ _)); refine blk_far ?_ NB502_508.out _; (with_reducible repeat (first | refine blk_drewN ?_ _ | refine blk_drew ?_ | refine blk_alloc ?_ _)); exact BK502.out) : P := h
theorem z14_4 {P : Prop} (h : P := by (try simp only [List.map_toArray, List.map_cons, List.map_nil]); first | done | rfl | (simp only [List.length_drop, List.length_take]; rfl)) : P := h
theorem z14_5 {P : Prop} (h : P := by apply blk_fin; (focus ((with_reducible repeat (first | apply blk_putQ | refine blk_drewN ?_ _ | refine blk_drew ?_ | refine blk_alloc ?_ _)); exact BK508.out)); first | (simp only [List.setIfInBounds_toArray, List.set_cons_zero, List.set_cons_succ]; done) | rfl) : P := h
theorem z14_6 {P : Prop} (h : P := by repeat (first | (with_reducible first | exact HB.out | apply below_alloc | apply pw_below_drewN | apply below_drew1 | refine below_set ?_ GE502.out | refine below_set ?_ GE505.out) | exact HB.out)) : P := h
theorem z14_7 {P : Prop} (h : P := by repeat (first | (with_reducible first | exact HB.out | apply below_alloc | apply pw_below_drewN | apply below_drew1 | refine below_set ?_ GE502.out | refine below_set ?_ GE508.out) | exact HB.out)) : P := h
theorem z14_8 {P : Prop} (h : P := by (with_reducible repeat (first | refine blk_drewN ?_ _ | refine blk_drew ?_ | refine blk_alloc ?_ _)); refine blk_far ?_ NB502_505.out _; (with_reducible repeat (first | refine blk_drewN ?_ _ | refine blk_drew ?_ | refine blk_alloc ?_ _)); refine blk_far ?_ NB502_505.out _; (with_reducible repeat (first | refine blk_drewN ?_ _ | refine blk_drew ?_ | refine blk_alloc ?_ _)); exact BK502.out) : P := h
theorem z14_9 {P : Prop} (h : P := by first | rfl | (simp [errW_none, errW_some] <;> rfl) | (simp [*, errW_none, errW_some] <;> rfl)) : P := h
theorem z14_10 {P : Prop} (h : P := by repeat (first | (with_reducible first | exact HB.out | apply below_alloc | apply pw_below_drewN | apply below_drew1 | refine below_set ?_ GE511.out) | exact HB.out)) : P := h
theorem z14_11 {P : Prop} (h : P := by apply blk_fin; (focus ((with_reducible repeat (first | apply blk_putQ | refine blk_drewN ?_ _ | refine blk_drew ?_ | refine blk_alloc ?_ _)); exact BK505.out)); first | (simp only [List.setIfInBounds_toArray, List.set_cons_zero, List.set_cons_succ]; done) | rfl) : P := h
theorem z14_12 {P : Prop} (h : P := by first | (rw [add_block]; exact hn509_0) | (show (Addr.add _ _).block ≠ _; rw [add_block]; exact hn509_0) | exact hn509_0) : P := h
theorem z14_13 {P : Prop} (h : P := by first | (rw [add_block]; exact hn509_1) | (show (Addr.add _ _).block ≠ _; rw [add_block]; exact hn509_1) | exact hn509_1) : P := h
/-! ### impl_WindOf: function 150 -/
mutual
def impl_WindOf.l0 : Nat → List (S52) → List (S52) → Int → Int → Int → Int → Option (Int)
 | 0, _, _, _, _, _, _ => none
 | k + 1, x0, x15, x16, x17, x503000, x503001 => if x17 < x16 then (if 0 ≤ x17 then (if x17 < (x15.length : Int) then ((impl_isNear.f ((rd_T52 x15 x17).f0) ((rd_T52 x15 x17).f1)).bind fun t506 => (if t506 = true then (impl_WindOf.l0 k x0 x15 x16 (wrap64 (x17 + 1)) x503000 x503001) else (some 0))) else (none)) else (none)) else (impl_WindOf.l1 k x0 0 x0 (x0.length : Int) 0 x503000 x503001)
def impl_WindOf.l1 : Nat → List (S52) → Int → List (S52) → Int → Int → Int → Int → Option (Int)
 | 0, _, _, _, _, _, _, _ => none
 | k + 1, x0, x7, x25, x26, x27, x503000, x503001 => if x27 < x26 then (if 0 ≤ x27 then (if x27 < (x25.length : Int) then (if (x0.length : Int) = 0 then (none) else (if 0 ≤ (Int.tmod (wrap64 (x27 + 1)) (x0.length : Int)) then (if (Int.tmod (wrap64 (x27 + 1)) (x0.length : Int)) < (x0.length : Int) then (if ((rd_T52 x25 x27).f1) ≤ x503001 then (if x503001 < ((rd_T52 x0 (Int.tmod (wrap64 (x27 + 1)) (x0.length : Int))).f1) then (impl_WindOf.j2 k x0 x7 (wrap64 ((wrap64 ((wrap64 (((rd_T52 x0 (Int.tmod (wrap64 (x27 + 1)) (x0.length : Int))).f0) - ((rd_T52 x25 x27).f0))) * (wrap64 (x503001 - ((rd_T52 x25 x27).f1))))) - (wrap64 ((wrap64 (x503000 - ((rd_T52 x25 x27).f0))) * (wrap64 (((rd_T52 x0 (Int.tmod (wrap64 (x27 + 1)) (x0.length : Int))).f1) - ((rd_T52 x25 x27).f1))))))) x25 x26 x27 (decide ((wrap64 ((wrap64 ((wrap64 (((rd_T52 x0 (Int.tmod (wrap64 (x27 + 1)) (x0.length : Int))).f0) - ((rd_T52 x25 x27).f0))) * (wrap64 (x503001 - ((rd_T52 x25 x27).f1))))) - (wrap64 ((wrap64 (x503000 - ((rd_T52 x25 x27).f0))) * (wrap64 (((rd_T52 x0 (Int.tmod (wrap64 (x27 + 1)) (x0.length : Int))).f1) - ((rd_T52 x25 x27).f1))))))) > 0)) x503000 x503001 ((rd_T52 x25 x27).f0) ((rd_T52 x25 x27).f1) ((rd_T52 x0 (Int.tmod (wrap64 (x27 + 1)) (x0.length : Int))).f0) ((rd_T52 x0 (Int.tmod (wrap64 (x27 + 1)) (x0.length : Int))).f1)) else (impl_WindOf.j2 k x0 x7 (wrap64 ((wrap64 ((wrap64 (((rd_T52 x0 (Int.tmod (wrap64 (x27 + 1)) (x0.length : Int))).f0) - ((rd_T52 x25 x27).f0))) * (wrap64 (x503001 - ((rd_T52 x25 x27).f1))))) - (wrap64 ((wrap64 (x503000 - ((rd_T52 x25 x27).f0))) * (wrap64 (((rd_T52 x0 (Int.tmod (wrap64 (x27 + 1)) (x0.length : Int))).f1) - ((rd_T52 x25 x27).f1))))))) x25 x26 x27 false x503000 x503001 ((rd_T52 x25 x27).f0) ((rd_T52 x25 x27).f1) ((rd_T52 x0 (Int.tmod (wrap64 (x27 + 1)) (x0.length : Int))).f0) ((rd_T52 x0 (Int.tmod (wrap64 (x27 + 1)) (x0.length : Int))).f1))) else (impl_WindOf.j2 k x0 x7 (wrap64 ((wrap64 ((wrap64 (((rd_T52 x0 (Int.tmod (wrap64 (x27 + 1)) (x0.length : Int))).f0) - ((rd_T52 x25 x27).f0))) * (wrap64 (x503001 - ((rd_T52 x25 x27).f1))))) - (wrap64 ((wrap64 (x503000 - ((rd_T52 x25 x27).f0))) * (wrap64 (((rd_T52 x0 (Int.tmod (wrap64 (x27 + 1)) (x0.length : Int))).f1) - ((rd_T52 x25 x27).f1))))))) x25 x26 x27 false x503000 x503001 ((rd_T52 x25 x27).f0) ((rd_T52 x25 x27).f1) ((rd_T52 x0 (Int.tmod (wrap64 (x27 + 1)) (x0.length : Int))).f0) ((rd_T52 x0 (Int.tmod (wrap64 (x27 + 1)) (x0.length : Int))).f1))) else (none)) else (none))) else (none)) else (none)) else (some x7)
def impl_WindOf.j2 : Nat → List (S52) → Int → Int → List (S52) → Int → Int → Bool → Int → Int → Int → Int → Int → Int → Option (Int)
 | 0, _, _, _, _, _, _, _, _, _, _, _, _, _ => none
 | k + 1, x0, x7, x11, x25, x26, x27, x63, x503000, x503001, x509000, x509001, x511000, x511001 => if x63 = true then (impl_WindOf.l1 k x0 (wrap64 (x7 + 1)) x25 x26 (wrap64 (x27 + 1)) x503000 x503001) else (if x511001 ≤ x503001 then (if x503001 < x509001 then (if x11 < 0 then (impl_WindOf.l1 k x0 (wrap64 (x7 - 1)) x25 x26 (wrap64 (x27 + 1)) x503000 x503001) else (impl_WindOf.l1 k x0 x7 x25 x26 (wrap64 (x27 + 1)) x503000 x503001)) else (impl_WindOf.l1 k x0 x7 x25 x26 (wrap64 (x27 + 1)) x503000 x503001)) else (impl_WindOf.l1 k x0 x7 x25 x26 (wrap64 (x27 + 1)) x503000 x503001))
end
def impl_WindOf.f (k : Nat) (l0 : List (S52)) (a1_0 : Int) (a1_1 : Int) : Option (Int) := (impl_isNear.f a1_0 a1_1).bind fun t503 => (if t503 = true then (impl_WindOf.l0 k l0 l0 (l0.length : Int) 0 a1_0 a1_1) else (some 0))
theorem impl_WindOf.mono_l : ∀ k, (∀ y0 y1 y2 y3 y4 y5, LeO (impl_WindOf.l0 k y0 y1 y2 y3 y4 y5) (impl_WindOf.l0 (k + 1) y0 y1 y2 y3 y4 y5)) ∧ (∀ y0 y1 y2 y3 y4 y5 y6, LeO (impl_WindOf.l1 k y0 y1 y2 y3 y4 y5 y6) (impl_WindOf.l1 (k + 1) y0 y1 y2 y3 y4 y5 y6)) ∧ (∀ y0 y1 y2 y3 y4 y5 y6 y7 y8 y9 y10 y11 y12, LeO (impl_WindOf.j2 k y0 y1 y2 y3 y4 y5 y6 y7 y8 y9 y10 y11 y12) (impl_WindOf.j2 (k + 1) y0 y1 y2 y3 y4 y5 y6 y7 y8 y9 y10 y11 y12))
 | 0 => ⟨fun _ _ _ _ _ _ r h => by simp [impl_WindOf.l0] at h, fun _ _ _ _ _ _ _ r h => by simp [impl_WindOf.l1] at h, fun _ _ _ _ _ _ _ _ _ _ _ _ _ r h => by simp [impl_WindOf.j2] at h⟩
 | k + 1 => by
  obtain ⟨ih0, ih1, ih2⟩ := impl_WindOf.mono_l k
  refine ⟨?_, ?_, ?_⟩
  ·intro y0 y1 y2 y3 y4 y5
   unfold impl_WindOf.l0
   repeat' first
   | (with_reducible exact ih0 _ _ _ _ _ _)
   | (with_reducible exact ih1 _ _ _ _ _ _ _)
   | (with_reducible exact ih2 _ _ _ _ _ _ _ _ _ _ _ _ _)
   | (with_reducible exact LeO.refl _)
   | (with_reducible exact LeO.none _)
   | (with_reducible refine LeO.ite ?_ ?_)
   | (with_reducible refine LeO.bind ?_ (fun _ => ?_))
   | exact ih0 _ _ _ _ _ _
   | exact ih1 _ _ _ _ _ _ _
   | exact ih2 _ _ _ _ _ _ _ _ _ _ _ _ _
   | exact LeO.none _
   | refine LeO.ite ?_ ?_
   | refine LeO.bind ?_ (fun _ => ?_)
  ·intro y0 y1 y2 y3 y4 y5 y6
   unfold impl_WindOf.l1
   repeat' first
   | (with_reducible exact ih0 _ _ _ _ _ _)
   | (with_reducible exact ih1 _ _ _ _ _ _ _)
   | (with_reducible exact ih2 _ _ _ _ _ _ _ _ _ _ _ _ _)
   | (with_reducible exact LeO.refl _)
   | (with_reducible exact LeO.none _)
   | (with_reducible refine LeO.ite ?_ ?_)
   | (with_reducible refine LeO.bind ?_ (fun _ => ?_))
   | exact ih0 _ _ _ _ _ _
   | exact ih1 _ _ _ _ _ _ _
   | exact ih2 _ _ _ _ _ _ _ _ _ _ _ _ _
   | exact LeO.none _
   | refine LeO.ite ?_ ?_
   | refine LeO.bind ?_ (fun _ => ?_)
  ·intro y0 y1 y2 y3 y4 y5 y6 y7 y8 y9 y10 y11 y12
   unfold impl_WindOf.j2
   repeat' first
   | (with_reducible exact ih0 _ _ _ _ _ _)
   | (with_reducible exact ih1 _ _ _ _ _ _ _)
   | (with_reducible exact ih2 _ _ _ _ _ _ _ _ _ _ _ _ _)
   | (with_reducible exact LeO.refl _)
   | (with_reducible exact LeO.none _)
   | (with_reducible refine LeO.ite ?_ ?_)
   | (with_reducible refine LeO.bind ?_ (fun _ => ?_))
   | exact ih0 _ _ _ _ _ _
   | exact ih1 _ _ _ _ _ _ _
   | exact ih2 _ _ _ _ _ _ _ _ _ _ _ _ _
   | exact LeO.none _
   | refine LeO.ite ?_ ?_
   | refine LeO.bind ?_ (fun _ => ?_)
theorem impl_WindOf.mono : ∀ a0 a1 a2 k, LeO (impl_WindOf.f k a0 a1 a2) (impl_WindOf.f (k + 1) a0 a1 a2) := by
 intro a0 a1 a2 k
 obtain ⟨ih0, ih1, ih2⟩ := impl_WindOf.mono_l k
 unfold impl_WindOf.f
 repeat' first
   | (with_reducible exact ih0 _ _ _ _ _ _)
   | (with_reducible exact ih1 _ _ _ _ _ _ _)
   | (with_reducible exact ih2 _ _ _ _ _ _ _ _ _ _ _ _ _)
   | (with_reducible exact LeO.refl _)
   | (with_reducible exact LeO.none _)
   | (with_reducible refine LeO.ite ?_ ?_)
   | (with_reducible refine LeO.bind ?_ (fun _ => ?_))
   | exact ih0 _ _ _ _ _ _
   | exact ih1 _ _ _ _ _ _ _
   | exact ih2 _ _ _ _ _ _ _ _ _ _ _ _ _
   | exact LeO.none _
   | refine LeO.ite ?_ ?_
   | refine LeO.bind ?_ (fun _ => ?_)
set_option maxHeartbeats 8000000 in
set_option maxRecDepth 100000 in
theorem impl_WindOf.calls (k : Nat) (A0 : Option Addr) (c0 : Nat) (l0 : List (S52)) (a1_0 : Int) (a1_1 : Int) (r : Int) (w : World) (hr0 : Kd.C k52 w A0 l0.length l0) (hc0 : l0.length ≤ c0) (h : impl_WindOf.f k l0 a1_0 a1_1 = some r) :
  Calls Try.prog 150 #[.slice A0 l0.length c0, .agg #[.int .i64 a1_0, .int .i64 a1_1]] w fun e w' => e = .returned (.int .i64 r) ∧ Below w.heap.size w w' := by
 have hu52 := Try.underlying52
 have HR0 := Aside0.mk hr0
 have HC0 := Aside0.mk hc0
 clear hr0 hc0
 have HB := Aside0.mk (Below.refl w.heap.size w)
 have H : ((impl_isNear.f a1_0 a1_1).bind fun t503 => (if t503 = true then (impl_WindOf.l0 k l0 l0 (l0.length : Int) 0 a1_0 a1_1) else (some 0))) = some r := h
 clear h
 replace H := Option.bind_eq_some_iff.mp H
 obtain ⟨t503, A30, H⟩ := H
 try dsimp only at H
 have A3 := Aside0.mk A30
 clear A30
 by_cases c4 : t503 = true
 ·subst c4
  have H1 : (impl_WindOf.l0 k l0 l0 (l0.length : Int) 0 a1_0 a1_1) = some r := by rw [if_pos rfl] at H; exact H
  clear H; have H := H1; clear H1
  have H' := Aside0.mk H
  clear H
  go_enter Try.func150, Try.ntmps150
  go_wp2_with (first | ((with_reducible refine gate_dst (N := 3) rfl ?_); refine boxz (cs := #[.int .i64 a1_0, .int .i64 a1_1]) (t := 52) rfl ?_; intro gb502 hg w5 hbox hb; have n0_ := Aside0.mk (below_step z14_2 hb); have n1_ := Aside0.mk (hbox); have n2_ := Aside0.mk (ge_go (a := w.heap.size) hg (below_size z14_2)); have n3_ := Aside0.mk (ge_go (a := w.heap.size) hg (below_size z14_2)); clear HB; have HB := n0_; have BK502 := n1_; have GW502 := n2_; have GE502 := n3_; clear n0_ n1_ n2_ n3_; clear hb hbox hg; obtain ⟨_, _, _, _⟩ := be_2 BK502.out) | ((with_reducible refine gate_callee (f := 153) rfl ?_); refine goesL_ (some 13) rfl rfl Try.func153 (by kernel_rfl) rfl #[.agg #[.int .i64 a1_0, .int .i64 a1_1]] rfl z14_4 ?_; (with_reducible refine (impl_isNear.calls a1_0 a1_1 true _ A3.out).mono ?_); rintro e w7 ⟨rfl, hb⟩; refine ⟨_, rfl, ?_⟩; have n0_ := Aside0.mk (blk_belowB BK502 z14_1 hb); have n1_ := Aside0.mk (below_step z14_0 hb); clear BK502; clear HB; have BK502 := n0_; have HB := n1_; clear n0_ n1_; (try clear hb)))
  go_loopg [17] k (fun kq v17 w' => ∃ (x17_1 : Int), v17 = .int .i64 x17_1 ∧ Aside0 (impl_WindOf.l0 kq l0 l0 (l0.length : Int) x17_1 a1_0 a1_1 = some r) ∧ Aside0 (kq ≤ k) ∧ Aside0 (w'.heap[gb502]? = some (.cells #[.int .i64 a1_0, .int .i64 a1_1] 52 (0, 0))) ∧ Aside0 (Below w.heap.size w w'))
  case atStart => exact ⟨(0), (by first | rfl | (simp; done) | (simp [*]; done)), H', ⟨Nat.le_refl _⟩, ⟨by (with_reducible repeat (first | refine blk_drewN ?_ _ | refine blk_drew ?_ | refine blk_alloc ?_ _)); exact BK502.out⟩, ⟨by repeat (first | (with_reducible first | exact HB.out | apply below_alloc | apply pw_below_drewN | apply below_drew1 | refine below_set ?_ GE502.out) | exact HB.out)⟩⟩
  case round =>
   clear H'
   try clear c1
   try clear p2
   try clear c4
   try clear hcz6_0
   try clear hcz6_1
   try clear hfz6_0
   try clear hfz6_1
   obtain ⟨x17_1, rfl, HA, HK1, BK502, HB⟩ := hrel
   cases gk with
   | zero => exact absurd HA.out (by simp [impl_WindOf.l0])
   | succ k1 =>
    have H := HA.out; clear HA
    simp only [impl_WindOf.l0] at H
    by_cases c8 : x17_1 < (l0.length : Int)
    ·rw [if_pos c8] at H
     have c8b0 : decide (x17_1 < (l0.length : Int)) = true := decide_eq_true c8
     clear c8
     by_cases c9 : 0 ≤ x17_1
     ·rw [if_pos c9] at H
      have c9b0 : decide (0 ≤ x17_1) = true := decide_eq_true c9
      clear c9
      by_cases c10 : x17_1 < (l0.length : Int)
      ·rw [if_pos c10] at H
       have c10b0 : decide (x17_1 < (l0.length : Int)) = true := decide_eq_true c10
       clear c10
       replace H := Option.bind_eq_some_iff.mp H
       obtain ⟨t506, A110, H⟩ := H
       try dsimp only at H
       have A11 := Aside0.mk A110
       clear A110
       by_cases c12 : t506 = true
       ·subst c12
        have H1 : (impl_WindOf.l0 k1 l0 l0 (l0.length : Int) (wrap64 (x17_1 + 1)) a1_0 a1_1) = some r := by rw [if_pos rfl] at H; exact H
        clear H; have H := H1; clear H1
        have H' := Aside0.mk H
        clear H
        have p504 : 0 ≤ (x17_1 : Int) := of_decide_eq_true (by first | (with_reducible assumption) | assumption)
        have q504 : x17_1 < (l0.length : Int) := of_decide_eq_true (by first | (with_reducible assumption) | assumption)
        obtain ⟨ad504, e504, hx504_0, hx504_1⟩ := at_T52 HR0.out x17_1 p504 q504
        cases e504
        replace hx504_0 := cell_go HB hx504_0
        replace hx504_1 := cell_go HB hx504_1
        replace p504 := eq_true p504
        replace q504 := eq_true q504
        go_wp2_with (first | ((with_reducible refine gate_dst (N := 6) rfl ?_); refine boxz (cs := #[.int .i64 0, .int .i64 0]) (t := 52) rfl ?_; intro gb505 hg w13 hbox hb; have n0_ := Aside0.mk (blk_belowB BK502 z14_1 hb); have n1_ := Aside0.mk (below_step z14_0 hb); have n2_ := Aside0.mk (hbox); have n3_ := Aside0.mk (ge_go (a := w.heap.size) hg (below_size z14_0)); have n4_ := Aside0.mk (ge_go (a := w.heap.size) hg (below_size z14_0)); have n5_ := Aside0.mk (nb_lt hg (blk_ltB BK502 z14_1)); have n6_ := Aside0.mk (nb_gt hg (blk_ltB BK502 z14_1)); clear BK502; clear HB; have BK502 := n0_; have HB := n1_; have BK505 := n2_; have GW505 := n3_; have GE505 := n4_; have NB502_505 := n5_; have NB505_502 := n6_; clear n0_ n1_ n2_ n3_ n4_ n5_ n6_; clear hb hbox hg; have hnb14 := NB505_502.out; have hnc14 := NB502_505.out; obtain ⟨_, _, _, _⟩ := be_2 BK505.out) | ((with_reducible refine gate_callee (f := 153) rfl ?_); refine goesL_ (some 22) rfl rfl Try.func153 (by kernel_rfl) rfl #[.agg #[.int .i64 ((rd_T52 l0 x17_1).f0), .int .i64 ((rd_T52 l0 x17_1).f1)]] rfl z14_4 ?_; (with_reducible refine (impl_isNear.calls ((rd_T52 l0 x17_1).f0) ((rd_T52 l0 x17_1).f1) true _ A11.out).mono ?_); rintro e w16 ⟨rfl, hb⟩; refine ⟨_, rfl, ?_⟩; have n0_ := Aside0.mk (blk_belowB BK502 z14_8 hb); have n1_ := Aside0.mk (blk_below (g := gb505) (o := .cells #[.int .i64 ((rd_T52 l0 x17_1).f0), .int .i64 ((rd_T52 l0 x17_1).f1)] 52 (0, 0)) z14_11 hb); have n2_ := Aside0.mk (below_step z14_6 hb); clear BK502; clear BK505; clear HB; have BK502 := n0_; have BK505 := n1_; have HB := n2_; clear n0_ n1_ n2_; (try clear hb)))
        go_roundg k1
        case measure => have := HK1.out; omega
        case rel => exact ⟨(wrap64 (x17_1 + 1)), (by first | rfl | (simp; done) | (simp [*]; done)), H', ⟨by have := HK1.out; omega⟩, ⟨by (with_reducible repeat (first | refine blk_drewN ?_ _ | refine blk_drew ?_ | refine blk_alloc ?_ _)); exact BK502.out⟩, ⟨by repeat (first | (with_reducible first | exact HB.out | apply below_alloc | apply pw_below_drewN | apply below_drew1 | refine below_set ?_ GE502.out | refine below_set ?_ GE505.out) | exact HB.out)⟩⟩
       ·replace c12 := Bool.eq_false_iff.mpr c12
        subst c12
        have H1 : (some 0) = some r := by rw [if_neg (show ¬ (false = true) by decide)] at H; exact H
        clear H; have H := H1; clear H1
        obtain rfl := Option.some.inj H
        simp only [Option.some.injEq, Prod.mk.injEq] at H
        obtain ⟨rfl⟩ := H
        have p504 : 0 ≤ (x17_1 : Int) := of_decide_eq_true (by first | (with_reducible assumption) | assumption)
        have q504 : x17_1 < (l0.length : Int) := of_decide_eq_true (by first | (with_reducible assumption) | assumption)
        obtain ⟨ad504, e504, hx504_0, hx504_1⟩ := at_T52 HR0.out x17_1 p504 q504
        cases e504
        replace hx504_0 := cell_go HB hx504_0
        replace hx504_1 := cell_go HB hx504_1
        replace p504 := eq_true p504
        replace q504 := eq_true q504
        go_wp2_with (first | ((with_reducible refine gate_dst (N := 6) rfl ?_); refine boxz (cs := #[.int .i64 0, .int .i64 0]) (t := 52) rfl ?_; intro gb505 hg w17 hbox hb; have n0_ := Aside0.mk (blk_belowB BK502 z14_1 hb); have n1_ := Aside0.mk (below_step z14_0 hb); have n2_ := Aside0.mk (hbox); have n3_ := Aside0.mk (ge_go (a := w.heap.size) hg (below_size z14_0)); have n4_ := Aside0.mk (ge_go (a := w.heap.size) hg (below_size z14_0)); have n5_ := Aside0.mk (nb_lt hg (blk_ltB BK502 z14_1)); have n6_ := Aside0.mk (nb_gt hg (blk_ltB BK502 z14_1)); clear BK502; clear HB; have BK502 := n0_; have HB := n1_; have BK505 := n2_; have GW505 := n3_; have GE505 := n4_; have NB502_505 := n5_; have NB505_502 := n6_; clear n0_ n1_ n2_ n3_ n4_ n5_ n6_; clear hb hbox hg; have hnb18 := NB505_502.out; have hnc18 := NB502_505.out; obtain ⟨_, _, _, _⟩ := be_2 BK505.out) | ((with_reducible refine gate_callee (f := 153) rfl ?_); refine goesL_ (some 22) rfl rfl Try.func153 (by kernel_rfl) rfl #[.agg #[.int .i64 ((rd_T52 l0 x17_1).f0), .int .i64 ((rd_T52 l0 x17_1).f1)]] rfl z14_4 ?_; (with_reducible refine (impl_isNear.calls ((rd_T52 l0 x17_1).f0) ((rd_T52 l0 x17_1).f1) false _ A11.out).mono ?_); rintro e w20 ⟨rfl, hb⟩; refine ⟨_, rfl, ?_⟩; have n0_ := Aside0.mk (blk_belowB BK502 z14_8 hb); have n1_ := Aside0.mk (blk_below (g := gb505) (o := .cells #[.int .i64 ((rd_T52 l0 x17_1).f0), .int .i64 ((rd_T52 l0 x17_1).f1)] 52 (0, 0)) z14_11 hb); have n2_ := Aside0.mk (below_step z14_6 hb); clear BK502; clear BK505; clear HB; have BK502 := n0_; have BK505 := n1_; have HB := n2_; clear n0_ n1_ n2_; (try clear hb)))
        go_ret
        exact ⟨z14_9, z14_6⟩
      ·rw [if_neg c10] at H
       exact absurd H (by simp)
     ·rw [if_neg c9] at H
      exact absurd H (by simp)
    ·rw [if_neg c8] at H
     have c8b0 : decide (x17_1 < (l0.length : Int)) = false := decide_eq_false c8
     clear c8
     have H' := Aside0.mk H
     clear H
     go_wp2
     go_loopg [7, 27] k1 (fun kq v7 v27 w' => ∃ (x7_2 : Int) (x27_2 : Int), v7 = .int .i64 x7_2 ∧ v27 = .int .i64 x27_2 ∧ Aside0 (impl_WindOf.l1 kq l0 x7_2 l0 (l0.length : Int) x27_2 a1_0 a1_1 = some r) ∧ Aside0 (kq ≤ k1) ∧ Aside0 (w'.heap[gb502]? = some (.cells #[.int .i64 a1_0, .int .i64 a1_1] 52 (0, 0))) ∧ Aside0 (Below w.heap.size w w'))
     case atStart => exact ⟨(0), (0), (by first | rfl | (simp; done) | (simp [*]; done)), (by first | rfl | (simp; done) | (simp [*]; done)), H', ⟨Nat.le_refl _⟩, ⟨by (with_reducible repeat (first | refine blk_drewN ?_ _ | refine blk_drew ?_ | refine blk_alloc ?_ _)); exact BK502.out⟩, ⟨by repeat (first | (with_reducible first | exact HB.out | apply below_alloc | apply pw_below_drewN | apply below_drew1 | refine below_set ?_ GE502.out) | exact HB.out)⟩⟩
     case round =>
      clear H'
      try clear c1
      try clear p2
      try clear c4
      try clear p5
      try clear q5
      try clear hx5
      try clear p6
      try clear c8
      try clear c8b0
      try clear c9
      try clear c9b0
      try clear c10
      try clear c10b0
      try clear c12
      try clear c14
      try clear c15
      try clear c18
      try clear hcz15_0
      try clear hcz15_1
      try clear hcz19_0
      try clear hcz19_1
      try clear hcz6_0
      try clear hcz6_1
      try clear hfz15_0
      try clear hfz15_1
      try clear hfz19_0
      try clear hfz19_1
      try clear hfz6_0
      try clear hfz6_1
      try clear hx504_0
      try clear hx504_1
      try clear p2
      try clear p504
      try clear q504
      obtain ⟨x7_2, x27_2, rfl, rfl, HA, HK2, BK502, HB⟩ := hrel
      cases gk with
      | zero => exact absurd HA.out (by simp [impl_WindOf.l1])
      | succ k2 =>
       have H := HA.out; clear HA
       simp only [impl_WindOf.l1] at H
       by_cases c21 : x27_2 < (l0.length : Int)
       ·rw [if_pos c21] at H
        have c21b0 : decide (x27_2 < (l0.length : Int)) = true := decide_eq_true c21
        clear c21
        by_cases c22 : 0 ≤ x27_2
        ·rw [if_pos c22] at H
         have c22b0 : decide (0 ≤ x27_2) = true := decide_eq_true c22
         clear c22
         by_cases c23 : x27_2 < (l0.length : Int)
         ·rw [if_pos c23] at H
          have c23b0 : decide (x27_2 < (l0.length : Int)) = true := decide_eq_true c23
          clear c23
          by_cases c24 : (l0.length : Int) = 0
          ·rw [if_pos c24] at H
           exact absurd H (by simp)
          ·rw [if_neg c24] at H
           have c24b0 : ((l0.length : Int) == 0) = false := beq_eq_false_iff_ne.mpr c24
           have c24b1 : ((l0.length : Int) != 0) = true := bne_iff_ne.mpr c24
           have c24b2 : ¬ (l0 = []) := fun h_ => c24 (by rw [h_]; rfl)
           obtain ⟨ji25, hji25⟩ : ∃ j_ : Int, (Int.tmod (wrap64 (x27_2 + 1)) (l0.length : Int)) = j_ := ⟨_, rfl⟩
           replace H : (if 0 ≤ (ji25) then (if (ji25) < (l0.length : Int) then (if ((rd_T52 l0 x27_2).f1) ≤ a1_1 then (if a1_1 < ((rd_T52 l0 (ji25)).f1) then (impl_WindOf.j2 k2 l0 x7_2 (wrap64 ((wrap64 ((wrap64 (((rd_T52 l0 (ji25)).f0) - ((rd_T52 l0 x27_2).f0))) * (wrap64 (a1_1 - ((rd_T52 l0 x27_2).f1))))) - (wrap64 ((wrap64 (a1_0 - ((rd_T52 l0 x27_2).f0))) * (wrap64 (((rd_T52 l0 (ji25)).f1) - ((rd_T52 l0 x27_2).f1))))))) l0 (l0.length : Int) x27_2 (decide ((wrap64 ((wrap64 ((wrap64 (((rd_T52 l0 (ji25)).f0) - ((rd_T52 l0 x27_2).f0))) * (wrap64 (a1_1 - ((rd_T52 l0 x27_2).f1))))) - (wrap64 ((wrap64 (a1_0 - ((rd_T52 l0 x27_2).f0))) * (wrap64 (((rd_T52 l0 (ji25)).f1) - ((rd_T52 l0 x27_2).f1))))))) > 0)) a1_0 a1_1 ((rd_T52 l0 x27_2).f0) ((rd_T52 l0 x27_2).f1) ((rd_T52 l0 (ji25)).f0) ((rd_T52 l0 (ji25)).f1)) else (impl_WindOf.j2 k2 l0 x7_2 (wrap64 ((wrap64 ((wrap64 (((rd_T52 l0 (ji25)).f0) - ((rd_T52 l0 x27_2).f0))) * (wrap64 (a1_1 - ((rd_T52 l0 x27_2).f1))))) - (wrap64 ((wrap64 (a1_0 - ((rd_T52 l0 x27_2).f0))) * (wrap64 (((rd_T52 l0 (ji25)).f1) - ((rd_T52 l0 x27_2).f1))))))) l0 (l0.length : Int) x27_2 false a1_0 a1_1 ((rd_T52 l0 x27_2).f0) ((rd_T52 l0 x27_2).f1) ((rd_T52 l0 (ji25)).f0) ((rd_T52 l0 (ji25)).f1))) else (impl_WindOf.j2 k2 l0 x7_2 (wrap64 ((wrap64 ((wrap64 (((rd_T52 l0 (ji25)).f0) - ((rd_T52 l0 x27_2).f0))) * (wrap64 (a1_1 - ((rd_T52 l0 x27_2).f1))))) - (wrap64 ((wrap64 (a1_0 - ((rd_T52 l0 x27_2).f0))) * (wrap64 (((rd_T52 l0 (ji25)).f1) - ((rd_T52 l0 x27_2).f1))))))) l0 (l0.length : Int) x27_2 false a1_0 a1_1 ((rd_T52 l0 x27_2).f0) ((rd_T52 l0 x27_2).f1) ((rd_T52 l0 (ji25)).f0) ((rd_T52 l0 (ji25)).f1))) else (none)) else (none)) = some r := by first | (rw [hji25] at H; exact H) | (simp only [hji25] at H ⊢; exact H)
           by_cases c26 : 0 ≤ (ji25)
           ·rw [if_pos c26] at H
            have c26b0 : decide (0 ≤ (ji25)) = true := decide_eq_true c26
            clear c26
            by_cases c27 : (ji25) < (l0.length : Int)
            ·rw [if_pos c27] at H
             have c27b0 : decide ((ji25) < (l0.length : Int)) = true := decide_eq_true c27
             clear c27
             have HC28 := Aside0.mk H
             clear H
             have p507 : 0 ≤ (x27_2 : Int) := of_decide_eq_true (by first | (with_reducible assumption) | assumption)
             have q507 : x27_2 < (l0.length : Int) := of_decide_eq_true (by first | (with_reducible assumption) | assumption)
             obtain ⟨ad507, e507, hx507_0, hx507_1⟩ := at_T52 HR0.out x27_2 p507 q507
             cases e507
             replace hx507_0 := cell_go HB hx507_0
             replace hx507_1 := cell_go HB hx507_1
             replace p507 := eq_true p507
             replace q507 := eq_true q507
             go_upto_region 15 with (first | ((with_reducible refine gate_dst (N := 9) rfl ?_); refine boxz (cs := #[.int .i64 0, .int .i64 0]) (t := 52) rfl ?_; intro gb508 hg w29 hbox hb; have n0_ := Aside0.mk (blk_belowB BK502 z14_1 hb); have n1_ := Aside0.mk (below_step z14_0 hb); have n2_ := Aside0.mk (hbox); have n3_ := Aside0.mk (ge_go (a := w.heap.size) hg (below_size z14_0)); have n4_ := Aside0.mk (ge_go (a := w.heap.size) hg (below_size z14_0)); have n5_ := Aside0.mk (nb_lt hg (blk_ltB BK502 z14_1)); have n6_ := Aside0.mk (nb_gt hg (blk_ltB BK502 z14_1)); clear BK502; clear HB; have BK502 := n0_; have HB := n1_; have BK508 := n2_; have GW508 := n3_; have GE508 := n4_; have NB502_508 := n5_; have NB508_502 := n6_; clear n0_ n1_ n2_ n3_ n4_ n5_ n6_; clear hb hbox hg; have hnb30 := NB508_502.out; have hnc30 := NB502_508.out; have hcz31_0 : w29.cell? ⟨gb508, 0, none⟩ = some (.int .i64 0) := (blk_cell BK508.out 0).trans rfl; have hcz31_1 : w29.cell? ⟨gb508, 1, none⟩ = some (.int .i64 0) := (blk_cell BK508.out 1).trans rfl; have hfz31_0 := blk_frozen BK508.out 0; have hfz31_1 := blk_frozen BK508.out 1; have p509 : 0 ≤ ((ji25) : Int) := of_decide_eq_true (by first | (with_reducible assumption) | assumption); have q509 : (ji25) < (l0.length : Int) := of_decide_eq_true (by first | (with_reducible assumption) | assumption); obtain ⟨ad509, e509, hx509_0, hx509_1⟩ := at_T52 HR0.out (ji25) p509 q509; obtain rfl : ad507 = ad509 := (by injection e509); have hn509_0 : ad507.block ≠ gb508 := Nat.ne_of_lt (Nat.lt_of_lt_of_le (by have := World.block_lt_of_cell? _ _ hx509_0; first | rwa [add_block] at this | exact this) GW508.out); have hn509_1 : ad507.block ≠ gb508 := Nat.ne_of_lt (Nat.lt_of_lt_of_le (by have := World.block_lt_of_cell? _ _ hx509_0; first | rwa [add_block] at this | exact this) GW508.out); replace hx509_0 := cell_go HB hx509_0; replace hx509_1 := cell_go HB hx509_1; replace hx509_0 := (cell_far (p := ⟨gb508, 0, none⟩) z14_12 (.int .i64 ((rd_T52 l0 x27_2).f0))).trans hx509_0; replace hx509_1 := (cell_far (p := ⟨gb508, 0, none⟩) z14_12 (.int .i64 ((rd_T52 l0 x27_2).f0))).trans hx509_1; replace hx509_0 := (cell_far (p := ⟨gb508, 1, none⟩) z14_13 (.int .i64 ((rd_T52 l0 x27_2).f1))).trans hx509_0; replace hx509_1 := (cell_far (p := ⟨gb508, 1, none⟩) z14_13 (.int .i64 ((rd_T52 l0 x27_2).f1))).trans hx509_1; clear hn509_0; clear hn509_1; replace p509 := eq_true p509; replace q509 := eq_true q509) | ((with_reducible refine gate_dst (N := 10) rfl ?_); refine boxz (cs := #[.int .i64 0, .int .i64 0]) (t := 52) rfl ?_; intro gb510 hg w32 hbox hb; have n0_ := Aside0.mk (blk_belowB BK502 z14_3 hb); have n1_ := Aside0.mk (blk_below (g := gb508) (o := .cells #[.int .i64 ((rd_T52 l0 x27_2).f0), .int .i64 ((rd_T52 l0 x27_2).f1)] 52 (0, 0)) z14_5 hb); have n2_ := Aside0.mk (below_step z14_7 hb); have n3_ := Aside0.mk (hbox); have n4_ := Aside0.mk (ge_go (a := w.heap.size) hg (below_size z14_7)); have n5_ := Aside0.mk (ge_go (a := w.heap.size) hg (below_size z14_7)); have n6_ := Aside0.mk (nb_lt hg (blk_ltB BK502 z14_3)); have n7_ := Aside0.mk (nb_gt hg (blk_ltB BK502 z14_3)); have n8_ := Aside0.mk ((by rw [hg]; exact Nat.ne_of_lt (blk_lt (g := gb508) (o := .cells #[.int .i64 ((rd_T52 l0 x27_2).f0), .int .i64 ((rd_T52 l0 x27_2).f1)] 52 (0, 0)) z14_5) : gb508 ≠ gb510)); have n9_ := Aside0.mk ((by rw [hg]; exact Nat.ne_of_gt (blk_lt (g := gb508) (o := .cells #[.int .i64 ((rd_T52 l0 x27_2).f0), .int .i64 ((rd_T52 l0 x27_2).f1)] 52 (0, 0)) z14_5) : gb510 ≠ gb508)); clear BK502; clear BK508; clear HB; have BK502 := n0_; have BK508 := n1_; have HB := n2_; have BK510 := n3_; have GW510 := n4_; have GE510 := n5_; have NB502_510 := n6_; have NB510_502 := n7_; have NB508_510 := n8_; have NB510_508 := n9_; clear n0_ n1_ n2_ n3_ n4_ n5_ n6_ n7_ n8_ n9_; clear hb hbox hg; have hnb33 := NB510_502.out; have hnc33 := NB502_510.out; have hnb34 := NB510_508.out; have hnc34 := NB508_510.out; have hcz35_0 : w32.cell? ⟨gb510, 0, none⟩ = some (.int .i64 0) := (blk_cell BK510.out 0).trans rfl; have hcz35_1 : w32.cell? ⟨gb510, 1, none⟩ = some (.int .i64 0) := (blk_cell BK510.out 1).trans rfl; have hfz35_0 := blk_frozen BK510.out 0; have hfz35_1 := blk_frozen BK510.out 1; have hcz36_0 : w32.cell? ⟨gb508, 0, none⟩ = some (.int .i64 ((rd_T52 l0 x27_2).f0)) := (blk_cell BK508.out 0).trans rfl; have hcz36_1 : w32.cell? ⟨gb508, 1, none⟩ = some (.int .i64 ((rd_T52 l0 x27_2).f1)) := (blk_cell BK508.out 1).trans rfl; have hfz36_0 := blk_frozen BK508.out 0; have hfz36_1 := blk_frozen BK508.out 1; have hcz37_0 : w32.cell? ⟨gb502, 0, none⟩ = some (.int .i64 a1_0) := (blk_cell BK502.out 0).trans rfl; have hcz37_1 : w32.cell? ⟨gb502, 1, none⟩ = some (.int .i64 a1_1) := (blk_cell BK502.out 1).trans rfl; have hfz37_0 := blk_frozen BK502.out 0; have hfz37_1 := blk_frozen BK502.out 1))
             (try simp only [Act.put, List.setIfInBounds_toArray, List.set_cons_zero, List.set_cons_succ])
             go_cut [63] (fun v63 wc => ∃ (kq : Nat) (x63_27 : Bool), v63 = .bool x63_27 ∧ Aside0 (impl_WindOf.j2 kq l0 x7_2 (wrap64 ((wrap64 ((wrap64 (((rd_T52 l0 (ji25)).f0) - ((rd_T52 l0 x27_2).f0))) * (wrap64 (a1_1 - ((rd_T52 l0 x27_2).f1))))) - (wrap64 ((wrap64 (a1_0 - ((rd_T52 l0 x27_2).f0))) * (wrap64 (((rd_T52 l0 (ji25)).f1) - ((rd_T52 l0 x27_2).f1))))))) l0 (l0.length : Int) x27_2 x63_27 a1_0 a1_1 ((rd_T52 l0 x27_2).f0) ((rd_T52 l0 x27_2).f1) ((rd_T52 l0 (ji25)).f0) ((rd_T52 l0 (ji25)).f1) = some r) ∧ Aside0 (kq ≤ k2) ∧ Aside0 (wc.heap[gb502]? = some (.cells #[.int .i64 a1_0, .int .i64 a1_1] 52 (0, 0))) ∧ Aside0 (wc.heap[gb508]? = some (.cells #[.int .i64 ((rd_T52 l0 x27_2).f0), .int .i64 ((rd_T52 l0 x27_2).f1)] 52 (0, 0))) ∧ Aside0 (wc.heap[gb510]? = some (.cells #[.int .i64 ((rd_T52 l0 (ji25)).f0), .int .i64 ((rd_T52 l0 (ji25)).f1)] 52 (0, 0))) ∧ Aside0 (Below w.heap.size w wc))
             case first =>
              have H := HC28.out; clear HC28
              by_cases c38 : ((rd_T52 l0 x27_2).f1) ≤ a1_1
              ·rw [if_pos c38] at H
               have c38b0 : decide (((rd_T52 l0 x27_2).f1) ≤ a1_1) = true := decide_eq_true c38
               clear c38
               (first | rw [c38b0] | (simp only [i64_w, i32_w]; rw [c38b0]) | skip)
               by_cases c39 : a1_1 < ((rd_T52 l0 (ji25)).f1)
               ·rw [if_pos c39] at H
                have c39b0 : decide (a1_1 < ((rd_T52 l0 (ji25)).f1)) = true := decide_eq_true c39
                clear c39
                have H' := Aside0.mk H
                clear H; have hnb40 := NB508_502.out; have hnc40 := NB502_508.out; have hnb41 := NB508_510.out; have hnc41 := NB510_508.out
                obtain ⟨_, _, _, _⟩ := be_2 BK508.out
                have hnb43 := NB502_510.out; have hnc43 := NB510_502.out
                obtain ⟨_, _, _, _⟩ := be_2 BK502.out
                obtain ⟨_, _, _, _⟩ := be_2 BK510.out
                go_wp2
                go_meet
                case rel => exact ⟨_, (decide ((wrap64 ((wrap64 ((wrap64 (((rd_T52 l0 (ji25)).f0) - ((rd_T52 l0 x27_2).f0))) * (wrap64 (a1_1 - ((rd_T52 l0 x27_2).f1))))) - (wrap64 ((wrap64 (a1_0 - ((rd_T52 l0 x27_2).f0))) * (wrap64 (((rd_T52 l0 (ji25)).f1) - ((rd_T52 l0 x27_2).f1))))))) > 0)), (by first | rfl | (simp; done) | (simp only [← hji25] <;> (first | rfl | simp)) | (simp [*]; done)), H', ⟨by have := HK1.out; have := HK2.out; first | omega | exact Nat.le_refl _⟩, ⟨by (with_reducible repeat (first | refine blk_drewN ?_ _ | refine blk_drew ?_ | refine blk_alloc ?_ _)); refine blk_far ?_ NB502_510.out _; (with_reducible repeat (first | refine blk_drewN ?_ _ | refine blk_drew ?_ | refine blk_alloc ?_ _)); refine blk_far ?_ NB502_510.out _; (with_reducible repeat (first | refine blk_drewN ?_ _ | refine blk_drew ?_ | refine blk_alloc ?_ _)); exact BK502.out⟩, ⟨by (with_reducible repeat (first | refine blk_drewN ?_ _ | refine blk_drew ?_ | refine blk_alloc ?_ _)); refine blk_far ?_ NB508_510.out _; (with_reducible repeat (first | refine blk_drewN ?_ _ | refine blk_drew ?_ | refine blk_alloc ?_ _)); refine blk_far ?_ NB508_510.out _; (with_reducible repeat (first | refine blk_drewN ?_ _ | refine blk_drew ?_ | refine blk_alloc ?_ _)); exact BK508.out⟩, ⟨by (with_reducible repeat (first | refine blk_drewN ?_ _ | refine blk_drew ?_ | refine blk_alloc ?_ _)); refine blk_put (cs := #[.int .i64 ((rd_T52 l0 (ji25)).f0), .int .i64 0]) ?_ 1 _ rfl; (with_reducible repeat (first | refine blk_drewN ?_ _ | refine blk_drew ?_ | refine blk_alloc ?_ _)); refine blk_put (cs := #[.int .i64 0, .int .i64 0]) ?_ 0 _ rfl; (with_reducible repeat (first | refine blk_drewN ?_ _ | refine blk_drew ?_ | refine blk_alloc ?_ _)); exact BK510.out⟩, ⟨by repeat (first | (with_reducible first | exact HB.out | apply below_alloc | apply pw_below_drewN | apply below_drew1 | refine below_set ?_ GE502.out | refine below_set ?_ GE508.out | refine below_set ?_ GE510.out) | exact HB.out)⟩⟩
               ·rw [if_neg c39] at H
                have c39b0 : decide (a1_1 < ((rd_T52 l0 (ji25)).f1)) = false := decide_eq_false c39
                clear c39
                have H' := Aside0.mk H
                clear H; have hnb46 := NB508_502.out; have hnc46 := NB502_508.out; have hnb47 := NB508_510.out; have hnc47 := NB510_508.out
                obtain ⟨_, _, _, _⟩ := be_2 BK508.out
                have hnb49 := NB502_510.out; have hnc49 := NB510_502.out
                obtain ⟨_, _, _, _⟩ := be_2 BK502.out
                obtain ⟨_, _, _, _⟩ := be_2 BK510.out
                go_wp2
                go_meet
                case rel => exact ⟨_, (false), (by first | rfl | (simp; done) | (simp [*]; done)), H', ⟨by have := HK1.out; have := HK2.out; first | omega | exact Nat.le_refl _⟩, ⟨by (with_reducible repeat (first | refine blk_drewN ?_ _ | refine blk_drew ?_ | refine blk_alloc ?_ _)); refine blk_far ?_ NB502_510.out _; (with_reducible repeat (first | refine blk_drewN ?_ _ | refine blk_drew ?_ | refine blk_alloc ?_ _)); refine blk_far ?_ NB502_510.out _; (with_reducible repeat (first | refine blk_drewN ?_ _ | refine blk_drew ?_ | refine blk_alloc ?_ _)); exact BK502.out⟩, ⟨by (with_reducible repeat (first | refine blk_drewN ?_ _ | refine blk_drew ?_ | refine blk_alloc ?_ _)); refine blk_far ?_ NB508_510.out _; (with_reducible repeat (first | refine blk_drewN ?_ _ | refine blk_drew ?_ | refine blk_alloc ?_ _)); refine blk_far ?_ NB508_510.out _; (with_reducible repeat (first | refine blk_drewN ?_ _ | refine blk_drew ?_ | refine blk_alloc ?_ _)); exact BK508.out⟩, ⟨by (with_reducible repeat (first | refine blk_drewN ?_ _ | refine blk_drew ?_ | refine blk_alloc ?_ _)); refine blk_put (cs := #[.int .i64 ((rd_T52 l0 (ji25)).f0), .int .i64 0]) ?_ 1 _ rfl; (with_reducible repeat (first | refine blk_drewN ?_ _ | refine blk_drew ?_ | refine blk_alloc ?_ _)); refine blk_put (cs := #[.int .i64 0, .int .i64 0]) ?_ 0 _ rfl; (with_reducible repeat (first | refine blk_drewN ?_ _ | refine blk_drew ?_ | refine blk_alloc ?_ _)); exact BK510.out⟩, ⟨by repeat (first | (with_reducible first | exact HB.out | apply below_alloc | apply pw_below_drewN | apply below_drew1 | refine below_set ?_ GE502.out | refine below_set ?_ GE508.out | refine below_set ?_ GE510.out) | exact HB.out)⟩⟩
              ·rw [if_neg c38] at H
               have c38b0 : decide (((rd_T52 l0 x27_2).f1) ≤ a1_1) = false := decide_eq_false c38
               clear c38
               (first | rw [c38b0] | (simp only [i64_w, i32_w]; rw [c38b0]) | skip)
               have H' := Aside0.mk H
               clear H; have hnb52 := NB508_502.out; have hnc52 := NB502_508.out; have hnb53 := NB508_510.out; have hnc53 := NB510_508.out
               obtain ⟨_, _, _, _⟩ := be_2 BK508.out
               have hnb55 := NB502_510.out; have hnc55 := NB510_502.out
               obtain ⟨_, _, _, _⟩ := be_2 BK502.out
               go_wp2
               go_meet
               case rel => exact ⟨_, (false), (by first | rfl | (simp; done) | (simp [*]; done)), H', ⟨by have := HK1.out; have := HK2.out; first | omega | exact Nat.le_refl _⟩, ⟨by (with_reducible repeat (first | refine blk_drewN ?_ _ | refine blk_drew ?_ | refine blk_alloc ?_ _)); refine blk_far ?_ NB502_510.out _; (with_reducible repeat (first | refine blk_drewN ?_ _ | refine blk_drew ?_ | refine blk_alloc ?_ _)); refine blk_far ?_ NB502_510.out _; (with_reducible repeat (first | refine blk_drewN ?_ _ | refine blk_drew ?_ | refine blk_alloc ?_ _)); exact BK502.out⟩, ⟨by (with_reducible repeat (first | refine blk_drewN ?_ _ | refine blk_drew ?_ | refine blk_alloc ?_ _)); refine blk_far ?_ NB508_510.out _; (with_reducible repeat (first | refine blk_drewN ?_ _ | refine blk_drew ?_ | refine blk_alloc ?_ _)); refine blk_far ?_ NB508_510.out _; (with_reducible repeat (first | refine blk_drewN ?_ _ | refine blk_drew ?_ | refine blk_alloc ?_ _)); exact BK508.out⟩, ⟨by (with_reducible repeat (first | refine blk_drewN ?_ _ | refine blk_drew ?_ | refine blk_alloc ?_ _)); refine blk_put (cs := #[.int .i64 ((rd_T52 l0 (ji25)).f0), .int .i64 0]) ?_ 1 _ rfl; (with_reducible repeat (first | refine blk_drewN ?_ _ | refine blk_drew ?_ | refine blk_alloc ?_ _)); refine blk_put (cs := #[.int .i64 0, .int .i64 0]) ?_ 0 _ rfl; (with_reducible repeat (first | refine blk_drewN ?_ _ | refine blk_drew ?_ | refine blk_alloc ?_ _)); exact BK510.out⟩, ⟨by repeat (first | (with_reducible first | exact HB.out | apply below_alloc | apply pw_below_drewN | apply below_drew1 | refine below_set ?_ GE502.out | refine below_set ?_ GE508.out | refine below_set ?_ GE510.out) | exact HB.out)⟩⟩
             case rest =>
              clear HC28; try clear c1
              try clear c2
              try clear p2
              try clear c3
              try clear c4
              try clear c5
              try clear p5
              try clear q5
              try clear hx5
              try clear p6
              try clear c8
              try clear c8b0
              try clear c9
              try clear c9b0
              try clear c10
              try clear c10b0
              try clear c12
              try clear c14
              try clear c15
              try clear c18
              try clear c21
              try clear c21b0
              try clear c22
              try clear c22b0
              try clear c23
              try clear c23b0
              try clear c24
              try clear c24b0
              try clear c24b1
              try clear c24b2
              try clear c26
              try clear c26b0
              try clear c27
              try clear c27b0
              try clear c30
              try clear c33
              try clear c34
              try clear c38
              try clear c38b0
              try clear c39
              try clear c39b0
              try clear c40
              try clear c41
              try clear c43
              try clear c46
              try clear c47
              try clear c49
              try clear p50
              try clear q50
              try clear hx50
              try clear c52
              try clear c53
              try clear c55
              try clear hcz15_0
              try clear hcz15_1
              try clear hcz19_0
              try clear hcz19_1
              try clear hcz31_0
              try clear hcz31_1
              try clear hcz35_0
              try clear hcz35_1
              try clear hcz36_0
              try clear hcz36_1
              try clear hcz37_0
              try clear hcz37_1
              try clear hcz42_0
              try clear hcz42_1
              try clear hcz44_0
              try clear hcz44_1
              try clear hcz45_0
              try clear hcz45_1
              try clear hcz48_0
              try clear hcz48_1
              try clear hcz50_0
              try clear hcz50_1
              try clear hcz51_0
              try clear hcz51_1
              try clear hcz54_0
              try clear hcz54_1
              try clear hcz56_0
              try clear hcz56_1
              try clear hcz6_0
              try clear hcz6_1
              try clear hfz15_0
              try clear hfz15_1
              try clear hfz19_0
              try clear hfz19_1
              try clear hfz31_0
              try clear hfz31_1
              try clear hfz35_0
              try clear hfz35_1
              try clear hfz36_0
              try clear hfz36_1
              try clear hfz37_0
              try clear hfz37_1
              try clear hfz42_0
              try clear hfz42_1
              try clear hfz44_0
              try clear hfz44_1
              try clear hfz45_0
              try clear hfz45_1
              try clear hfz48_0
              try clear hfz48_1
              try clear hfz50_0
              try clear hfz50_1
              try clear hfz51_0
              try clear hfz51_1
              try clear hfz54_0
              try clear hfz54_1
              try clear hfz56_0
              try clear hfz56_1
              try clear hfz6_0
              try clear hfz6_1
              try clear hx504_0
              try clear hx504_1
              try clear hx507_0
              try clear hx507_1
              try clear hx509_0
              try clear hx509_1
              try clear p2
              try clear p5
              try clear p504
              try clear p507
              try clear p509
              try clear p6
              try clear q5
              try clear q504
              try clear q507
              try clear q509
              obtain ⟨kq, x63_27, rfl, HA, HJ27, BK502, BK508, BK510, HB⟩ := hcut
              cases kq with
              | zero => exact absurd HA.out (by simp [impl_WindOf.j2])
              | succ kj27 =>
               have H := HA.out; clear HA
               simp only [impl_WindOf.j2] at H
               by_cases c57 : x63_27 = true
               ·subst c57
                have H1 : (impl_WindOf.l1 kj27 l0 (wrap64 (x7_2 + 1)) l0 (l0.length : Int) (wrap64 (x27_2 + 1)) a1_0 a1_1) = some r := by rw [if_pos rfl] at H; exact H
                clear H; have H := H1; clear H1
                have H' := Aside0.mk H
                clear H
                go_wp2
                go_roundg kj27
                case measure => have := HK1.out; have := HK2.out; have := HJ27.out; omega
                case rel => exact ⟨(wrap64 (x7_2 + 1)), (wrap64 (x27_2 + 1)), (by first | rfl | (simp; done) | (simp [*]; done)), (by first | rfl | (simp; done) | (simp [*]; done)), H', ⟨by have := HK1.out; have := HK2.out; have := HJ27.out; omega⟩, ⟨by (with_reducible repeat (first | refine blk_drewN ?_ _ | refine blk_drew ?_ | refine blk_alloc ?_ _)); exact BK502.out⟩, ⟨by repeat (first | (with_reducible first | exact HB.out | apply below_alloc | apply pw_below_drewN | apply below_drew1 | refine below_set ?_ GE502.out | refine below_set ?_ GE508.out | refine below_set ?_ GE510.out) | exact HB.out)⟩⟩
               ·replace c57 := Bool.eq_false_iff.mpr c57
                subst c57
                have H1 : (if ((rd_T52 l0 (ji25)).f1) ≤ a1_1 then (if a1_1 < ((rd_T52 l0 x27_2).f1) then (if (wrap64 ((wrap64 ((wrap64 (((rd_T52 l0 (ji25)).f0) - ((rd_T52 l0 x27_2).f0))) * (wrap64 (a1_1 - ((rd_T52 l0 x27_2).f1))))) - (wrap64 ((wrap64 (a1_0 - ((rd_T52 l0 x27_2).f0))) * (wrap64 (((rd_T52 l0 (ji25)).f1) - ((rd_T52 l0 x27_2).f1))))))) < 0 then (impl_WindOf.l1 kj27 l0 (wrap64 (x7_2 - 1)) l0 (l0.length : Int) (wrap64 (x27_2 + 1)) a1_0 a1_1) else (impl_WindOf.l1 kj27 l0 x7_2 l0 (l0.length : Int) (wrap64 (x27_2 + 1)) a1_0 a1_1)) else (impl_WindOf.l1 kj27 l0 x7_2 l0 (l0.length : Int) (wrap64 (x27_2 + 1)) a1_0 a1_1)) else (impl_WindOf.l1 kj27 l0 x7_2 l0 (l0.length : Int) (wrap64 (x27_2 + 1)) a1_0 a1_1)) = some r := by rw [if_neg (show ¬ (false = true) by decide)] at H; exact H
                clear H; have H := H1; clear H1
                by_cases c58 : ((rd_T52 l0 (ji25)).f1) ≤ a1_1
                ·rw [if_pos c58] at H
                 have c58b0 : decide (((rd_T52 l0 (ji25)).f1) ≤ a1_1) = true := decide_eq_true c58
                 clear c58
                 by_cases c59 : a1_1 < ((rd_T52 l0 x27_2).f1)
                 ·rw [if_pos c59] at H
                  have c59b0 : decide (a1_1 < ((rd_T52 l0 x27_2).f1)) = true := decide_eq_true c59
                  clear c59
                  by_cases c60 : (wrap64 ((wrap64 ((wrap64 (((rd_T52 l0 (ji25)).f0) - ((rd_T52 l0 x27_2).f0))) * (wrap64 (a1_1 - ((rd_T52 l0 x27_2).f1))))) - (wrap64 ((wrap64 (a1_0 - ((rd_T52 l0 x27_2).f0))) * (wrap64 (((rd_T52 l0 (ji25)).f1) - ((rd_T52 l0 x27_2).f1))))))) < 0
                  ·rw [if_pos c60] at H
                   have c60b0 : decide ((wrap64 ((wrap64 ((wrap64 (((rd_T52 l0 (ji25)).f0) - ((rd_T52 l0 x27_2).f0))) * (wrap64 (a1_1 - ((rd_T52 l0 x27_2).f1))))) - (wrap64 ((wrap64 (a1_0 - ((rd_T52 l0 x27_2).f0))) * (wrap64 (((rd_T52 l0 (ji25)).f1) - ((rd_T52 l0 x27_2).f1))))))) < 0) = true := decide_eq_true c60
                   clear c60
                   have H' := Aside0.mk H
                   clear H; have hnb61 := NB510_502.out; have hnc61 := NB502_510.out; have hnb62 := NB510_508.out; have hnc62 := NB508_510.out
                   obtain ⟨_, _, _, _⟩ := be_2 BK510.out
                   have hnb64 := NB502_508.out; have hnc64 := NB508_502.out
                   obtain ⟨_, _, _, _⟩ := be_2 BK502.out
                   obtain ⟨_, _, _, _⟩ := be_2 BK508.out
                   go_wp2
                   go_roundg kj27
                   case measure => have := HK1.out; have := HK2.out; have := HJ27.out; omega
                   case rel => exact ⟨(wrap64 (x7_2 - 1)), (wrap64 (x27_2 + 1)), (by first | rfl | (simp; done) | (simp [*]; done)), (by first | rfl | (simp; done) | (simp [*]; done)), H', ⟨by have := HK1.out; have := HK2.out; have := HJ27.out; omega⟩, ⟨by (with_reducible repeat (first | refine blk_drewN ?_ _ | refine blk_drew ?_ | refine blk_alloc ?_ _)); exact BK502.out⟩, ⟨by repeat (first | (with_reducible first | exact HB.out | apply below_alloc | apply pw_below_drewN | apply below_drew1 | refine below_set ?_ GE502.out | refine below_set ?_ GE508.out | refine below_set ?_ GE510.out) | exact HB.out)⟩⟩
                  ·rw [if_neg c60] at H
                   have c60b0 : decide ((wrap64 ((wrap64 ((wrap64 (((rd_T52 l0 (ji25)).f0) - ((rd_T52 l0 x27_2).f0))) * (wrap64 (a1_1 - ((rd_T52 l0 x27_2).f1))))) - (wrap64 ((wrap64 (a1_0 - ((rd_T52 l0 x27_2).f0))) * (wrap64 (((rd_T52 l0 (ji25)).f1) - ((rd_T52 l0 x27_2).f1))))))) < 0) = false := decide_eq_false c60
                   clear c60
                   have H' := Aside0.mk H
                   clear H; have hnb67 := NB510_502.out; have hnc67 := NB502_510.out; have hnb68 := NB510_508.out; have hnc68 := NB508_510.out
                   obtain ⟨_, _, _, _⟩ := be_2 BK510.out
                   have hnb70 := NB502_508.out; have hnc70 := NB508_502.out
                   obtain ⟨_, _, _, _⟩ := be_2 BK502.out
                   obtain ⟨_, _, _, _⟩ := be_2 BK508.out
                   go_wp2
                   go_roundg kj27
                   case measure => have := HK1.out; have := HK2.out; have := HJ27.out; omega
                   case rel => exact ⟨(x7_2), (wrap64 (x27_2 + 1)), (by first | rfl | (simp; done) | (simp [*]; done)), (by first | rfl | (simp; done) | (simp [*]; done)), H', ⟨by have := HK1.out; have := HK2.out; have := HJ27.out; omega⟩, ⟨by (with_reducible repeat (first | refine blk_drewN ?_ _ | refine blk_drew ?_ | refine blk_alloc ?_ _)); exact BK502.out⟩, ⟨by repeat (first | (with_reducible first | exact HB.out | apply below_alloc | apply pw_below_drewN | apply below_drew1 | refine below_set ?_ GE502.out | refine below_set ?_ GE508.out | refine below_set ?_ GE510.out) | exact HB.out)⟩⟩
                 ·rw [if_neg c59] at H
                  have c59b0 : decide (a1_1 < ((rd_T52 l0 x27_2).f1)) = false := decide_eq_false c59
                  clear c59
                  have H' := Aside0.mk H
                  clear H; have hnb73 := NB510_502.out; have hnc73 := NB502_510.out; have hnb74 := NB510_508.out; have hnc74 := NB508_510.out
                  obtain ⟨_, _, _, _⟩ := be_2 BK510.out
                  have hnb76 := NB502_508.out; have hnc76 := NB508_502.out
                  obtain ⟨_, _, _, _⟩ := be_2 BK502.out
                  obtain ⟨_, _, _, _⟩ := be_2 BK508.out
                  go_wp2
                  go_roundg kj27
                  case measure => have := HK1.out; have := HK2.out; have := HJ27.out; omega
                  case rel => exact ⟨(x7_2), (wrap64 (x27_2 + 1)), (by first | rfl | (simp; done) | (simp [*]; done)), (by first | rfl | (simp; done) | (simp [*]; done)), H', ⟨by have := HK1.out; have := HK2.out; have := HJ27.out; omega⟩, ⟨by (with_reducible repeat (first | refine blk_drewN ?_ _ | refine blk_drew ?_ | refine blk_alloc ?_ _)); exact BK502.out⟩, ⟨by repeat (first | (with_reducible first | exact HB.out | apply below_alloc | apply pw_below_drewN | apply below_drew1 | refine below_set ?_ GE502.out | refine below_set ?_ GE508.out | refine below_set ?_ GE510.out) | exact HB.out)⟩⟩
                ·rw [if_neg c58] at H
                 have c58b0 : decide (((rd_T52 l0 (ji25)).f1) ≤ a1_1) = false := decide_eq_false c58
                 clear c58
                 have H' := Aside0.mk H
                 clear H; have hnb79 := NB510_502.out; have hnc79 := NB502_510.out; have hnb80 := NB510_508.out; have hnc80 := NB508_510.out
                 obtain ⟨_, _, _, _⟩ := be_2 BK510.out
                 have hnb82 := NB502_508.out; have hnc82 := NB508_502.out
                 obtain ⟨_, _, _, _⟩ := be_2 BK502.out
                 go_wp2
                 go_roundg kj27
                 case measure => have := HK1.out; have := HK2.out; have := HJ27.out; omega
                 case rel => exact ⟨(x7_2), (wrap64 (x27_2 + 1)), (by first | rfl | (simp; done) | (simp [*]; done)), (by first | rfl | (simp; done) | (simp [*]; done)), H', ⟨by have := HK1.out; have := HK2.out; have := HJ27.out; omega⟩, ⟨by (with_reducible repeat (first | refine blk_drewN ?_ _ | refine blk_drew ?_ | refine blk_alloc ?_ _)); exact BK502.out⟩, ⟨by repeat (first | (with_reducible first | exact HB.out | apply below_alloc | apply pw_below_drewN | apply below_drew1 | refine below_set ?_ GE502.out | refine below_set ?_ GE508.out | refine below_set ?_ GE510.out) | exact HB.out)⟩⟩
            ·rw [if_neg c27] at H
             exact absurd H (by simp)
           ·rw [if_neg c26] at H
            exact absurd H (by simp)
         ·rw [if_neg c23] at H
          exact absurd H (by simp)
        ·rw [if_neg c22] at H
         exact absurd H (by simp)
       ·rw [if_neg c21] at H
        have c21b0 : decide (x27_2 < (l0.length : Int)) = false := decide_eq_false c21
        clear c21
        obtain rfl := Option.some.inj H
        simp only [Option.some.injEq, Prod.mk.injEq] at H
        obtain ⟨rfl⟩ := H
        go_wp2
        go_ret
        exact ⟨z14_9, z14_0⟩
 ·replace c4 := Bool.eq_false_iff.mpr c4
  subst c4
  have H1 : (some 0) = some r := by rw [if_neg (show ¬ (false = true) by decide)] at H; exact H
  clear H; have H := H1; clear H1
  obtain rfl := Option.some.inj H
  simp only [Option.some.injEq, Prod.mk.injEq] at H
  obtain ⟨rfl⟩ := H
  go_enter Try.func150, Try.ntmps150
  go_wp2_with (first | ((with_reducible refine gate_dst (N := 3) rfl ?_); refine boxz (cs := #[.int .i64 a1_0, .int .i64 a1_1]) (t := 52) rfl ?_; intro gb502 hg w84 hbox hb; have n0_ := Aside0.mk (below_step z14_2 hb); have n1_ := Aside0.mk (hbox); have n2_ := Aside0.mk (ge_go (a := w.heap.size) hg (below_size z14_2)); have n3_ := Aside0.mk (ge_go (a := w.heap.size) hg (below_size z14_2)); clear HB; have HB := n0_; have BK502 := n1_; have GW502 := n2_; have GE502 := n3_; clear n0_ n1_ n2_ n3_; clear hb hbox hg; obtain ⟨_, _, _, _⟩ := be_2 BK502.out) | ((with_reducible refine gate_callee (f := 153) rfl ?_); refine goesL_ (some 13) rfl rfl Try.func153 (by kernel_rfl) rfl #[.agg #[.int .i64 a1_0, .int .i64 a1_1]] rfl z14_4 ?_; (with_reducible refine (impl_isNear.calls a1_0 a1_1 false _ A3.out).mono ?_); rintro e w86 ⟨rfl, hb⟩; refine ⟨_, rfl, ?_⟩; have n0_ := Aside0.mk (blk_belowB BK502 z14_1 hb); have n1_ := Aside0.mk (below_step z14_0 hb); clear BK502; clear HB; have BK502 := n0_; have HB := n1_; clear n0_ n1_; (try clear hb)))
  go_ret
  exact ⟨z14_9, z14_0⟩

/-! ### impl_Covers: function 141 -/
def impl_Covers.l0 : Nat → Bool → Int → List (List (S52)) → Int → Int → Int → Int → Option (Bool)
 | 0, _, _, _, _, _, _, _ => none
 | k + 1, x1, x7, x10, x11, x12, x512000, x512001 => if x12 < x11 then (if 0 ≤ x12 then (if x12 < (x10.length : Int) then ((impl_WindOf.f k (rd_L3 x10 x12) x512000 x512001).bind fun t513 => (impl_Covers.l0 k x1 (wrap64 (x7 + t513)) x10 x11 (wrap64 (x12 + 1)) x512000 x512001)) else (none)) else (none)) else (if x1 = true then (some ((Int.tmod x7 2) != 0)) else (some (x7 != 0)))
def impl_Covers.f (k : Nat) (l0 : List (List (S52))) (a1 : Bool) (a2_0 : Int) (a2_1 : Int) : Option (Bool) := impl_Covers.l0 k a1 0 l0 (l0.length : Int) 0 a2_0 a2_1
theorem impl_Covers.mono_l : ∀ k, (∀ y0 y1 y2 y3 y4 y5 y6, LeO (impl_Covers.l0 k y0 y1 y2 y3 y4 y5 y6) (impl_Covers.l0 (k + 1) y0 y1 y2 y3 y4 y5 y6))
 | 0 => fun _ _ _ _ _ _ _ r h => by simp [impl_Covers.l0] at h
 | k + 1 => by
  have ih0 := impl_Covers.mono_l k
  ·intro y0 y1 y2 y3 y4 y5 y6
   unfold impl_Covers.l0
   repeat' first
   | (with_reducible exact ih0 _ _ _ _ _ _ _)
   | (with_reducible exact impl_WindOf.mono _ _ _ _)
   | (with_reducible exact LeO.refl _)
   | (with_reducible exact LeO.none _)
   | (with_reducible refine LeO.ite ?_ ?_)
   | (with_reducible refine LeO.bind ?_ (fun _ => ?_))
   | exact ih0 _ _ _ _ _ _ _
   | exact impl_WindOf.mono _ _ _ _
   | exact LeO.none _
   | refine LeO.ite ?_ ?_
   | refine LeO.bind ?_ (fun _ => ?_)
theorem impl_Covers.mono : ∀ a0 a1 a2 a3 k, LeO (impl_Covers.f k a0 a1 a2 a3) (impl_Covers.f (k + 1) a0 a1 a2 a3) := by
 intro a0 a1 a2 a3 k
 have ih0 := impl_Covers.mono_l k
 unfold impl_Covers.f
 repeat' first
   | (with_reducible exact ih0 _ _ _ _ _ _ _)
   | (with_reducible exact impl_WindOf.mono _ _ _ _)
   | (with_reducible exact LeO.refl _)
   | (with_reducible exact LeO.none _)
   | (with_reducible refine LeO.ite ?_ ?_)
   | (with_reducible refine LeO.bind ?_ (fun _ => ?_))
   | exact ih0 _ _ _ _ _ _ _
   | exact impl_WindOf.mono _ _ _ _
   | exact LeO.none _
   | refine LeO.ite ?_ ?_
   | refine LeO.bind ?_ (fun _ => ?_)
set_option maxHeartbeats 8000000 in
set_option maxRecDepth 100000 in
theorem impl_Covers.calls (k : Nat) (A0 : Option Addr) (c0 : Nat) (l0 : List (List (S52))) (a1 : Bool) (a2_0 : Int) (a2_1 : Int) (r : Bool) (w : World) (hr0 : Kd.C (Kd.slice 52 k52) w A0 l0.length l0) (hc0 : l0.length ≤ c0) (h : impl_Covers.f k l0 a1 a2_0 a2_1 = some r) :
  Calls Try.prog 141 #[.slice A0 l0.length c0, .bool a1, .agg #[.int .i64 a2_0, .int .i64 a2_1]] w fun e w' => e = .returned (.bool r) ∧ Below w.heap.size w w' := by
 have hu52 := Try.underlying52
 have HR0 := Aside0.mk hr0
 have HC0 := Aside0.mk hc0
 clear hr0 hc0
 have HB := Aside0.mk (Below.refl w.heap.size w)
 have H : (impl_Covers.l0 k a1 0 l0 (l0.length : Int) 0 a2_0 a2_1) = some r := h
 clear h
 have H' := Aside0.mk H
 clear H
 go_enter Try.func141, Try.ntmps141
 go_wp2_with (first | ((with_reducible refine gate_dst (N := 5) rfl ?_); refine boxz (cs := #[.int .i64 a2_0, .int .i64 a2_1]) (t := 52) rfl ?_; intro gb511 hg w4 hbox hb; have n0_ := Aside0.mk (below_step z14_2 hb); have n1_ := Aside0.mk (hbox); have n2_ := Aside0.mk (ge_go (a := w.heap.size) hg (below_size z14_2)); have n3_ := Aside0.mk (ge_go (a := w.heap.size) hg (below_size z14_2)); clear HB; have HB := n0_; have BK511 := n1_; have GW511 := n2_; have GE511 := n3_; clear n0_ n1_ n2_ n3_; clear hb hbox hg))
 go_loopg [7, 12] k (fun kq v7 v12 w' => ∃ (x7_1 : Int) (x12_1 : Int), v7 = .int .i64 x7_1 ∧ v12 = .int .i64 x12_1 ∧ Aside0 (impl_Covers.l0 kq a1 x7_1 l0 (l0.length : Int) x12_1 a2_0 a2_1 = some r) ∧ Aside0 (kq ≤ k) ∧ Aside0 (w'.heap[gb511]? = some (.cells #[.int .i64 a2_0, .int .i64 a2_1] 52 (0, 0))) ∧ Aside0 (Below w.heap.size w w'))
 case atStart => exact ⟨(0), (0), (by first | rfl | (simp; done) | (simp [*]; done)), (by first | rfl | (simp; done) | (simp [*]; done)), H', ⟨Nat.le_refl _⟩, ⟨by (with_reducible repeat (first | refine blk_drewN ?_ _ | refine blk_drew ?_ | refine blk_alloc ?_ _)); exact BK511.out⟩, ⟨by repeat (first | (with_reducible first | exact HB.out | apply below_alloc | apply pw_below_drewN | apply below_drew1 | refine below_set ?_ GE511.out) | exact HB.out)⟩⟩
 case round =>
  clear H'
  try clear c1
  try clear p2
  obtain ⟨x7_1, x12_1, rfl, rfl, HA, HK1, BK511, HB⟩ := hrel
  cases gk with
  | zero => exact absurd HA.out (by simp [impl_Covers.l0])
  | succ k1 =>
   have H := HA.out; clear HA
   simp only [impl_Covers.l0] at H
   by_cases c5 : x12_1 < (l0.length : Int)
   ·rw [if_pos c5] at H
    have c5b0 : decide (x12_1 < (l0.length : Int)) = true := decide_eq_true c5
    clear c5
    by_cases c6 : 0 ≤ x12_1
    ·rw [if_pos c6] at H
     have c6b0 : decide (0 ≤ x12_1) = true := decide_eq_true c6
     clear c6
     by_cases c7 : x12_1 < (l0.length : Int)
     ·rw [if_pos c7] at H
      have c7b0 : decide (x12_1 < (l0.length : Int)) = true := decide_eq_true c7
      clear c7
      replace H := Option.bind_eq_some_iff.mp H
      obtain ⟨t513, A80, H⟩ := H
      try dsimp only at H
      have A8 := Aside0.mk A80
      clear A80
      have H' := Aside0.mk H
      clear H
      have p512 : 0 ≤ (x12_1 : Int) := of_decide_eq_true (by first | (with_reducible assumption) | assumption)
      have q512 : x12_1 < (l0.length : Int) := of_decide_eq_true (by first | (with_reducible assumption) | assumption)
      obtain ⟨ad512, A512_0, c512_0, e512, hx512_0, hl512_0, hi512_0⟩ := at_L3 HR0.out x12_1 p512 q512
      cases e512
      replace hx512_0 := cell_go HB hx512_0
      have HR512_0 := Aside0.mk hi512_0
      have HC512_0 := Aside0.mk hl512_0
      clear hi512_0 hl512_0
      replace p512 := eq_true p512
      replace q512 := eq_true q512
      obtain ⟨_, _, _, _⟩ := be_2 BK511.out
      go_wp2_with (first | ((with_reducible refine gate_callee (f := 150) rfl ?_); refine goesL_ (some 19) rfl rfl Try.func150 (by kernel_rfl) rfl #[.slice A512_0 (rd_L3 l0 x12_1).length c512_0, .agg #[.int .i64 a2_0, .int .i64 a2_1]] rfl z14_4 ?_; (with_reducible refine (impl_WindOf.calls k1 _ _ (rd_L3 l0 x12_1) a2_0 a2_1 t513 _ ?side1 ?side2 A8.out).mono ?_); (case side1 => repeat (first | exact (Kd.C_below HR512_0.out HB.out) | (with_reducible refine Kd.C_alloc ?_ _) | (with_reducible refine Kd.C_drewN ?_ _) | (with_reducible refine Kd.C_drew ?_))); (case side2 => exact HC512_0.out); rintro e w10 ⟨rfl, hb⟩; refine ⟨_, rfl, ?_⟩; have n0_ := Aside0.mk (blk_belowB BK511 (by (with_reducible repeat (first | refine blk_drewN ?_ _ | refine blk_drew ?_ | refine blk_alloc ?_ _)); exact BK511.out) hb); have n1_ := Aside0.mk (below_step z14_10 hb); clear BK511; clear HB; have BK511 := n0_; have HB := n1_; clear n0_ n1_; (try clear hb)))
      go_roundg k1
      case measure => have := HK1.out; omega
      case rel => exact ⟨(wrap64 (x7_1 + t513)), (wrap64 (x12_1 + 1)), (by first | rfl | (simp; done) | (simp [*]; done)), (by first | rfl | (simp; done) | (simp [*]; done)), H', ⟨by have := HK1.out; omega⟩, ⟨by (with_reducible repeat (first | refine blk_drewN ?_ _ | refine blk_drew ?_ | refine blk_alloc ?_ _)); exact BK511.out⟩, ⟨by repeat (first | (with_reducible first | exact HB.out | apply below_alloc | apply pw_below_drewN | apply below_drew1 | refine below_set ?_ GE511.out) | exact HB.out)⟩⟩
     ·rw [if_neg c7] at H
      exact absurd H (by simp)
    ·rw [if_neg c6] at H
     exact absurd H (by simp)
   ·rw [if_neg c5] at H
    have c5b0 : decide (x12_1 < (l0.length : Int)) = false := decide_eq_false c5
    clear c5
    by_cases c11 : a1 = true
    ·subst c11
     have H1 : (some ((Int.tmod x7_1 2) != 0)) = some r := by rw [if_pos rfl] at H; exact H
     clear H; have H := H1; clear H1
     obtain rfl := Option.some.inj H
     simp only [Option.some.injEq, Prod.mk.injEq] at H
     obtain ⟨rfl⟩ := H
     go_wp2
     go_ret
     exact ⟨z14_9, z14_10⟩
    ·replace c11 := Bool.eq_false_iff.mpr c11
     subst c11
     have H1 : (some (x7_1 != 0)) = some r := by rw [if_neg (show ¬ (false = true) by decide)] at H; exact H
     clear H; have H := H1; clear H1
     obtain rfl := Option.some.inj H
     simp only [Option.some.injEq, Prod.mk.injEq] at H
     obtain ⟨rfl⟩ := H
     go_wp2
     go_ret
     exact ⟨z14_9, z14_10⟩

end Go.Proofs.Ytghbenapnhcllaa.MFnMaskOf
