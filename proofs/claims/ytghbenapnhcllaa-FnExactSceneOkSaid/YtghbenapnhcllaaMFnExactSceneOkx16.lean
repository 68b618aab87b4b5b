/- Functions of the program as Lean functions, and the proof that a call comes to just these: machine text of this session's own program (myprint.py). -/
import Derived.Test.YtghbenapnhcllaaMFnExactSceneOkx0
namespace Go.Proofs.Ytghbenapnhcllaa.MFnExactSceneOk
open Go.RowKit Go.Proofs.YtghbenapnhcllaaW.PrintWords Go.Proofs.YtghbenapnhcllaaW.PrintLast Go.Proofs.YtghbenapnhcllaaW.PrintMore
attribute [local go_sem] max2_int min2_int max_two min_two max_three min_three max_four min_four   -- for this text's walks alone
set_option linter.unusedVariables false
set_option linter.unusedSimpArgs false

theorem z16_0 {P : Prop} (h : P := by repeat (first | (with_reducible first | exact HB.out | apply below_alloc | apply pw_below_drewN | apply below_drew1) | exact HB.out)) : P := h
theorem z16_1 {P : Prop} (h : P := by repeat (first | (with_reducible first | exact HB.out | apply below_alloc | apply pw_below_drewN | apply below_drew1 | refine below_set ?_ GE398.out) | exact HB.out)) : P := h
theorem z16_2 {P : Prop} (h : P := by first | rfl | (simp [errW_none, errW_some] <;> rfl) | (simp [*, errW_none, errW_some] <;> rfl)) : P := h
theorem z16_3 {P : Prop} (h : P := by (try simp only [List.map_toArray, List.map_cons, List.map_nil]); first | done | rfl | (simp only [List.length_drop, List.length_take]; rfl)) : P := h
theorem z16_4 {P : Prop} (h : P := by repeat (first | (with_reducible first | exact HB.out | apply below_alloc | apply pw_below_drewN | apply below_drew1 | refine below_set ?_ GE0.out) | exact HB.out)) : P := h
theorem z16_5 {P : Prop} (h : P := by repeat (first | exact (Kd.C_below HR0_0.out HB.out) | (with_reducible refine Kd.C_alloc ?_ _) | (with_reducible refine Kd.C_drewN ?_ _) | (with_reducible refine Kd.C_drew ?_))) : P := h
theorem z16_6 {P : Prop} (h : P := by repeat (first | (with_reducible first | exact HB.out | apply below_alloc | apply pw_below_drewN | apply below_drew1 | refine below_set ?_ GE2.out) | exact HB.out)) : P := h
theorem z16_7 {P : Prop} (h : P := by (with_reducible repeat (first | refine blk_drewN ?_ _ | refine blk_drew ?_ | refine blk_alloc ?_ _)); exact BK393.out) : P := h
theorem z16_8 {P : Prop} (h : P := by repeat (first | (with_reducible first | exact HB.out | apply below_alloc | apply pw_below_drewN | apply below_drew1 | refine below_set ?_ GE393.out) | exact HB.out)) : P := h
theorem z16_9 {P : Prop} (h : P := by repeat (first | (with_reducible first | exact HB.out | apply below_alloc | apply pw_below_drewN | apply below_drew1 | refine below_set ?_ GE1.out) | exact HB.out)) : P := h
theorem z16_10 {P : Prop} (h : P := by repeat (first | exact HR0_0.out | (with_reducible refine Kd.C_alloc ?_ _) | (with_reducible refine Kd.C_drewN ?_ _) | (with_reducible refine Kd.C_drew ?_))) : P := h
theorem z16_11 {P : Prop} (h : P := by (with_reducible repeat (first | refine blk_drewN ?_ _ | refine blk_drew ?_ | refine blk_alloc ?_ _)); exact BK398.out) : P := h
theorem z16_12 {P : Prop} (h : P := by (with_reducible repeat (first | refine blk_drewN ?_ _ | refine blk_drew ?_ | refine blk_alloc ?_ _)); exact BK1.out) : P := h
theorem z16_13 {P : Prop} (h : P := by (with_reducible repeat (first | refine blk_drewN ?_ _ | refine blk_drew ?_ | refine blk_alloc ?_ _)); exact BK0.out) : P := h
theorem z16_14 {P : Prop} (h : P := by repeat (first | (with_reducible first | exact HB.out | apply below_alloc | apply pw_below_drewN | apply below_drew1 | refine below_set ?_ GE393.out | refine below_set ?_ GE394.out) | exact HB.out)) : P := h
theorem z16_15 {P : Prop} (h : P := by repeat (first | exact (Kd.C_below HR391_10.out HB.out) | (with_reducible refine Kd.C_alloc ?_ _) | (with_reducible refine Kd.C_drewN ?_ _) | (with_reducible refine Kd.C_drew ?_))) : P := h
theorem z16_16 {P : Prop} (h : P := by repeat (first | exact (Kd.C_below HR391_13.out HB.out) | (with_reducible refine Kd.C_alloc ?_ _) | (with_reducible refine Kd.C_drewN ?_ _) | (with_reducible refine Kd.C_drew ?_))) : P := h
theorem z16_17 {P : Prop} (h : P := by repeat (first | exact (Kd.C_below HR391_29.out HB.out) | (with_reducible refine Kd.C_alloc ?_ _) | (with_reducible refine Kd.C_drewN ?_ _) | (with_reducible refine Kd.C_drew ?_))) : P := h
theorem z16_18 {P : Prop} (h : P := by repeat (first | exact (Kd.C_below HR391_30.out HB.out) | (with_reducible refine Kd.C_alloc ?_ _) | (with_reducible refine Kd.C_drewN ?_ _) | (with_reducible refine Kd.C_drew ?_))) : P := h
theorem z16_19 {P : Prop} (h : P := by repeat (first | exact (Kd.C_below HR391_9.out HB.out) | (with_reducible refine Kd.C_alloc ?_ _) | (with_reducible refine Kd.C_drewN ?_ _) | (with_reducible refine Kd.C_drew ?_))) : P := h
theorem z16_20 {P : Prop} (h : P := by (with_reducible repeat (first | refine blk_drewN ?_ _ | refine blk_drew ?_ | refine blk_alloc ?_ _)); exact BK2.out) : P := h
/-! ### impl_NodeAt_1: function 144 -/
def impl_NodeAt_1.f (a0_0 : Int) (a0_1 : Int) (a0_2 : Bool) (a0_3 : Int) (a0_4 : Int) (a0_5 : Int) (a0_6 : Int) (a0_7 : Int) (a0_8 : Int) (l0_9 : List Int) (l0_10 : List (S52)) (a0_11 : Bool) (a0_12 : Int) (l0_13 : List Int) (a0_14 : Int) (a0_15 : Int) (a0_16 : Int) (a0_17 : Int) (a0_18 : Int) (a0_19 : Int) (a0_20 : Int) (a0_21 : Int) (a0_22 : Int) (a0_23 : Int) (a0_24 : Int) (a0_25 : Int) (a0_26 : Int) (a0_27 : Int) (a0_28 : Int) (l0_29 : List Int) (l0_30 : List (S52)) (a1 : Int) : Option (Bool) := some (a0_0 == a1)
set_option maxHeartbeats 8000000 in
set_option maxRecDepth 100000 in
theorem impl_NodeAt_1.calls (a0_0 : Int) (a0_1 : Int) (a0_2 : Bool) (a0_3 : Int) (a0_4 : Int) (a0_5 : Int) (a0_6 : Int) (a0_7 : Int) (a0_8 : Int) (A0_9 : Option Addr) (c0_9 : Nat) (l0_9 : List Int) (A0_10 : Option Addr) (c0_10 : Nat) (l0_10 : List (S52)) (a0_11 : Bool) (a0_12 : Int) (A0_13 : Option Addr) (c0_13 : Nat) (l0_13 : List Int) (a0_14 : Int) (a0_15 : Int) (a0_16 : Int) (a0_17 : Int) (a0_18 : Int) (a0_19 : Int) (a0_20 : Int) (a0_21 : Int) (a0_22 : Int) (a0_23 : Int) (a0_24 : Int) (a0_25 : Int) (a0_26 : Int) (a0_27 : Int) (a0_28 : Int) (A0_29 : Option Addr) (c0_29 : Nat) (l0_29 : List Int) (A0_30 : Option Addr) (c0_30 : Nat) (l0_30 : List (S52)) (g1 : Nat) (a1 : Int) (r : Bool) (w : World) (hr0_9 : Kd.C (Kd.int .i64) w A0_9 l0_9.length l0_9) (hc0_9 : l0_9.length ≤ c0_9) (hr0_10 : Kd.C k52 w A0_10 l0_10.length l0_10) (hc0_10 : l0_10.length ≤ c0_10) (hr0_13 : Kd.C (Kd.int .i64) w A0_13 l0_13.length l0_13) (hc0_13 : l0_13.length ≤ c0_13) (hr0_29 : Kd.C (Kd.int .i64) w A0_29 l0_29.length l0_29) (hc0_29 : l0_29.length ≤ c0_29) (hr0_30 : Kd.C k52 w A0_30 l0_30.length l0_30) (hc0_30 : l0_30.length ≤ c0_30) (hb1 : w.heap[g1]? = some (.cells #[.int .i64 a1] 3 (0, 0))) (h : impl_NodeAt_1.f a0_0 a0_1 a0_2 a0_3 a0_4 a0_5 a0_6 a0_7 a0_8 l0_9 l0_10 a0_11 a0_12 l0_13 a0_14 a0_15 a0_16 a0_17 a0_18 a0_19 a0_20 a0_21 a0_22 a0_23 a0_24 a0_25 a0_26 a0_27 a0_28 l0_29 l0_30 a1 = some r) :
  Calls Try.prog 144 #[.agg #[.int .i64 a0_0, .int .i64 a0_1, .bool a0_2, .int .i64 a0_3, .int .i64 a0_4, .int .i64 a0_5, .int .i64 a0_6, .int .i64 a0_7, .int .i64 a0_8, .slice A0_9 l0_9.length c0_9, .slice A0_10 l0_10.length c0_10, .bool a0_11, .int .i64 a0_12, .slice A0_13 l0_13.length c0_13, .int .i64 a0_14, .int .i64 a0_15, .int .i64 a0_16, .int .i64 a0_17, .int .i64 a0_18, .int .i64 a0_19, .int .i64 a0_20, .int .i64 a0_21, .int .i64 a0_22, .int .i64 a0_23, .int .i64 a0_24, .int .i64 a0_25, .int .i64 a0_26, .int .i64 a0_27, .int .i64 a0_28, .slice A0_29 l0_29.length c0_29, .slice A0_30 l0_30.length c0_30], .pointer (some ⟨g1, 0, none⟩)] w fun e w' => e = .returned (.bool r) ∧ Below w.heap.size w w' := by
 have hu56 := Try.underlying56
 have HR0_9 := Aside0.mk hr0_9
 have HC0_9 := Aside0.mk hc0_9
 clear hr0_9 hc0_9
 have HR0_10 := Aside0.mk hr0_10
 have HC0_10 := Aside0.mk hc0_10
 clear hr0_10 hc0_10
 have HR0_13 := Aside0.mk hr0_13
 have HC0_13 := Aside0.mk hc0_13
 clear hr0_13 hc0_13
 have HR0_29 := Aside0.mk hr0_29
 have HC0_29 := Aside0.mk hc0_29
 clear hr0_29 hc0_29
 have HR0_30 := Aside0.mk hr0_30
 have HC0_30 := Aside0.mk hc0_30
 clear hr0_30 hc0_30
 have BK1 := Aside0.mk hb1
 clear hb1
 have HB := Aside0.mk (Below.refl w.heap.size w)
 have H : (some (a0_0 == a1)) = some r := h
 clear h
 obtain rfl := Option.some.inj H
 simp only [Option.some.injEq, Prod.mk.injEq] at H
 obtain ⟨rfl⟩ := H
 go_enter Try.func144, Try.ntmps144
 go_wp2_with (first | ((with_reducible refine gate_dst (N := 2) rfl ?_); refine boxz (cs := #[.int .i64 a0_0, .int .i64 a0_1, .bool a0_2, .int .i64 a0_3, .int .i64 a0_4, .int .i64 a0_5, .int .i64 a0_6, .int .i64 a0_7, .int .i64 a0_8, .slice A0_9 l0_9.length c0_9, .slice A0_10 l0_10.length c0_10, .bool a0_11, .int .i64 a0_12, .slice A0_13 l0_13.length c0_13, .int .i64 a0_14, .int .i64 a0_15, .int .i64 a0_16, .int .i64 a0_17, .int .i64 a0_18, .int .i64 a0_19, .int .i64 a0_20, .int .i64 a0_21, .int .i64 a0_22, .int .i64 a0_23, .int .i64 a0_24, .int .i64 a0_25, .int .i64 a0_26, .int .i64 a0_27, .int .i64 a0_28, .slice A0_29 l0_29.length c0_29, .slice A0_30 l0_30.length c0_30]) (t := 56) rfl ?_; intro gb390 hg w3 hbox hb; have n0_ := Aside0.mk (blk_below (g := g1) (o := .cells #[.int .i64 a1] 3 (0, 0)) z16_12 hb); have n1_ := Aside0.mk (below_step z16_9 hb); have n2_ := Aside0.mk (hbox); have n3_ := Aside0.mk (ge_go (a := w.heap.size) hg (below_size z16_9)); have n4_ := Aside0.mk (ge_go (a := w.heap.size) hg (below_size z16_9)); have n5_ := Aside0.mk ((by rw [hg]; exact Nat.ne_of_lt (blk_lt (g := g1) (o := .cells #[.int .i64 a1] 3 (0, 0)) z16_12) : g1 ≠ gb390)); have n6_ := Aside0.mk ((by rw [hg]; exact Nat.ne_of_gt (blk_lt (g := g1) (o := .cells #[.int .i64 a1] 3 (0, 0)) z16_12) : gb390 ≠ g1)); clear BK1; clear HB; have BK1 := n0_; have HB := n1_; have BK390 := n2_; have GW390 := n3_; have GE390 := n4_; have NB1_390 := n5_; have NB390_1 := n6_; clear n0_ n1_ n2_ n3_ n4_ n5_ n6_; clear hb hbox hg; have hnb4 := NB390_1.out; have hnc4 := NB1_390.out; obtain ⟨_, _, _, _, _, _, _, _, _, _, _, _, _, _, _, _, _, _, _, _, _, _, _, _, _, _, _, _, _, _, _, _, _, _, _, _, _, _, _, _, _, _, _, _, _, _, _, _, _, _, _, _, _, _, _, _, _, _, _, _, _, _⟩ := be_31 BK390.out; have hcz6_0 : w3.cell? ⟨g1, 0, none⟩ = some (.int .i64 a1) := (blk_cell BK1.out 0).trans rfl; have hfz6_0 := blk_frozen BK1.out 0))
 go_ret
 exact ⟨z16_2, (by repeat (first | (with_reducible first | exact HB.out | apply below_alloc | apply pw_below_drewN | apply below_drew1 | refine below_set ?_ GE1.out | refine below_set ?_ GE390.out) | exact HB.out))⟩

/-! ### impl_Node_NodeAt_1: function 14500143 -/
def impl_Node_NodeAt_1.l0 : Nat → List (S56) → Int → Int → Int → Option (Int)
 | 0, _, _, _, _ => none
 | k + 1, x0, x7, x8, x3000 => if x8 < x7 then (if 0 ≤ x8 then (if x8 < (x0.length : Int) then ((impl_NodeAt_1.f ((rd_T56 x0 x8).f0) ((rd_T56 x0 x8).f1) ((rd_T56 x0 x8).f2) ((rd_T56 x0 x8).f3.f0) ((rd_T56 x0 x8).f3.f1) ((rd_T56 x0 x8).f3.f2) ((rd_T56 x0 x8).f3.f3) ((rd_T56 x0 x8).f3.f4) ((rd_T56 x0 x8).f3.f5) ((rd_T56 x0 x8).f4.f0) ((rd_T56 x0 x8).f4.f1) ((rd_T56 x0 x8).f5) ((rd_T56 x0 x8).f6) ((rd_T56 x0 x8).f7) ((rd_T56 x0 x8).f8.f0) ((rd_T56 x0 x8).f8.f1.f0) ((rd_T56 x0 x8).f8.f1.f1) ((rd_T56 x0 x8).f8.f1.f2) ((rd_T56 x0 x8).f8.f1.f3) ((rd_T56 x0 x8).f8.f2.f0) ((rd_T56 x0 x8).f8.f2.f1) ((rd_T56 x0 x8).f8.f2.f2) ((rd_T56 x0 x8).f8.f2.f3) ((rd_T56 x0 x8).f8.f3.f0) ((rd_T56 x0 x8).f8.f3.f1) ((rd_T56 x0 x8).f8.f4.f0) ((rd_T56 x0 x8).f8.f4.f1) ((rd_T56 x0 x8).f9) ((rd_T56 x0 x8).f10) ((rd_T56 x0 x8).f11.f0) ((rd_T56 x0 x8).f11.f1) x3000).bind fun t392 => (if t392 = true then (some x8) else (impl_Node_NodeAt_1.l0 k x0 x7 (wrap64 (x8 + 1)) x3000))) else (none)) else (none)) else (some (-1))
def impl_Node_NodeAt_1.f (k : Nat) (l0 : List (S56))  (a2 : Int) : Option (Int) := impl_Node_NodeAt_1.l0 k l0 (l0.length : Int) 0 a2
theorem impl_Node_NodeAt_1.mono_l : ∀ k, (∀ y0 y1 y2 y3, LeO (impl_Node_NodeAt_1.l0 k y0 y1 y2 y3) (impl_Node_NodeAt_1.l0 (k + 1) y0 y1 y2 y3))
 | 0 => fun _ _ _ _ r h => by simp [impl_Node_NodeAt_1.l0] at h
 | k + 1 => by
  have ih0 := impl_Node_NodeAt_1.mono_l k
  ·intro y0 y1 y2 y3
   unfold impl_Node_NodeAt_1.l0
   repeat' first
   | (with_reducible exact ih0 _ _ _ _)
   | (with_reducible exact LeO.refl _)
   | (with_reducible exact LeO.none _)
   | (with_reducible refine LeO.ite ?_ ?_)
   | (with_reducible refine LeO.bind ?_ (fun _ => ?_))
   | exact ih0 _ _ _ _
   | exact LeO.none _
   | refine LeO.ite ?_ ?_
   | refine LeO.bind ?_ (fun _ => ?_)
theorem impl_Node_NodeAt_1.mono : ∀ a0 a1 k, LeO (impl_Node_NodeAt_1.f k a0 a1) (impl_Node_NodeAt_1.f (k + 1) a0 a1) := by
 intro a0 a1 k
 have ih0 := impl_Node_NodeAt_1.mono_l k
 unfold impl_Node_NodeAt_1.f
 repeat' first
   | (with_reducible exact ih0 _ _ _ _)
   | (with_reducible exact LeO.refl _)
   | (with_reducible exact LeO.none _)
   | (with_reducible refine LeO.ite ?_ ?_)
   | (with_reducible refine LeO.bind ?_ (fun _ => ?_))
   | exact ih0 _ _ _ _
   | exact LeO.none _
   | refine LeO.ite ?_ ?_
   | refine LeO.bind ?_ (fun _ => ?_)
set_option maxHeartbeats 8000000 in
set_option maxRecDepth 100000 in
theorem impl_Node_NodeAt_1.calls (k : Nat) (A0 : Option Addr) (c0 : Nat) (l0 : List (S56))  (g2 : Nat) (a2 : Int) (r : Int) (w : World) (hr0 : Kd.C k56 w A0 l0.length l0) (hc0 : l0.length ≤ c0) (hb2 : w.heap[g2]? = some (.cells #[.int .i64 a2] 3 (0, 0))) (h : impl_Node_NodeAt_1.f k l0 a2 = some r) :
  Calls Try.prog 143 #[.slice A0 l0.length c0, .func (.func 144) #[] #[.pointer (some ⟨g2, 0, none⟩)]] w fun e w' => e = .returned (.int .i64 r) ∧ Below w.heap.size w w' := by
 have hu56 := Try.underlying56
 have HR0 := Aside0.mk hr0
 have HC0 := Aside0.mk hc0
 clear hr0 hc0
 have BK2 := Aside0.mk hb2
 clear hb2
 have HB := Aside0.mk (Below.refl w.heap.size w)
 have H : (impl_Node_NodeAt_1.l0 k l0 (l0.length : Int) 0 a2) = some r := h
 clear h
 have H' := Aside0.mk H
 clear H
 go_enter Try.func143, Try.ntmps143
 go_wp2
 go_loopg [8] k (fun kq v8 w' => ∃ (x8_1 : Int), v8 = .int .i64 x8_1 ∧ Aside0 (impl_Node_NodeAt_1.l0 kq l0 (l0.length : Int) x8_1 a2 = some r) ∧ Aside0 (kq ≤ k) ∧ Aside0 (w'.heap[g2]? = some (.cells #[.int .i64 a2] 3 (0, 0))) ∧ Aside0 (Below w.heap.size w w'))
 case atStart => exact ⟨(0), (by first | rfl | (simp; done) | (simp [*]; done)), H', ⟨Nat.le_refl _⟩, ⟨by (with_reducible repeat (first | refine blk_drewN ?_ _ | refine blk_drew ?_ | refine blk_alloc ?_ _)); exact BK2.out⟩, ⟨by repeat (first | (with_reducible first | exact HB.out | apply below_alloc | apply pw_below_drewN | apply below_drew1 | refine below_set ?_ GE2.out) | exact HB.out)⟩⟩
 case round =>
  clear H'
  try clear c1
  try clear p2
  obtain ⟨x8_1, rfl, HA, HK1, BK2, HB⟩ := hrel
  cases gk with
  | zero => exact absurd HA.out (by simp [impl_Node_NodeAt_1.l0])
  | succ k1 =>
   have H := HA.out; clear HA
   simp only [impl_Node_NodeAt_1.l0] at H
   by_cases c4 : x8_1 < (l0.length : Int)
   ·rw [if_pos c4] at H
    have c4b0 : decide (x8_1 < (l0.length : Int)) = true := decide_eq_true c4
    clear c4
    by_cases c5 : 0 ≤ x8_1
    ·rw [if_pos c5] at H
     have c5b0 : decide (0 ≤ x8_1) = true := decide_eq_true c5
     clear c5
     by_cases c6 : x8_1 < (l0.length : Int)
     ·rw [if_pos c6] at H
      have c6b0 : decide (x8_1 < (l0.length : Int)) = true := decide_eq_true c6
      clear c6
      replace H := Option.bind_eq_some_iff.mp H
      obtain ⟨t392, A70, H⟩ := H
      try dsimp only at H
      have A7 := Aside0.mk A70
      clear A70
      by_cases c8 : t392 = true
      ·subst c8
       have H1 : (some x8_1) = some r := by rw [if_pos rfl] at H; exact H
       clear H; have H := H1; clear H1
       obtain rfl := Option.some.inj H
       simp only [Option.some.injEq, Prod.mk.injEq] at H
       obtain ⟨rfl⟩ := H
       have p391 : 0 ≤ (x8_1 : Int) := of_decide_eq_true (by first | (with_reducible assumption) | assumption)
       have q391 : x8_1 < (l0.length : Int) := of_decide_eq_true (by first | (with_reducible assumption) | assumption)
       obtain ⟨ad391, A391_9, c391_9, A391_10, c391_10, A391_13, c391_13, A391_29, c391_29, A391_30, c391_30, e391, hx391_0, hx391_1, hx391_2, hx391_3, hx391_4, hx391_5, hx391_6, hx391_7, hx391_8, hx391_9, hx391_10, hx391_11, hx391_12, hx391_13, hx391_14, hx391_15, hx391_16, hx391_17, hx391_18, hx391_19, hx391_20, hx391_21, hx391_22, hx391_23, hx391_24, hx391_25, hx391_26, hx391_27, hx391_28, hx391_29, hx391_30, hl391_9, hi391_9, hl391_10, hi391_10, hl391_13, hi391_13, hl391_29, hi391_29, hl391_30, hi391_30⟩ := at_T56 HR0.out x8_1 p391 q391
       have hM391 := lie_zero hx391_0 (lie_n hx391_1 (lie_n hx391_2 (lie_n hx391_3 (lie_n hx391_4 (lie_n hx391_5 (lie_n hx391_6 (lie_n hx391_7 (lie_n hx391_8 (lie_n hx391_9 (lie_n hx391_10 (lie_n hx391_11 (lie_n hx391_12 (lie_n hx391_13 (lie_n hx391_14 (lie_n hx391_15 (lie_n hx391_16 (lie_n hx391_17 (lie_n hx391_18 (lie_n hx391_19 (lie_n hx391_20 (lie_n hx391_21 (lie_n hx391_22 (lie_n hx391_23 (lie_n hx391_24 (lie_n hx391_25 (lie_n hx391_26 (lie_n hx391_27 (lie_n hx391_28 (lie_n hx391_29 (lie_n hx391_30 (lie_nil _ _ _)))))))))))))))))))))))))))))))
       cases e391
       replace hx391_0 := cell_go HB hx391_0
       replace hx391_1 := cell_go HB hx391_1
       replace hx391_2 := cell_go HB hx391_2
       replace hx391_3 := cell_go HB hx391_3
       replace hx391_4 := cell_go HB hx391_4
       replace hx391_5 := cell_go HB hx391_5
       replace hx391_6 := cell_go HB hx391_6
       replace hx391_7 := cell_go HB hx391_7
       replace hx391_8 := cell_go HB hx391_8
       replace hx391_9 := cell_go HB hx391_9
       replace hx391_10 := cell_go HB hx391_10
       replace hx391_11 := cell_go HB hx391_11
       replace hx391_12 := cell_go HB hx391_12
       replace hx391_13 := cell_go HB hx391_13
       replace hx391_14 := cell_go HB hx391_14
       replace hx391_15 := cell_go HB hx391_15
       replace hx391_16 := cell_go HB hx391_16
       replace hx391_17 := cell_go HB hx391_17
       replace hx391_18 := cell_go HB hx391_18
       replace hx391_19 := cell_go HB hx391_19
       replace hx391_20 := cell_go HB hx391_20
       replace hx391_21 := cell_go HB hx391_21
       replace hx391_22 := cell_go HB hx391_22
       replace hx391_23 := cell_go HB hx391_23
       replace hx391_24 := cell_go HB hx391_24
       replace hx391_25 := cell_go HB hx391_25
       replace hx391_26 := cell_go HB hx391_26
       replace hx391_27 := cell_go HB hx391_27
       replace hx391_28 := cell_go HB hx391_28
       replace hx391_29 := cell_go HB hx391_29
       replace hx391_30 := cell_go HB hx391_30
       have HR391_9 := Aside0.mk hi391_9
       have HC391_9 := Aside0.mk hl391_9
       clear hi391_9 hl391_9
       have HR391_10 := Aside0.mk hi391_10
       have HC391_10 := Aside0.mk hl391_10
       clear hi391_10 hl391_10
       have HR391_13 := Aside0.mk hi391_13
       have HC391_13 := Aside0.mk hl391_13
       clear hi391_13 hl391_13
       have HR391_29 := Aside0.mk hi391_29
       have HC391_29 := Aside0.mk hl391_29
       clear hi391_29 hl391_29
       have HR391_30 := Aside0.mk hi391_30
       have HC391_30 := Aside0.mk hl391_30
       clear hi391_30 hl391_30
       replace p391 := eq_true p391
       replace q391 := eq_true q391
       go_wp2_with (first | ((with_reducible refine gate_load (t := 56) rfl ?_); refine load_lie (t := 56) rfl rfl hM391 HB (by with_reducible rfl) rfl Try.underlying56 rfl (show (Try.prog.info? 56).map (·.size) = some 31 by kernel_rfl) rfl ?_) | ((with_reducible refine gate_load (t := 56) rfl ?_); refine load_lie0 (t := 56) rfl rfl hM391 (by with_reducible rfl) rfl Try.underlying56 rfl (show (Try.prog.info? 56).map (·.size) = some 31 by kernel_rfl) rfl ?_) | (go_at_call 144; (with_reducible refine (impl_NodeAt_1.calls ((rd_T56 l0 x8_1).f0) ((rd_T56 l0 x8_1).f1) ((rd_T56 l0 x8_1).f2) ((rd_T56 l0 x8_1).f3.f0) ((rd_T56 l0 x8_1).f3.f1) ((rd_T56 l0 x8_1).f3.f2) ((rd_T56 l0 x8_1).f3.f3) ((rd_T56 l0 x8_1).f3.f4) ((rd_T56 l0 x8_1).f3.f5) _ _ ((rd_T56 l0 x8_1).f4.f0) _ _ ((rd_T56 l0 x8_1).f4.f1) ((rd_T56 l0 x8_1).f5) ((rd_T56 l0 x8_1).f6) _ _ ((rd_T56 l0 x8_1).f7) ((rd_T56 l0 x8_1).f8.f0) ((rd_T56 l0 x8_1).f8.f1.f0) ((rd_T56 l0 x8_1).f8.f1.f1) ((rd_T56 l0 x8_1).f8.f1.f2) ((rd_T56 l0 x8_1).f8.f1.f3) ((rd_T56 l0 x8_1).f8.f2.f0) ((rd_T56 l0 x8_1).f8.f2.f1) ((rd_T56 l0 x8_1).f8.f2.f2) ((rd_T56 l0 x8_1).f8.f2.f3) ((rd_T56 l0 x8_1).f8.f3.f0) ((rd_T56 l0 x8_1).f8.f3.f1) ((rd_T56 l0 x8_1).f8.f4.f0) ((rd_T56 l0 x8_1).f8.f4.f1) ((rd_T56 l0 x8_1).f9) ((rd_T56 l0 x8_1).f10) _ _ ((rd_T56 l0 x8_1).f11.f0) _ _ ((rd_T56 l0 x8_1).f11.f1) g2 a2 true _ ?side1 ?side2 ?side3 ?side4 ?side5 ?side6 ?side7 ?side8 ?side9 ?side10 ?side11 A7.out).mono ?_); (case side1 => exact z16_19); (case side2 => exact HC391_9.out); (case side3 => exact z16_15); (case side4 => exact HC391_10.out); (case side5 => exact z16_16); (case side6 => exact HC391_13.out); (case side7 => exact z16_17); (case side8 => exact HC391_29.out); (case side9 => exact z16_18); (case side10 => exact HC391_30.out); (case side11 => (with_reducible repeat (first | refine blk_drewN ?_ _ | refine blk_drew ?_ | refine blk_alloc ?_ _)); exact BK2.out); rintro e w9 ⟨rfl, hb⟩; have n0_ := Aside0.mk (blk_below (g := g2) (o := .cells #[.int .i64 a2] 3 (0, 0)) z16_20 hb); have n1_ := Aside0.mk (below_step z16_6 hb); clear BK2; clear HB; have BK2 := n0_; have HB := n1_; clear n0_ n1_; (try clear hb)))
       go_ret
       exact ⟨z16_2, z16_6⟩
      ·replace c8 := Bool.eq_false_iff.mpr c8
       subst c8
       have H1 : (impl_Node_NodeAt_1.l0 k1 l0 (l0.length : Int) (wrap64 (x8_1 + 1)) a2) = some r := by rw [if_neg (show ¬ (false = true) by decide)] at H; exact H
       clear H; have H := H1; clear H1
       have H' := Aside0.mk H
       clear H
       have p391 : 0 ≤ (x8_1 : Int) := of_decide_eq_true (by first | (with_reducible assumption) | assumption)
       have q391 : x8_1 < (l0.length : Int) := of_decide_eq_true (by first | (with_reducible assumption) | assumption)
       obtain ⟨ad391, A391_9, c391_9, A391_10, c391_10, A391_13, c391_13, A391_29, c391_29, A391_30, c391_30, e391, hx391_0, hx391_1, hx391_2, hx391_3, hx391_4, hx391_5, hx391_6, hx391_7, hx391_8, hx391_9, hx391_10, hx391_11, hx391_12, hx391_13, hx391_14, hx391_15, hx391_16, hx391_17, hx391_18, hx391_19, hx391_20, hx391_21, hx391_22, hx391_23, hx391_24, hx391_25, hx391_26, hx391_27, hx391_28, hx391_29, hx391_30, hl391_9, hi391_9, hl391_10, hi391_10, hl391_13, hi391_13, hl391_29, hi391_29, hl391_30, hi391_30⟩ := at_T56 HR0.out x8_1 p391 q391
       have hM391 := lie_zero hx391_0 (lie_n hx391_1 (lie_n hx391_2 (lie_n hx391_3 (lie_n hx391_4 (lie_n hx391_5 (lie_n hx391_6 (lie_n hx391_7 (lie_n hx391_8 (lie_n hx391_9 (lie_n hx391_10 (lie_n hx391_11 (lie_n hx391_12 (lie_n hx391_13 (lie_n hx391_14 (lie_n hx391_15 (lie_n hx391_16 (lie_n hx391_17 (lie_n hx391_18 (lie_n hx391_19 (lie_n hx391_20 (lie_n hx391_21 (lie_n hx391_22 (lie_n hx391_23 (lie_n hx391_24 (lie_n hx391_25 (lie_n hx391_26 (lie_n hx391_27 (lie_n hx391_28 (lie_n hx391_29 (lie_n hx391_30 (lie_nil _ _ _)))))))))))))))))))))))))))))))
       cases e391
       replace hx391_0 := cell_go HB hx391_0
       replace hx391_1 := cell_go HB hx391_1
       replace hx391_2 := cell_go HB hx391_2
       replace hx391_3 := cell_go HB hx391_3
       replace hx391_4 := cell_go HB hx391_4
       replace hx391_5 := cell_go HB hx391_5
       replace hx391_6 := cell_go HB hx391_6
       replace hx391_7 := cell_go HB hx391_7
       replace hx391_8 := cell_go HB hx391_8
       replace hx391_9 := cell_go HB hx391_9
       replace hx391_10 := cell_go HB hx391_10
       replace hx391_11 := cell_go HB hx391_11
       replace hx391_12 := cell_go HB hx391_12
       replace hx391_13 := cell_go HB hx391_13
       replace hx391_14 := cell_go HB hx391_14
       replace hx391_15 := cell_go HB hx391_15
       replace hx391_16 := cell_go HB hx391_16
       replace hx391_17 := cell_go HB hx391_17
       replace hx391_18 := cell_go HB hx391_18
       replace hx391_19 := cell_go HB hx391_19
       replace hx391_20 := cell_go HB hx391_20
       replace hx391_21 := cell_go HB hx391_21
       replace hx391_22 := cell_go HB hx391_22
       replace hx391_23 := cell_go HB hx391_23
       replace hx391_24 := cell_go HB hx391_24
       replace hx391_25 := cell_go HB hx391_25
       replace hx391_26 := cell_go HB hx391_26
       replace hx391_27 := cell_go HB hx391_27
       replace hx391_28 := cell_go HB hx391_28
       replace hx391_29 := cell_go HB hx391_29
       replace hx391_30 := cell_go HB hx391_30
       have HR391_9 := Aside0.mk hi391_9
       have HC391_9 := Aside0.mk hl391_9
       clear hi391_9 hl391_9
       have HR391_10 := Aside0.mk hi391_10
       have HC391_10 := Aside0.mk hl391_10
       clear hi391_10 hl391_10
       have HR391_13 := Aside0.mk hi391_13
       have HC391_13 := Aside0.mk hl391_13
       clear hi391_13 hl391_13
       have HR391_29 := Aside0.mk hi391_29
       have HC391_29 := Aside0.mk hl391_29
       clear hi391_29 hl391_29
       have HR391_30 := Aside0.mk hi391_30
       have HC391_30 := Aside0.mk hl391_30
       clear hi391_30 hl391_30
       replace p391 := eq_true p391
       replace q391 := eq_true q391
       go_wp2_with (first | ((with_reducible refine gate_load (t := 56) rfl ?_); refine load_lie (t := 56) rfl rfl hM391 HB (by with_reducible rfl) rfl Try.underlying56 rfl (show (Try.prog.info? 56).map (·.size) = some 31 by kernel_rfl) rfl ?_) | ((with_reducible refine gate_load (t := 56) rfl ?_); refine load_lie0 (t := 56) rfl rfl hM391 (by with_reducible rfl) rfl Try.underlying56 rfl (show (Try.prog.info? 56).map (·.size) = some 31 by kernel_rfl) rfl ?_) | (go_at_call 144; (with_reducible refine (impl_NodeAt_1.calls ((rd_T56 l0 x8_1).f0) ((rd_T56 l0 x8_1).f1) ((rd_T56 l0 x8_1).f2) ((rd_T56 l0 x8_1).f3.f0) ((rd_T56 l0 x8_1).f3.f1) ((rd_T56 l0 x8_1).f3.f2) ((rd_T56 l0 x8_1).f3.f3) ((rd_T56 l0 x8_1).f3.f4) ((rd_T56 l0 x8_1).f3.f5) _ _ ((rd_T56 l0 x8_1).f4.f0) _ _ ((rd_T56 l0 x8_1).f4.f1) ((rd_T56 l0 x8_1).f5) ((rd_T56 l0 x8_1).f6) _ _ ((rd_T56 l0 x8_1).f7) ((rd_T56 l0 x8_1).f8.f0) ((rd_T56 l0 x8_1).f8.f1.f0) ((rd_T56 l0 x8_1).f8.f1.f1) ((rd_T56 l0 x8_1).f8.f1.f2) ((rd_T56 l0 x8_1).f8.f1.f3) ((rd_T56 l0 x8_1).f8.f2.f0) ((rd_T56 l0 x8_1).f8.f2.f1) ((rd_T56 l0 x8_1).f8.f2.f2) ((rd_T56 l0 x8_1).f8.f2.f3) ((rd_T56 l0 x8_1).f8.f3.f0) ((rd_T56 l0 x8_1).f8.f3.f1) ((rd_T56 l0 x8_1).f8.f4.f0) ((rd_T56 l0 x8_1).f8.f4.f1) ((rd_T56 l0 x8_1).f9) ((rd_T56 l0 x8_1).f10) _ _ ((rd_T56 l0 x8_1).f11.f0) _ _ ((rd_T56 l0 x8_1).f11.f1) g2 a2 false _ ?side1 ?side2 ?side3 ?side4 ?side5 ?side6 ?side7 ?side8 ?side9 ?side10 ?side11 A7.out).mono ?_); (case side1 => exact z16_19); (case side2 => exact HC391_9.out); (case side3 => exact z16_15); (case side4 => exact HC391_10.out); (case side5 => exact z16_16); (case side6 => exact HC391_13.out); (case side7 => exact z16_17); (case side8 => exact HC391_29.out); (case side9 => exact z16_18); (case side10 => exact HC391_30.out); (case side11 => (with_reducible repeat (first | refine blk_drewN ?_ _ | refine blk_drew ?_ | refine blk_alloc ?_ _)); exact BK2.out); rintro e w10 ⟨rfl, hb⟩; have n0_ := Aside0.mk (blk_below (g := g2) (o := .cells #[.int .i64 a2] 3 (0, 0)) z16_20 hb); have n1_ := Aside0.mk (below_step z16_6 hb); clear BK2; clear HB; have BK2 := n0_; have HB := n1_; clear n0_ n1_; (try clear hb)))
       go_roundg k1
       case measure => have := HK1.out; omega
       case rel => exact ⟨(wrap64 (x8_1 + 1)), (by first | rfl | (simp; done) | (simp [*]; done)), H', ⟨by have := HK1.out; omega⟩, ⟨by (with_reducible repeat (first | refine blk_drewN ?_ _ | refine blk_drew ?_ | refine blk_alloc ?_ _)); exact BK2.out⟩, ⟨by repeat (first | (with_reducible first | exact HB.out | apply below_alloc | apply pw_below_drewN | apply below_drew1 | refine below_set ?_ GE2.out) | exact HB.out)⟩⟩
     ·rw [if_neg c6] at H
      exact absurd H (by simp)
    ·rw [if_neg c5] at H
     exact absurd H (by simp)
   ·rw [if_neg c4] at H
    have c4b0 : decide (x8_1 < (l0.length : Int)) = false := decide_eq_false c4
    clear c4
    obtain rfl := Option.some.inj H
    simp only [Option.some.injEq, Prod.mk.injEq] at H
    obtain ⟨rfl⟩ := H
    go_wp2
    go_ret
    exact ⟨z16_2, z16_6⟩

/-! ### impl_NodeAt: function 106 -/
def impl_NodeAt.f (k : Nat) (l0_0 : List (S56)) (a1 : Int) : Option (Int) := (impl_Node_NodeAt_1.f k l0_0 a1).bind fun t395 => (some t395)
theorem impl_NodeAt.mono : ∀ a0 a1 k, LeO (impl_NodeAt.f k a0 a1) (impl_NodeAt.f (k + 1) a0 a1) := by
 intro a0 a1 k
 unfold impl_NodeAt.f
 repeat' first
   | (with_reducible exact impl_Node_NodeAt_1.mono _ _ _)
   | (with_reducible exact LeO.refl _)
   | (with_reducible exact LeO.none _)
   | (with_reducible refine LeO.ite ?_ ?_)
   | (with_reducible refine LeO.bind ?_ (fun _ => ?_))
   | exact impl_Node_NodeAt_1.mono _ _ _
   | exact LeO.none _
   | refine LeO.ite ?_ ?_
   | refine LeO.bind ?_ (fun _ => ?_)
set_option maxHeartbeats 8000000 in
set_option maxRecDepth 100000 in
theorem impl_NodeAt.calls (k : Nat) (A0_0 : Option Addr) (c0_0 : Nat) (l0_0 : List (S56)) (a1 : Int) (r : Int) (w : World) (hr0_0 : Kd.C k56 w A0_0 l0_0.length l0_0) (hc0_0 : l0_0.length ≤ c0_0) (h : impl_NodeAt.f k l0_0 a1 = some r) :
  Calls Try.prog 106 #[.agg #[.slice A0_0 l0_0.length c0_0], .int .i64 a1] w fun e w' => e = .returned (.int .i64 r) ∧ Below w.heap.size w w' := by
 have hu83 := Try.underlying83
 have hmf : ∀ (fn : Fn) (first cap : Array Value) (w : World), (Instr.makeFunc fn first cap).run Try.prog w = .ok (.func fn first cap) w := fun _ _ _ _ => rfl
 have HR0_0 := Aside0.mk hr0_0
 have HC0_0 := Aside0.mk hc0_0
 clear hr0_0 hc0_0
 have HB := Aside0.mk (Below.refl w.heap.size w)
 have H : ((impl_Node_NodeAt_1.f k l0_0 a1).bind fun t395 => (some t395)) = some r := h
 clear h
 replace H := Option.bind_eq_some_iff.mp H
 obtain ⟨t395, A30, H⟩ := H
 try dsimp only at H
 have A3 := Aside0.mk A30
 clear A30
 obtain rfl := Option.some.inj H
 simp only [Option.some.injEq, Prod.mk.injEq] at H
 obtain ⟨rfl⟩ := H
 go_enter Try.func106, Try.ntmps106
 go_wp2_with (first | ((with_reducible refine gate_dst (N := 2) rfl ?_); refine boxz (cs := #[.slice A0_0 l0_0.length c0_0]) (t := 83) rfl ?_; intro gb393 hg w4 hbox hb; have n0_ := Aside0.mk (below_step z16_0 hb); have n1_ := Aside0.mk (hbox); have n2_ := Aside0.mk (ge_go (a := w.heap.size) hg (below_size z16_0)); have n3_ := Aside0.mk (ge_go (a := w.heap.size) hg (below_size z16_0)); clear HB; have HB := n0_; have BK393 := n1_; have GW393 := n2_; have GE393 := n3_; clear n0_ n1_ n2_ n3_; clear hb hbox hg) | ((with_reducible refine gate_dst (N := 3) rfl ?_); refine boxz (cs := #[.int .i64 a1]) (t := 3) rfl ?_; intro gb394 hg w5 hbox hb; have n0_ := Aside0.mk (blk_belowB BK393 z16_7 hb); have n1_ := Aside0.mk (below_step z16_8 hb); have n2_ := Aside0.mk (hbox); have n3_ := Aside0.mk (ge_go (a := w.heap.size) hg (below_size z16_8)); have n4_ := Aside0.mk (ge_go (a := w.heap.size) hg (below_size z16_8)); have n5_ := Aside0.mk (nb_lt hg (blk_ltB BK393 z16_7)); have n6_ := Aside0.mk (nb_gt hg (blk_ltB BK393 z16_7)); clear BK393; clear HB; have BK393 := n0_; have HB := n1_; have BK394 := n2_; have GW394 := n3_; have GE394 := n4_; have NB393_394 := n5_; have NB394_393 := n6_; clear n0_ n1_ n2_ n3_ n4_ n5_ n6_; clear hb hbox hg; have hnb6 := NB393_394.out; have hnc6 := NB394_393.out; obtain ⟨_, _⟩ := be_1 BK393.out) | ((with_reducible refine gate_callee (f := 143) rfl ?_); refine goesL_ (some 8) rfl rfl Try.func143 (by kernel_rfl) rfl #[.slice A0_0 l0_0.length c0_0, .func (.func 144) #[] #[.pointer (some ⟨gb394, 0, none⟩)]] rfl z16_3 ?_; (with_reducible refine (impl_Node_NodeAt_1.calls k _ _ l0_0  gb394 a1 t395 _ ?side1 ?side2 ?side3 A3.out).mono ?_); (case side1 => exact z16_5); (case side2 => exact HC0_0.out); (case side3 => (with_reducible repeat (first | refine blk_drewN ?_ _ | refine blk_drew ?_ | refine blk_alloc ?_ _)); exact BK394.out); rintro e w8 ⟨rfl, hb⟩; refine ⟨_, rfl, ?_⟩; have n0_ := Aside0.mk (blk_belowB BK393 z16_7 hb); have n1_ := Aside0.mk (blk_belowB BK394 (by (with_reducible repeat (first | refine blk_drewN ?_ _ | refine blk_drew ?_ | refine blk_alloc ?_ _)); exact BK394.out) hb); have n2_ := Aside0.mk (below_step z16_14 hb); clear BK393; clear BK394; clear HB; have BK393 := n0_; have BK394 := n1_; have HB := n2_; clear n0_ n1_ n2_; (try clear hb)))
 go_ret
 exact ⟨z16_2, z16_14⟩

/-! ### impl_Scene_isParent: function 115 -/
def impl_Scene_isParent.f (k : Nat) (l0_0 : List (S56)) (a1 : Int) : Option (Bool) := (impl_NodeAt.f k l0_0 a1).bind fun t396 => (if a1 = 0 then (some true) else (if t396 ≥ 0 then (if 0 ≤ t396 then (if t396 < (l0_0.length : Int) then (some ((rd_T56 l0_0 t396).f2)) else (none)) else (none)) else (some false)))
theorem impl_Scene_isParent.mono : ∀ a0 a1 k, LeO (impl_Scene_isParent.f k a0 a1) (impl_Scene_isParent.f (k + 1) a0 a1) := by
 intro a0 a1 k
 unfold impl_Scene_isParent.f
 repeat' first
   | (with_reducible exact impl_NodeAt.mono _ _ _)
   | (with_reducible exact LeO.refl _)
   | (with_reducible exact LeO.none _)
   | (with_reducible refine LeO.ite ?_ ?_)
   | (with_reducible refine LeO.bind ?_ (fun _ => ?_))
   | exact impl_NodeAt.mono _ _ _
   | exact LeO.none _
   | refine LeO.ite ?_ ?_
   | refine LeO.bind ?_ (fun _ => ?_)
set_option maxHeartbeats 8000000 in
set_option maxRecDepth 100000 in
theorem impl_Scene_isParent.calls (k : Nat) (g0 : Nat) (A0_0 : Option Addr) (c0_0 : Nat) (l0_0 : List (S56)) (a1 : Int) (r : Bool) (w : World) (hb0 : w.heap[g0]? = some (.cells #[.slice A0_0 l0_0.length c0_0] 83 (0, 0))) (hr0_0 : Kd.C k56 w A0_0 l0_0.length l0_0) (hc0_0 : l0_0.length ≤ c0_0) (h : impl_Scene_isParent.f k l0_0 a1 = some r) :
  Calls Try.prog 115 #[.pointer (some ⟨g0, 0, none⟩), .int .i64 a1] w fun e w' => e = .returned (.bool r) ∧ Below w.heap.size w w' := by
 have hu83 := Try.underlying83
 have HR0_0 := Aside0.mk hr0_0
 have HC0_0 := Aside0.mk hc0_0
 clear hr0_0 hc0_0
 have BK0 := Aside0.mk hb0
 clear hb0
 have HB := Aside0.mk (Below.refl w.heap.size w)
 have H : ((impl_NodeAt.f k l0_0 a1).bind fun t396 => (if a1 = 0 then (some true) else (if t396 ≥ 0 then (if 0 ≤ t396 then (if t396 < (l0_0.length : Int) then (some ((rd_T56 l0_0 t396).f2)) else (none)) else (none)) else (some false)))) = some r := h
 clear h
 replace H := Option.bind_eq_some_iff.mp H
 obtain ⟨t396, A30, H⟩ := H
 try dsimp only at H
 have A3 := Aside0.mk A30
 clear A30
 by_cases c4 : a1 = 0
 ·rw [if_pos c4] at H
  have c4b0 : (a1 == 0) = true := beq_iff_eq.mpr c4
  have c4b1 : (a1 != 0) = false := bne_eq_false_iff_eq.mpr c4
  clear c4
  obtain rfl := Option.some.inj H
  simp only [Option.some.injEq, Prod.mk.injEq] at H
  obtain ⟨rfl⟩ := H
  have hcz5_0 : w.cell? ⟨g0, 0, none⟩ = some (.slice A0_0 l0_0.length c0_0) := (blk_cell BK0.out 0).trans rfl
  have hfz5_0 := blk_frozen BK0.out 0
  go_enter Try.func115, Try.ntmps115
  go_wp2_with (first | ((with_reducible refine gate_callee (f := 106) rfl ?_); refine goesL_ (some 10) rfl rfl Try.func106 (by kernel_rfl) rfl #[.agg #[.slice A0_0 l0_0.length c0_0], .int .i64 a1] rfl z16_3 ?_; (with_reducible refine (impl_NodeAt.calls k _ _ l0_0 a1 t396 _ ?side1 ?side2 A3.out).mono ?_); (case side1 => exact z16_10); (case side2 => exact HC0_0.out); rintro e w6 ⟨rfl, hb⟩; refine ⟨_, rfl, ?_⟩; have n0_ := Aside0.mk (blk_below (g := g0) (o := .cells #[.slice A0_0 l0_0.length c0_0] 83 (0, 0)) z16_13 hb); have n1_ := Aside0.mk (below_step z16_4 hb); clear BK0; clear HB; have BK0 := n0_; have HB := n1_; clear n0_ n1_; (try clear hb)))
  go_ret
  exact ⟨z16_2, z16_4⟩
 ·rw [if_neg c4] at H
  have c4b0 : (a1 == 0) = false := beq_eq_false_iff_ne.mpr c4
  have c4b1 : (a1 != 0) = true := bne_iff_ne.mpr c4
  by_cases c7 : t396 ≥ 0
  ·rw [if_pos c7] at H
   have c7b0 : decide (0 ≤ t396) = true := decide_eq_true c7
   clear c7
   by_cases c8 : 0 ≤ t396
   ·rw [if_pos c8] at H
    have c8b0 : decide (0 ≤ t396) = true := decide_eq_true c8
    clear c8
    by_cases c9 : t396 < (l0_0.length : Int)
    ·rw [if_pos c9] at H
     have c9b0 : decide (t396 < (l0_0.length : Int)) = true := decide_eq_true c9
     clear c9
     obtain rfl := Option.some.inj H
     simp only [Option.some.injEq, Prod.mk.injEq] at H
     obtain ⟨rfl⟩ := H
     have hcz10_0 : w.cell? ⟨g0, 0, none⟩ = some (.slice A0_0 l0_0.length c0_0) := (blk_cell BK0.out 0).trans rfl
     have hfz10_0 := blk_frozen BK0.out 0
     go_enter Try.func115, Try.ntmps115
     go_wp2_with (first | ((with_reducible refine gate_callee (f := 106) rfl ?_); refine goesL_ (some 10) rfl rfl Try.func106 (by kernel_rfl) rfl #[.agg #[.slice A0_0 l0_0.length c0_0], .int .i64 a1] rfl z16_3 ?_; (with_reducible refine (impl_NodeAt.calls k _ _ l0_0 a1 t396 _ ?side1 ?side2 A3.out).mono ?_); (case side1 => exact z16_10); (case side2 => exact HC0_0.out); rintro e w11 ⟨rfl, hb⟩; refine ⟨_, rfl, ?_⟩; have n0_ := Aside0.mk (blk_below (g := g0) (o := .cells #[.slice A0_0 l0_0.length c0_0] 83 (0, 0)) z16_13 hb); have n1_ := Aside0.mk (below_step z16_4 hb); clear BK0; clear HB; have BK0 := n0_; have HB := n1_; clear n0_ n1_; (try clear hb); have hcz12_0 : w11.cell? ⟨g0, 0, none⟩ = some (.slice A0_0 l0_0.length c0_0) := (blk_cell BK0.out 0).trans rfl; have hfz12_0 := blk_frozen BK0.out 0; have p397 : 0 ≤ (t396 : Int) := of_decide_eq_true (by first | (with_reducible assumption) | assumption); have q397 : t396 < (l0_0.length : Int) := of_decide_eq_true (by first | (with_reducible assumption) | assumption); obtain ⟨ad397, A397_9, c397_9, A397_10, c397_10, A397_13, c397_13, A397_29, c397_29, A397_30, c397_30, e397, hx397_0, hx397_1, hx397_2, hx397_3, hx397_4, hx397_5, hx397_6, hx397_7, hx397_8, hx397_9, hx397_10, hx397_11, hx397_12, hx397_13, hx397_14, hx397_15, hx397_16, hx397_17, hx397_18, hx397_19, hx397_20, hx397_21, hx397_22, hx397_23, hx397_24, hx397_25, hx397_26, hx397_27, hx397_28, hx397_29, hx397_30, hl397_9, hi397_9, hl397_10, hi397_10, hl397_13, hi397_13, hl397_29, hi397_29, hl397_30, hi397_30⟩ := at_T56 HR0_0.out t396 p397 q397; cases e397; replace hx397_0 := cell_go HB hx397_0; replace hx397_1 := cell_go HB hx397_1; replace hx397_2 := cell_go HB hx397_2; replace hx397_3 := cell_go HB hx397_3; replace hx397_4 := cell_go HB hx397_4; replace hx397_5 := cell_go HB hx397_5; replace hx397_6 := cell_go HB hx397_6; replace hx397_7 := cell_go HB hx397_7; replace hx397_8 := cell_go HB hx397_8; replace hx397_9 := cell_go HB hx397_9; replace hx397_10 := cell_go HB hx397_10; replace hx397_11 := cell_go HB hx397_11; replace hx397_12 := cell_go HB hx397_12; replace hx397_13 := cell_go HB hx397_13; replace hx397_14 := cell_go HB hx397_14; replace hx397_15 := cell_go HB hx397_15; replace hx397_16 := cell_go HB hx397_16; replace hx397_17 := cell_go HB hx397_17; replace hx397_18 := cell_go HB hx397_18; replace hx397_19 := cell_go HB hx397_19; replace hx397_20 := cell_go HB hx397_20; replace hx397_21 := cell_go HB hx397_21; replace hx397_22 := cell_go HB hx397_22; replace hx397_23 := cell_go HB hx397_23; replace hx397_24 := cell_go HB hx397_24; replace hx397_25 := cell_go HB hx397_25; replace hx397_26 := cell_go HB hx397_26; replace hx397_27 := cell_go HB hx397_27; replace hx397_28 := cell_go HB hx397_28; replace hx397_29 := cell_go HB hx397_29; replace hx397_30 := cell_go HB hx397_30; have HR397_9 := Aside0.mk hi397_9; have HC397_9 := Aside0.mk hl397_9; clear hi397_9 hl397_9; have HR397_10 := Aside0.mk hi397_10; have HC397_10 := Aside0.mk hl397_10; clear hi397_10 hl397_10; have HR397_13 := Aside0.mk hi397_13; have HC397_13 := Aside0.mk hl397_13; clear hi397_13 hl397_13; have HR397_29 := Aside0.mk hi397_29; have HC397_29 := Aside0.mk hl397_29; clear hi397_29 hl397_29; have HR397_30 := Aside0.mk hi397_30; have HC397_30 := Aside0.mk hl397_30; clear hi397_30 hl397_30; replace p397 := eq_true p397; replace q397 := eq_true q397))
     go_ret
     exact ⟨z16_2, z16_4⟩
    ·rw [if_neg c9] at H
     exact absurd H (by simp)
   ·rw [if_neg c8] at H
    exact absurd H (by simp)
  ·rw [if_neg c7] at H
   have c7b0 : decide (0 ≤ t396) = false := decide_eq_false c7
   clear c7
   obtain rfl := Option.some.inj H
   simp only [Option.some.injEq, Prod.mk.injEq] at H
   obtain ⟨rfl⟩ := H
   have hcz13_0 : w.cell? ⟨g0, 0, none⟩ = some (.slice A0_0 l0_0.length c0_0) := (blk_cell BK0.out 0).trans rfl
   have hfz13_0 := blk_frozen BK0.out 0
   go_enter Try.func115, Try.ntmps115
   go_wp2_with (first | ((with_reducible refine gate_callee (f := 106) rfl ?_); refine goesL_ (some 10) rfl rfl Try.func106 (by kernel_rfl) rfl #[.agg #[.slice A0_0 l0_0.length c0_0], .int .i64 a1] rfl z16_3 ?_; (with_reducible refine (impl_NodeAt.calls k _ _ l0_0 a1 t396 _ ?side1 ?side2 A3.out).mono ?_); (case side1 => exact z16_10); (case side2 => exact HC0_0.out); rintro e w14 ⟨rfl, hb⟩; refine ⟨_, rfl, ?_⟩; have n0_ := Aside0.mk (blk_below (g := g0) (o := .cells #[.slice A0_0 l0_0.length c0_0] 83 (0, 0)) z16_13 hb); have n1_ := Aside0.mk (below_step z16_4 hb); clear BK0; clear HB; have BK0 := n0_; have HB := n1_; clear n0_ n1_; (try clear hb)))
   go_ret
   exact ⟨z16_2, z16_4⟩

/-! ### impl_DepthOf: function 116 -/
def impl_DepthOf.l0 : Nat → Int → Int → List (S56) → Option (Int)
 | 0, _, _, _ => none
 | k + 1, x1, x5, x399000 => if x5 ≤ 8 then ((impl_NodeAt.f k x399000 x1).bind fun t399 => (if t399 < 0 then (some 0) else (if 0 ≤ t399 then (if t399 < (x399000.length : Int) then (if ((rd_T56 x399000 t399).f1) = 0 then (some x5) else (impl_DepthOf.l0 k ((rd_T56 x399000 t399).f1) (wrap64 (x5 + 1)) x399000)) else (none)) else (none)))) else (some 0)
def impl_DepthOf.f (k : Nat) (l0_0 : List (S56)) (a1 : Int) : Option (Int) := if a1 = 0 then (some 0) else (impl_DepthOf.l0 k a1 1 l0_0)
theorem impl_DepthOf.mono_l : ∀ k, (∀ y0 y1 y2, LeO (impl_DepthOf.l0 k y0 y1 y2) (impl_DepthOf.l0 (k + 1) y0 y1 y2))
 | 0 => fun _ _ _ r h => by simp [impl_DepthOf.l0] at h
 | k + 1 => by
  have ih0 := impl_DepthOf.mono_l k
  ·intro y0 y1 y2
   unfold impl_DepthOf.l0
   repeat' first
   | (with_reducible exact ih0 _ _ _)
   | (with_reducible exact impl_NodeAt.mono _ _ _)
   | (with_reducible exact LeO.refl _)
   | (with_reducible exact LeO.none _)
   | (with_reducible refine LeO.ite ?_ ?_)
   | (with_reducible refine LeO.bind ?_ (fun _ => ?_))
   | exact ih0 _ _ _
   | exact impl_NodeAt.mono _ _ _
   | exact LeO.none _
   | refine LeO.ite ?_ ?_
   | refine LeO.bind ?_ (fun _ => ?_)
theorem impl_DepthOf.mono : ∀ a0 a1 k, LeO (impl_DepthOf.f k a0 a1) (impl_DepthOf.f (k + 1) a0 a1) := by
 intro a0 a1 k
 have ih0 := impl_DepthOf.mono_l k
 unfold impl_DepthOf.f
 repeat' first
   | (with_reducible exact ih0 _ _ _)
   | (with_reducible exact impl_NodeAt.mono _ _ _)
   | (with_reducible exact LeO.refl _)
   | (with_reducible exact LeO.none _)
   | (with_reducible refine LeO.ite ?_ ?_)
   | (with_reducible refine LeO.bind ?_ (fun _ => ?_))
   | exact ih0 _ _ _
   | exact impl_NodeAt.mono _ _ _
   | exact LeO.none _
   | refine LeO.ite ?_ ?_
   | refine LeO.bind ?_ (fun _ => ?_)
set_option maxHeartbeats 8000000 in
set_option maxRecDepth 100000 in
theorem impl_DepthOf.calls (k : Nat) (A0_0 : Option Addr) (c0_0 : Nat) (l0_0 : List (S56)) (a1 : Int) (r : Int) (w : World) (hr0_0 : Kd.C k56 w A0_0 l0_0.length l0_0) (hc0_0 : l0_0.length ≤ c0_0) (h : impl_DepthOf.f k l0_0 a1 = some r) :
  Calls Try.prog 116 #[.agg #[.slice A0_0 l0_0.length c0_0], .int .i64 a1] w fun e w' => e = .returned (.int .i64 r) ∧ Below w.heap.size w w' := by
 have hu83 := Try.underlying83
 have HR0_0 := Aside0.mk hr0_0
 have HC0_0 := Aside0.mk hc0_0
 clear hr0_0 hc0_0
 have HB := Aside0.mk (Below.refl w.heap.size w)
 have H : (if a1 = 0 then (some 0) else (impl_DepthOf.l0 k a1 1 l0_0)) = some r := h
 clear h
 by_cases c3 : a1 = 0
 ·rw [if_pos c3] at H
  have c3b0 : (a1 == 0) = true := beq_iff_eq.mpr c3
  have c3b1 : (a1 != 0) = false := bne_eq_false_iff_eq.mpr c3
  clear c3
  obtain rfl := Option.some.inj H
  simp only [Option.some.injEq, Prod.mk.injEq] at H
  obtain ⟨rfl⟩ := H
  go_enter Try.func116, Try.ntmps116
  go_wp2_with (first | ((with_reducible refine gate_dst (N := 2) rfl ?_); refine boxz (cs := #[.slice A0_0 l0_0.length c0_0]) (t := 83) rfl ?_; intro gb398 hg w4 hbox hb; have n0_ := Aside0.mk (below_step z16_0 hb); have n1_ := Aside0.mk (hbox); have n2_ := Aside0.mk (ge_go (a := w.heap.size) hg (below_size z16_0)); have n3_ := Aside0.mk (ge_go (a := w.heap.size) hg (below_size z16_0)); clear HB; have HB := n0_; have BK398 := n1_; have GW398 := n2_; have GE398 := n3_; clear n0_ n1_ n2_ n3_; clear hb hbox hg))
  go_ret
  exact ⟨z16_2, z16_1⟩
 ·rw [if_neg c3] at H
  have c3b0 : (a1 == 0) = false := beq_eq_false_iff_ne.mpr c3
  have c3b1 : (a1 != 0) = true := bne_iff_ne.mpr c3
  have H' := Aside0.mk H
  clear H
  go_enter Try.func116, Try.ntmps116
  go_wp2_with (first | ((with_reducible refine gate_dst (N := 2) rfl ?_); refine boxz (cs := #[.slice A0_0 l0_0.length c0_0]) (t := 83) rfl ?_; intro gb398 hg w5 hbox hb; have n0_ := Aside0.mk (below_step z16_0 hb); have n1_ := Aside0.mk (hbox); have n2_ := Aside0.mk (ge_go (a := w.heap.size) hg (below_size z16_0)); have n3_ := Aside0.mk (ge_go (a := w.heap.size) hg (below_size z16_0)); clear HB; have HB := n0_; have BK398 := n1_; have GW398 := n2_; have GE398 := n3_; clear n0_ n1_ n2_ n3_; clear hb hbox hg))
  go_loopg [1, 5] k (fun kq v1 v5 w' => ∃ (x1_1 : Int) (x5_1 : Int), v1 = .int .i64 x1_1 ∧ v5 = .int .i64 x5_1 ∧ Aside0 (impl_DepthOf.l0 kq x1_1 x5_1 l0_0 = some r) ∧ Aside0 (kq ≤ k) ∧ Aside0 (w'.heap[gb398]? = some (.cells #[(.slice A0_0 l0_0.length c0_0)] 83 (0, 0))) ∧ Aside0 (Below w.heap.size w w'))
  case atStart => exact ⟨(a1), (1), (by first | rfl | (simp; done) | (simp [*]; done)), (by first | rfl | (simp; done) | (simp [*]; done)), H', ⟨Nat.le_refl _⟩, ⟨by (with_reducible repeat (first | refine blk_drewN ?_ _ | refine blk_drew ?_ | refine blk_alloc ?_ _)); exact BK398.out⟩, ⟨by repeat (first | (with_reducible first | exact HB.out | apply below_alloc | apply pw_below_drewN | apply below_drew1 | refine below_set ?_ GE398.out) | exact HB.out)⟩⟩
  case round =>
   clear H'
   try clear c1
   try clear p2
   try clear c3
   try clear c3b0
   try clear c3b1
   obtain ⟨x1_1, x5_1, rfl, rfl, HA, HK1, BK398, HB⟩ := hrel
   cases gk with
   | zero => exact absurd HA.out (by simp [impl_DepthOf.l0])
   | succ k1 =>
    have H := HA.out; clear HA
    simp only [impl_DepthOf.l0] at H
    by_cases c6 : x5_1 ≤ 8
    ·rw [if_pos c6] at H
     have c6b0 : decide (x5_1 ≤ 8) = true := decide_eq_true c6
     clear c6
     replace H := Option.bind_eq_some_iff.mp H
     obtain ⟨t399, A70, H⟩ := H
     try dsimp only at H
     have A7 := Aside0.mk A70
     clear A70
     by_cases c8 : t399 < 0
     ·rw [if_pos c8] at H
      have c8b0 : decide (t399 < 0) = true := decide_eq_true c8
      clear c8
      obtain rfl := Option.some.inj H
      simp only [Option.some.injEq, Prod.mk.injEq] at H
      obtain ⟨rfl⟩ := H
      obtain ⟨_, _⟩ := be_1 BK398.out
      go_wp2_with (first | ((with_reducible refine gate_callee (f := 106) rfl ?_); refine goesL_ (some 15) rfl rfl Try.func106 (by kernel_rfl) rfl #[.agg #[.slice A0_0 l0_0.length c0_0], .int .i64 x1_1] rfl z16_3 ?_; (with_reducible refine (impl_NodeAt.calls k1 _ _ l0_0 x1_1 t399 _ ?side1 ?side2 A7.out).mono ?_); (case side1 => exact z16_5); (case side2 => exact HC0_0.out); rintro e w10 ⟨rfl, hb⟩; refine ⟨_, rfl, ?_⟩; have n0_ := Aside0.mk (blk_belowB BK398 z16_11 hb); have n1_ := Aside0.mk (below_step z16_1 hb); clear BK398; clear HB; have BK398 := n0_; have HB := n1_; clear n0_ n1_; (try clear hb)))
      go_ret
      exact ⟨z16_2, z16_1⟩
     ·rw [if_neg c8] at H
      have c8b0 : decide (t399 < 0) = false := decide_eq_false c8
      clear c8
      by_cases c11 : 0 ≤ t399
      ·rw [if_pos c11] at H
       have c11b0 : decide (0 ≤ t399) = true := decide_eq_true c11
       clear c11
       by_cases c12 : t399 < (l0_0.length : Int)
       ·rw [if_pos c12] at H
        have c12b0 : decide (t399 < (l0_0.length : Int)) = true := decide_eq_true c12
        clear c12
        by_cases c13 : ((rd_T56 l0_0 t399).f1) = 0
        ·rw [if_pos c13] at H
         have c13b0 : (((rd_T56 l0_0 t399).f1) == 0) = true := beq_iff_eq.mpr c13
         have c13b1 : (((rd_T56 l0_0 t399).f1) != 0) = false := bne_eq_false_iff_eq.mpr c13
         clear c13
         obtain rfl := Option.some.inj H
         simp only [Option.some.injEq, Prod.mk.injEq] at H
         obtain ⟨rfl⟩ := H
         obtain ⟨_, _⟩ := be_1 BK398.out
         go_wp2_with (first | ((with_reducible refine gate_callee (f := 106) rfl ?_); refine goesL_ (some 15) rfl rfl Try.func106 (by kernel_rfl) rfl #[.agg #[.slice A0_0 l0_0.length c0_0], .int .i64 x1_1] rfl z16_3 ?_; (with_reducible refine (impl_NodeAt.calls k1 _ _ l0_0 x1_1 t399 _ ?side1 ?side2 A7.out).mono ?_); (case side1 => exact z16_5); (case side2 => exact HC0_0.out); rintro e w15 ⟨rfl, hb⟩; refine ⟨_, rfl, ?_⟩; have n0_ := Aside0.mk (blk_belowB BK398 z16_11 hb); have n1_ := Aside0.mk (below_step z16_1 hb); clear BK398; clear HB; have BK398 := n0_; have HB := n1_; clear n0_ n1_; (try clear hb); obtain ⟨_, _⟩ := be_1 BK398.out; have p400 : 0 ≤ (t399 : Int) := of_decide_eq_true (by first | (with_reducible assumption) | assumption); have q400 : t399 < (l0_0.length : Int) := of_decide_eq_true (by first | (with_reducible assumption) | assumption); obtain ⟨ad400, A400_9, c400_9, A400_10, c400_10, A400_13, c400_13, A400_29, c400_29, A400_30, c400_30, e400, hx400_0, hx400_1, hx400_2, hx400_3, hx400_4, hx400_5, hx400_6, hx400_7, hx400_8, hx400_9, hx400_10, hx400_11, hx400_12, hx400_13, hx400_14, hx400_15, hx400_16, hx400_17, hx400_18, hx400_19, hx400_20, hx400_21, hx400_22, hx400_23, hx400_24, hx400_25, hx400_26, hx400_27, hx400_28, hx400_29, hx400_30, hl400_9, hi400_9, hl400_10, hi400_10, hl400_13, hi400_13, hl400_29, hi400_29, hl400_30, hi400_30⟩ := at_T56 HR0_0.out t399 p400 q400; cases e400; replace hx400_0 := cell_go HB hx400_0; replace hx400_1 := cell_go HB hx400_1; replace hx400_2 := cell_go HB hx400_2; replace hx400_3 := cell_go HB hx400_3; replace hx400_4 := cell_go HB hx400_4; replace hx400_5 := cell_go HB hx400_5; replace hx400_6 := cell_go HB hx400_6; replace hx400_7 := cell_go HB hx400_7; replace hx400_8 := cell_go HB hx400_8; replace hx400_9 := cell_go HB hx400_9; replace hx400_10 := cell_go HB hx400_10; replace hx400_11 := cell_go HB hx400_11; replace hx400_12 := cell_go HB hx400_12; replace hx400_13 := cell_go HB hx400_13; replace hx400_14 := cell_go HB hx400_14; replace hx400_15 := cell_go HB hx400_15; replace hx400_16 := cell_go HB hx400_16; replace hx400_17 := cell_go HB hx400_17; replace hx400_18 := cell_go HB hx400_18; replace hx400_19 := cell_go HB hx400_19; replace hx400_20 := cell_go HB hx400_20; replace hx400_21 := cell_go HB hx400_21; replace hx400_22 := cell_go HB hx400_22; replace hx400_23 := cell_go HB hx400_23; replace hx400_24 := cell_go HB hx400_24; replace hx400_25 := cell_go HB hx400_25; replace hx400_26 := cell_go HB hx400_26; replace hx400_27 := cell_go HB hx400_27; replace hx400_28 := cell_go HB hx400_28; replace hx400_29 := cell_go HB hx400_29; replace hx400_30 := cell_go HB hx400_30; have HR400_9 := Aside0.mk hi400_9; have HC400_9 := Aside0.mk hl400_9; clear hi400_9 hl400_9; have HR400_10 := Aside0.mk hi400_10; have HC400_10 := Aside0.mk hl400_10; clear hi400_10 hl400_10; have HR400_13 := Aside0.mk hi400_13; have HC400_13 := Aside0.mk hl400_13; clear hi400_13 hl400_13; have HR400_29 := Aside0.mk hi400_29; have HC400_29 := Aside0.mk hl400_29; clear hi400_29 hl400_29; have HR400_30 := Aside0.mk hi400_30; have HC400_30 := Aside0.mk hl400_30; clear hi400_30 hl400_30; replace p400 := eq_true p400; replace q400 := eq_true q400))
         go_ret
         exact ⟨z16_2, z16_1⟩
        ·rw [if_neg c13] at H
         have c13b0 : (((rd_T56 l0_0 t399).f1) == 0) = false := beq_eq_false_iff_ne.mpr c13
         have c13b1 : (((rd_T56 l0_0 t399).f1) != 0) = true := bne_iff_ne.mpr c13
         have H' := Aside0.mk H
         clear H
         obtain ⟨_, _⟩ := be_1 BK398.out
         go_wp2_with (first | ((with_reducible refine gate_callee (f := 106) rfl ?_); refine goesL_ (some 15) rfl rfl Try.func106 (by kernel_rfl) rfl #[.agg #[.slice A0_0 l0_0.length c0_0], .int .i64 x1_1] rfl z16_3 ?_; (with_reducible refine (impl_NodeAt.calls k1 _ _ l0_0 x1_1 t399 _ ?side1 ?side2 A7.out).mono ?_); (case side1 => exact z16_5); (case side2 => exact HC0_0.out); rintro e w18 ⟨rfl, hb⟩; refine ⟨_, rfl, ?_⟩; have n0_ := Aside0.mk (blk_belowB BK398 z16_11 hb); have n1_ := Aside0.mk (below_step z16_1 hb); clear BK398; clear HB; have BK398 := n0_; have HB := n1_; clear n0_ n1_; (try clear hb); obtain ⟨_, _⟩ := be_1 BK398.out; have p400 : 0 ≤ (t399 : Int) := of_decide_eq_true (by first | (with_reducible assumption) | assumption); have q400 : t399 < (l0_0.length : Int) := of_decide_eq_true (by first | (with_reducible assumption) | assumption); obtain ⟨ad400, A400_9, c400_9, A400_10, c400_10, A400_13, c400_13, A400_29, c400_29, A400_30, c400_30, e400, hx400_0, hx400_1, hx400_2, hx400_3, hx400_4, hx400_5, hx400_6, hx400_7, hx400_8, hx400_9, hx400_10, hx400_11, hx400_12, hx400_13, hx400_14, hx400_15, hx400_16, hx400_17, hx400_18, hx400_19, hx400_20, hx400_21, hx400_22, hx400_23, hx400_24, hx400_25, hx400_26, hx400_27, hx400_28, hx400_29, hx400_30, hl400_9, hi400_9, hl400_10, hi400_10, hl400_13, hi400_13, hl400_29, hi400_29, hl400_30, hi400_30⟩ := at_T56 HR0_0.out t399 p400 q400; cases e400; replace hx400_0 := cell_go HB hx400_0; replace hx400_1 := cell_go HB hx400_1; replace hx400_2 := cell_go HB hx400_2; replace hx400_3 := cell_go HB hx400_3; replace hx400_4 := cell_go HB hx400_4; replace hx400_5 := cell_go HB hx400_5; replace hx400_6 := cell_go HB hx400_6; replace hx400_7 := cell_go HB hx400_7; replace hx400_8 := cell_go HB hx400_8; replace hx400_9 := cell_go HB hx400_9; replace hx400_10 := cell_go HB hx400_10; replace hx400_11 := cell_go HB hx400_11; replace hx400_12 := cell_go HB hx400_12; replace hx400_13 := cell_go HB hx400_13; replace hx400_14 := cell_go HB hx400_14; replace hx400_15 := cell_go HB hx400_15; replace hx400_16 := cell_go HB hx400_16; replace hx400_17 := cell_go HB hx400_17; replace hx400_18 := cell_go HB hx400_18; replace hx400_19 := cell_go HB hx400_19; replace hx400_20 := cell_go HB hx400_20; replace hx400_21 := cell_go HB hx400_21; replace hx400_22 := cell_go HB hx400_22; replace hx400_23 := cell_go HB hx400_23; replace hx400_24 := cell_go HB hx400_24; replace hx400_25 := cell_go HB hx400_25; replace hx400_26 := cell_go HB hx400_26; replace hx400_27 := cell_go HB hx400_27; replace hx400_28 := cell_go HB hx400_28; replace hx400_29 := cell_go HB hx400_29; replace hx400_30 := cell_go HB hx400_30; have HR400_9 := Aside0.mk hi400_9; have HC400_9 := Aside0.mk hl400_9; clear hi400_9 hl400_9; have HR400_10 := Aside0.mk hi400_10; have HC400_10 := Aside0.mk hl400_10; clear hi400_10 hl400_10; have HR400_13 := Aside0.mk hi400_13; have HC400_13 := Aside0.mk hl400_13; clear hi400_13 hl400_13; have HR400_29 := Aside0.mk hi400_29; have HC400_29 := Aside0.mk hl400_29; clear hi400_29 hl400_29; have HR400_30 := Aside0.mk hi400_30; have HC400_30 := Aside0.mk hl400_30; clear hi400_30 hl400_30; replace p400 := eq_true p400; replace q400 := eq_true q400))
         go_roundg k1
         case measure => have := HK1.out; omega
         case rel => exact ⟨((rd_T56 l0_0 t399).f1), (wrap64 (x5_1 + 1)), (by first | rfl | (simp; done) | (simp [*]; done)), (by first | rfl | (simp; done) | (simp [*]; done)), H', ⟨by have := HK1.out; omega⟩, ⟨by (with_reducible repeat (first | refine blk_drewN ?_ _ | refine blk_drew ?_ | refine blk_alloc ?_ _)); exact BK398.out⟩, ⟨by repeat (first | (with_reducible first | exact HB.out | apply below_alloc | apply pw_below_drewN | apply below_drew1 | refine below_set ?_ GE398.out) | exact HB.out)⟩⟩
       ·rw [if_neg c12] at H
        exact absurd H (by simp)
      ·rw [if_neg c11] at H
       exact absurd H (by simp)
    ·rw [if_neg c6] at H
     have c6b0 : decide (x5_1 ≤ 8) = false := decide_eq_false c6
     clear c6
     obtain rfl := Option.some.inj H
     simp only [Option.some.injEq, Prod.mk.injEq] at H
     obtain ⟨rfl⟩ := H
     go_wp2
     go_ret
     exact ⟨z16_2, z16_1⟩

end Go.Proofs.Ytghbenapnhcllaa.MFnExactSceneOk
