/- Functions of the program as Lean functions, and the proof that a call comes to just these: machine text of this session's own program (myprint.py). -/
import Derived.Test.YtghbenapnhcllaaMFnExactSceneOkx0
namespace Go.Proofs.Ytghbenapnhcllaa.MFnExactSceneOk
open Go.RowKit Go.Proofs.YtghbenapnhcllaaW.PrintWords Go.Proofs.YtghbenapnhcllaaW.PrintLast Go.Proofs.YtghbenapnhcllaaW.PrintMore
attribute [local go_sem] max2_int min2_int max_two min_two max_three min_three max_four min_four   -- for this text's walks alone
set_option linter.unusedVariables false
set_option linter.unusedSimpArgs false

theorem z11_0 {P : Prop} (h : P := by repeat (first | (with_reducible first | exact HB.out | apply below_alloc | apply pw_below_drewN | apply below_drew1) | exact HB.out)) : P := h
theorem z11_1 {P : Prop} (h : P := by repeat (first | (with_reducible first | exact HB.out | apply below_alloc | apply pw_below_drewN | apply below_drew1 | refine below_set ?_ GE334.out) | exact HB.out)) : P := h
theorem z11_2 {P : Prop} (h : P := by first | rfl | (simp [errW_none, errW_some] <;> rfl) | (simp [*, errW_none, errW_some] <;> rfl)) : P := h
theorem z11_3 {P : Prop} (h : P := by repeat (first | exact (Kd.C_below HR0_0.out HB.out) | (with_reducible refine Kd.C_alloc ?_ _) | (with_reducible refine Kd.C_drewN ?_ _) | (with_reducible refine Kd.C_drew ?_))) : P := h
theorem z11_4 {P : Prop} (h : P := by repeat (first | (with_reducible first | exact HB.out | apply below_alloc | apply pw_below_drewN | apply below_drew1 | refine below_set ?_ GE332.out) | exact HB.out)) : P := h
theorem z11_5 {P : Prop} (h : P := by (try simp only [List.map_toArray, List.map_cons, List.map_nil]); first | done | rfl | (simp only [List.length_drop, List.length_take]; rfl)) : P := h
theorem z11_6 {P : Prop} (h : P := by (with_reducible repeat (first | refine blk_drewN ?_ _ | refine blk_drew ?_ | refine blk_alloc ?_ _)); exact BK334.out) : P := h
/-! ### spec_NodeAt: function 103 -/
def spec_NodeAt.l0 : Nat → Int → Int → List (S56) → Option (Int)
 | 0, _, _, _ => none
 | k + 1, x1, x5, x333000 => if x5 < (x333000.length : Int) then (if 0 ≤ x5 then (if ((rd_T56 x333000 x5).f0) = x1 then (some x5) else (spec_NodeAt.l0 k x1 (wrap64 (x5 + 1)) x333000)) else (none)) else (some (-1))
def spec_NodeAt.f (k : Nat) (l0_0 : List (S56)) (a1 : Int) : Option (Int) := spec_NodeAt.l0 k a1 0 l0_0
theorem spec_NodeAt.mono_l : ∀ k, (∀ y0 y1 y2, LeO (spec_NodeAt.l0 k y0 y1 y2) (spec_NodeAt.l0 (k + 1) y0 y1 y2))
 | 0 => fun _ _ _ r h => by simp [spec_NodeAt.l0] at h
 | k + 1 => by
  have ih0 := spec_NodeAt.mono_l k
  ·intro y0 y1 y2
   unfold spec_NodeAt.l0
   repeat' first
   | (with_reducible exact ih0 _ _ _)
   | (with_reducible exact LeO.refl _)
   | (with_reducible exact LeO.none _)
   | (with_reducible refine LeO.ite ?_ ?_)
   | (with_reducible refine LeO.bind ?_ (fun _ => ?_))
   | exact ih0 _ _ _
   | exact LeO.none _
   | refine LeO.ite ?_ ?_
   | refine LeO.bind ?_ (fun _ => ?_)
theorem spec_NodeAt.mono : ∀ a0 a1 k, LeO (spec_NodeAt.f k a0 a1) (spec_NodeAt.f (k + 1) a0 a1) := by
 intro a0 a1 k
 have ih0 := spec_NodeAt.mono_l k
 unfold spec_NodeAt.f
 repeat' first
   | (with_reducible exact ih0 _ _ _)
   | (with_reducible exact LeO.refl _)
   | (with_reducible exact LeO.none _)
   | (with_reducible refine LeO.ite ?_ ?_)
   | (with_reducible refine LeO.bind ?_ (fun _ => ?_))
   | exact ih0 _ _ _
   | exact LeO.none _
   | refine LeO.ite ?_ ?_
   | refine LeO.bind ?_ (fun _ => ?_)
set_option maxHeartbeats 8000000 in
set_option maxRecDepth 100000 in
theorem spec_NodeAt.calls (k : Nat) (A0_0 : Option Addr) (c0_0 : Nat) (l0_0 : List (S56)) (a1 : Int) (r : Int) (w : World) (hr0_0 : Kd.C k56 w A0_0 l0_0.length l0_0) (hc0_0 : l0_0.length ≤ c0_0) (h : spec_NodeAt.f k l0_0 a1 = some r) :
  Calls Try.prog 103 #[.agg #[.slice A0_0 l0_0.length c0_0], .int .i64 a1] w fun e w' => e = .returned (.int .i64 r) ∧ Below w.heap.size w w' := by
 have hu83 := Try.underlying83
 have HR0_0 := Aside0.mk hr0_0
 have HC0_0 := Aside0.mk hc0_0
 clear hr0_0 hc0_0
 have HB := Aside0.mk (Below.refl w.heap.size w)
 have H : (spec_NodeAt.l0 k a1 0 l0_0) = some r := h
 clear h
 have H' := Aside0.mk H
 clear H
 go_enter Try.func103, Try.ntmps103
 go_wp2_with (first | ((with_reducible refine gate_dst (N := 2) rfl ?_); refine boxz (cs := #[.slice A0_0 l0_0.length c0_0]) (t := 83) rfl ?_; intro gb332 hg w3 hbox hb; have n0_ := Aside0.mk (below_step z11_0 hb); have n1_ := Aside0.mk (hbox); have n2_ := Aside0.mk (ge_go (a := w.heap.size) hg (below_size z11_0)); have n3_ := Aside0.mk (ge_go (a := w.heap.size) hg (below_size z11_0)); clear HB; have HB := n0_; have BK332 := n1_; have GW332 := n2_; have GE332 := n3_; clear n0_ n1_ n2_ n3_; clear hb hbox hg))
 go_loopg [5] k (fun kq v5 w' => ∃ (x5_1 : Int), v5 = .int .i64 x5_1 ∧ Aside0 (spec_NodeAt.l0 kq a1 x5_1 l0_0 = some r) ∧ Aside0 (kq ≤ k) ∧ Aside0 (w'.heap[gb332]? = some (.cells #[(.slice A0_0 l0_0.length c0_0)] 83 (0, 0))) ∧ Aside0 (Below w.heap.size w w'))
 case atStart => exact ⟨(0), (by first | rfl | (simp; done) | (simp [*]; done)), H', ⟨Nat.le_refl _⟩, ⟨by (with_reducible repeat (first | refine blk_drewN ?_ _ | refine blk_drew ?_ | refine blk_alloc ?_ _)); exact BK332.out⟩, ⟨by repeat (first | (with_reducible first | exact HB.out | apply below_alloc | apply pw_below_drewN | apply below_drew1 | refine below_set ?_ GE332.out) | exact HB.out)⟩⟩
 case round =>
  clear H'
  try clear c1
  try clear p2
  obtain ⟨x5_1, rfl, HA, HK1, BK332, HB⟩ := hrel
  cases gk with
  | zero => exact absurd HA.out (by simp [spec_NodeAt.l0])
  | succ k1 =>
   have H := HA.out; clear HA
   simp only [spec_NodeAt.l0] at H
   by_cases c4 : x5_1 < (l0_0.length : Int)
   ·rw [if_pos c4] at H
    have c4b0 : decide (x5_1 < (l0_0.length : Int)) = true := decide_eq_true c4
    clear c4
    by_cases c5 : 0 ≤ x5_1
    ·rw [if_pos c5] at H
     have c5b0 : decide (0 ≤ x5_1) = true := decide_eq_true c5
     clear c5
     by_cases c6 : ((rd_T56 l0_0 x5_1).f0) = a1
     ·rw [if_pos c6] at H
      have c6b0 : (((rd_T56 l0_0 x5_1).f0) == a1) = true := beq_iff_eq.mpr c6
      have c6b1 : (((rd_T56 l0_0 x5_1).f0) != a1) = false := bne_eq_false_iff_eq.mpr c6
      clear c6
      obtain rfl := Option.some.inj H
      simp only [Option.some.injEq, Prod.mk.injEq] at H
      obtain ⟨rfl⟩ := H
      obtain ⟨_, _⟩ := be_1 BK332.out
      have p333 : 0 ≤ (x5_1 : Int) := of_decide_eq_true (by first | (with_reducible assumption) | assumption)
      have q333 : x5_1 < (l0_0.length : Int) := of_decide_eq_true (by first | (with_reducible assumption) | assumption)
      obtain ⟨ad333, A333_9, c333_9, A333_10, c333_10, A333_13, c333_13, A333_29, c333_29, A333_30, c333_30, e333, hx333_0, hx333_1, hx333_2, hx333_3, hx333_4, hx333_5, hx333_6, hx333_7, hx333_8, hx333_9, hx333_10, hx333_11, hx333_12, hx333_13, hx333_14, hx333_15, hx333_16, hx333_17, hx333_18, hx333_19, hx333_20, hx333_21, hx333_22, hx333_23, hx333_24, hx333_25, hx333_26, hx333_27, hx333_28, hx333_29, hx333_30, hl333_9, hi333_9, hl333_10, hi333_10, hl333_13, hi333_13, hl333_29, hi333_29, hl333_30, hi333_30⟩ := at_T56 HR0_0.out x5_1 p333 q333
      have hM333 := lie_zero hx333_0 (lie_n hx333_1 (lie_n hx333_2 (lie_n hx333_3 (lie_n hx333_4 (lie_n hx333_5 (lie_n hx333_6 (lie_n hx333_7 (lie_n hx333_8 (lie_n hx333_9 (lie_n hx333_10 (lie_n hx333_11 (lie_n hx333_12 (lie_n hx333_13 (lie_n hx333_14 (lie_n hx333_15 (lie_n hx333_16 (lie_n hx333_17 (lie_n hx333_18 (lie_n hx333_19 (lie_n hx333_20 (lie_n hx333_21 (lie_n hx333_22 (lie_n hx333_23 (lie_n hx333_24 (lie_n hx333_25 (lie_n hx333_26 (lie_n hx333_27 (lie_n hx333_28 (lie_n hx333_29 (lie_n hx333_30 (lie_nil _ _ _)))))))))))))))))))))))))))))))
      cases e333
      replace hx333_0 := cell_go HB hx333_0
      replace hx333_1 := cell_go HB hx333_1
      replace hx333_2 := cell_go HB hx333_2
      replace hx333_3 := cell_go HB hx333_3
      replace hx333_4 := cell_go HB hx333_4
      replace hx333_5 := cell_go HB hx333_5
      replace hx333_6 := cell_go HB hx333_6
      replace hx333_7 := cell_go HB hx333_7
      replace hx333_8 := cell_go HB hx333_8
      replace hx333_9 := cell_go HB hx333_9
      replace hx333_10 := cell_go HB hx333_10
      replace hx333_11 := cell_go HB hx333_11
      replace hx333_12 := cell_go HB hx333_12
      replace hx333_13 := cell_go HB hx333_13
      replace hx333_14 := cell_go HB hx333_14
      replace hx333_15 := cell_go HB hx333_15
      replace hx333_16 := cell_go HB hx333_16
      replace hx333_17 := cell_go HB hx333_17
      replace hx333_18 := cell_go HB hx333_18
      replace hx333_19 := cell_go HB hx333_19
      replace hx333_20 := cell_go HB hx333_20
      replace hx333_21 := cell_go HB hx333_21
      replace hx333_22 := cell_go HB hx333_22
      replace hx333_23 := cell_go HB hx333_23
      replace hx333_24 := cell_go HB hx333_24
      replace hx333_25 := cell_go HB hx333_25
      replace hx333_26 := cell_go HB hx333_26
      replace hx333_27 := cell_go HB hx333_27
      replace hx333_28 := cell_go HB hx333_28
      replace hx333_29 := cell_go HB hx333_29
      replace hx333_30 := cell_go HB hx333_30
      have HR333_9 := Aside0.mk hi333_9
      have HC333_9 := Aside0.mk hl333_9
      clear hi333_9 hl333_9
      have HR333_10 := Aside0.mk hi333_10
      have HC333_10 := Aside0.mk hl333_10
      clear hi333_10 hl333_10
      have HR333_13 := Aside0.mk hi333_13
      have HC333_13 := Aside0.mk hl333_13
      clear hi333_13 hl333_13
      have HR333_29 := Aside0.mk hi333_29
      have HC333_29 := Aside0.mk hl333_29
      clear hi333_29 hl333_29
      have HR333_30 := Aside0.mk hi333_30
      have HC333_30 := Aside0.mk hl333_30
      clear hi333_30 hl333_30
      replace p333 := eq_true p333
      replace q333 := eq_true q333
      go_wp2_with (first | ((with_reducible refine gate_load (t := 56) rfl ?_); refine load_lie (t := 56) rfl rfl hM333 HB (by with_reducible rfl) rfl Try.underlying56 rfl (show (Try.prog.info? 56).map (·.size) = some 31 by kernel_rfl) rfl ?_) | ((with_reducible refine gate_load (t := 56) rfl ?_); refine load_lie0 (t := 56) rfl rfl hM333 (by with_reducible rfl) rfl Try.underlying56 rfl (show (Try.prog.info? 56).map (·.size) = some 31 by kernel_rfl) rfl ?_))
      go_ret
      exact ⟨z11_2, z11_4⟩
     ·rw [if_neg c6] at H
      have c6b0 : (((rd_T56 l0_0 x5_1).f0) == a1) = false := beq_eq_false_iff_ne.mpr c6
      have c6b1 : (((rd_T56 l0_0 x5_1).f0) != a1) = true := bne_iff_ne.mpr c6
      have H' := Aside0.mk H
      clear H
      obtain ⟨_, _⟩ := be_1 BK332.out
      have p333 : 0 ≤ (x5_1 : Int) := of_decide_eq_true (by first | (with_reducible assumption) | assumption)
      have q333 : x5_1 < (l0_0.length : Int) := of_decide_eq_true (by first | (with_reducible assumption) | assumption)
      obtain ⟨ad333, A333_9, c333_9, A333_10, c333_10, A333_13, c333_13, A333_29, c333_29, A333_30, c333_30, e333, hx333_0, hx333_1, hx333_2, hx333_3, hx333_4, hx333_5, hx333_6, hx333_7, hx333_8, hx333_9, hx333_10, hx333_11, hx333_12, hx333_13, hx333_14, hx333_15, hx333_16, hx333_17, hx333_18, hx333_19, hx333_20, hx333_21, hx333_22, hx333_23, hx333_24, hx333_25, hx333_26, hx333_27, hx333_28, hx333_29, hx333_30, hl333_9, hi333_9, hl333_10, hi333_10, hl333_13, hi333_13, hl333_29, hi333_29, hl333_30, hi333_30⟩ := at_T56 HR0_0.out x5_1 p333 q333
      have hM333 := lie_zero hx333_0 (lie_n hx333_1 (lie_n hx333_2 (lie_n hx333_3 (lie_n hx333_4 (lie_n hx333_5 (lie_n hx333_6 (lie_n hx333_7 (lie_n hx333_8 (lie_n hx333_9 (lie_n hx333_10 (lie_n hx333_11 (lie_n hx333_12 (lie_n hx333_13 (lie_n hx333_14 (lie_n hx333_15 (lie_n hx333_16 (lie_n hx333_17 (lie_n hx333_18 (lie_n hx333_19 (lie_n hx333_20 (lie_n hx333_21 (lie_n hx333_22 (lie_n hx333_23 (lie_n hx333_24 (lie_n hx333_25 (lie_n hx333_26 (lie_n hx333_27 (lie_n hx333_28 (lie_n hx333_29 (lie_n hx333_30 (lie_nil _ _ _)))))))))))))))))))))))))))))))
      cases e333
      replace hx333_0 := cell_go HB hx333_0
      replace hx333_1 := cell_go HB hx333_1
      replace hx333_2 := cell_go HB hx333_2
      replace hx333_3 := cell_go HB hx333_3
      replace hx333_4 := cell_go HB hx333_4
      replace hx333_5 := cell_go HB hx333_5
      replace hx333_6 := cell_go HB hx333_6
      replace hx333_7 := cell_go HB hx333_7
      replace hx333_8 := cell_go HB hx333_8
      replace hx333_9 := cell_go HB hx333_9
      replace hx333_10 := cell_go HB hx333_10
      replace hx333_11 := cell_go HB hx333_11
      replace hx333_12 := cell_go HB hx333_12
      replace hx333_13 := cell_go HB hx333_13
      replace hx333_14 := cell_go HB hx333_14
      replace hx333_15 := cell_go HB hx333_15
      replace hx333_16 := cell_go HB hx333_16
      replace hx333_17 := cell_go HB hx333_17
      replace hx333_18 := cell_go HB hx333_18
      replace hx333_19 := cell_go HB hx333_19
      replace hx333_20 := cell_go HB hx333_20
      replace hx333_21 := cell_go HB hx333_21
      replace hx333_22 := cell_go HB hx333_22
      replace hx333_23 := cell_go HB hx333_23
      replace hx333_24 := cell_go HB hx333_24
      replace hx333_25 := cell_go HB hx333_25
      replace hx333_26 := cell_go HB hx333_26
      replace hx333_27 := cell_go HB hx333_27
      replace hx333_28 := cell_go HB hx333_28
      replace hx333_29 := cell_go HB hx333_29
      replace hx333_30 := cell_go HB hx333_30
      have HR333_9 := Aside0.mk hi333_9
      have HC333_9 := Aside0.mk hl333_9
      clear hi333_9 hl333_9
      have HR333_10 := Aside0.mk hi333_10
      have HC333_10 := Aside0.mk hl333_10
      clear hi333_10 hl333_10
      have HR333_13 := Aside0.mk hi333_13
      have HC333_13 := Aside0.mk hl333_13
      clear hi333_13 hl333_13
      have HR333_29 := Aside0.mk hi333_29
      have HC333_29 := Aside0.mk hl333_29
      clear hi333_29 hl333_29
      have HR333_30 := Aside0.mk hi333_30
      have HC333_30 := Aside0.mk hl333_30
      clear hi333_30 hl333_30
      replace p333 := eq_true p333
      replace q333 := eq_true q333
      go_wp2_with (first | ((with_reducible refine gate_load (t := 56) rfl ?_); refine load_lie (t := 56) rfl rfl hM333 HB (by with_reducible rfl) rfl Try.underlying56 rfl (show (Try.prog.info? 56).map (·.size) = some 31 by kernel_rfl) rfl ?_) | ((with_reducible refine gate_load (t := 56) rfl ?_); refine load_lie0 (t := 56) rfl rfl hM333 (by with_reducible rfl) rfl Try.underlying56 rfl (show (Try.prog.info? 56).map (·.size) = some 31 by kernel_rfl) rfl ?_))
      go_roundg k1
      case measure => have := HK1.out; omega
      case rel => exact ⟨(wrap64 (x5_1 + 1)), (by first | rfl | (simp; done) | (simp [*]; done)), H', ⟨by have := HK1.out; omega⟩, ⟨by (with_reducible repeat (first | refine blk_drewN ?_ _ | refine blk_drew ?_ | refine blk_alloc ?_ _)); exact BK332.out⟩, ⟨by repeat (first | (with_reducible first | exact HB.out | apply below_alloc | apply pw_below_drewN | apply below_drew1 | refine below_set ?_ GE332.out) | exact HB.out)⟩⟩
    ·rw [if_neg c5] at H
     exact absurd H (by simp)
   ·rw [if_neg c4] at H
    have c4b0 : decide (x5_1 < (l0_0.length : Int)) = false := decide_eq_false c4
    clear c4
    obtain rfl := Option.some.inj H
    simp only [Option.some.injEq, Prod.mk.injEq] at H
    obtain ⟨rfl⟩ := H
    obtain ⟨_, _⟩ := be_1 BK332.out
    go_wp2
    go_ret
    exact ⟨z11_2, z11_4⟩

/-! ### spec_DepthOf: function 114 -/
def spec_DepthOf.l0 : Nat → Int → Int → Int → List (S56) → Option (Int)
 | 0, _, _, _, _ => none
 | k + 1, x1, x5, x6, x335000 => if x6 ≤ 8 then (if x1 = 0 then (some x5) else ((spec_NodeAt.f k x335000 x1).bind fun t335 => (if t335 < 0 then (some 0) else (if 0 ≤ t335 then (if t335 < (x335000.length : Int) then (spec_DepthOf.l0 k ((rd_T56 x335000 t335).f1) (wrap64 (x5 + 1)) (wrap64 (x6 + 1)) x335000) else (none)) else (none))))) else (some 0)
def spec_DepthOf.f (k : Nat) (l0_0 : List (S56)) (a1 : Int) : Option (Int) := spec_DepthOf.l0 k a1 0 0 l0_0
theorem spec_DepthOf.mono_l : ∀ k, (∀ y0 y1 y2 y3, LeO (spec_DepthOf.l0 k y0 y1 y2 y3) (spec_DepthOf.l0 (k + 1) y0 y1 y2 y3))
 | 0 => fun _ _ _ _ r h => by simp [spec_DepthOf.l0] at h
 | k + 1 => by
  have ih0 := spec_DepthOf.mono_l k
  ·intro y0 y1 y2 y3
   unfold spec_DepthOf.l0
   repeat' first
   | (with_reducible exact ih0 _ _ _ _)
   | (with_reducible exact spec_NodeAt.mono _ _ _)
   | (with_reducible exact LeO.refl _)
   | (with_reducible exact LeO.none _)
   | (with_reducible refine LeO.ite ?_ ?_)
   | (with_reducible refine LeO.bind ?_ (fun _ => ?_))
   | exact ih0 _ _ _ _
   | exact spec_NodeAt.mono _ _ _
   | exact LeO.none _
   | refine LeO.ite ?_ ?_
   | refine LeO.bind ?_ (fun _ => ?_)
theorem spec_DepthOf.mono : ∀ a0 a1 k, LeO (spec_DepthOf.f k a0 a1) (spec_DepthOf.f (k + 1) a0 a1) := by
 intro a0 a1 k
 have ih0 := spec_DepthOf.mono_l k
 unfold spec_DepthOf.f
 repeat' first
   | (with_reducible exact ih0 _ _ _ _)
   | (with_reducible exact spec_NodeAt.mono _ _ _)
   | (with_reducible exact LeO.refl _)
   | (with_reducible exact LeO.none _)
   | (with_reducible refine LeO.ite ?_ ?_)
   | (with_reducible refine LeO.bind ?_ (fun _ => ?_))
   | exact ih0 _ _ _ _
   | exact spec_NodeAt.mono _ _ _
   | exact LeO.none _
   | refine LeO.ite ?_ ?_
   | refine LeO.bind ?_ (fun _ => ?_)
set_option maxHeartbeats 8000000 in
set_option maxRecDepth 100000 in
theorem spec_DepthOf.calls (k : Nat) (A0_0 : Option Addr) (c0_0 : Nat) (l0_0 : List (S56)) (a1 : Int) (r : Int) (w : World) (hr0_0 : Kd.C k56 w A0_0 l0_0.length l0_0) (hc0_0 : l0_0.length ≤ c0_0) (h : spec_DepthOf.f k l0_0 a1 = some r) :
  Calls Try.prog 114 #[.agg #[.slice A0_0 l0_0.length c0_0], .int .i64 a1] w fun e w' => e = .returned (.int .i64 r) ∧ Below w.heap.size w w' := by
 have hu83 := Try.underlying83
 have HR0_0 := Aside0.mk hr0_0
 have HC0_0 := Aside0.mk hc0_0
 clear hr0_0 hc0_0
 have HB := Aside0.mk (Below.refl w.heap.size w)
 have H : (spec_DepthOf.l0 k a1 0 0 l0_0) = some r := h
 clear h
 have H' := Aside0.mk H
 clear H
 go_enter Try.func114, Try.ntmps114
 go_wp2_with (first | ((with_reducible refine gate_dst (N := 2) rfl ?_); refine boxz (cs := #[.slice A0_0 l0_0.length c0_0]) (t := 83) rfl ?_; intro gb334 hg w3 hbox hb; have n0_ := Aside0.mk (below_step z11_0 hb); have n1_ := Aside0.mk (hbox); have n2_ := Aside0.mk (ge_go (a := w.heap.size) hg (below_size z11_0)); have n3_ := Aside0.mk (ge_go (a := w.heap.size) hg (below_size z11_0)); clear HB; have HB := n0_; have BK334 := n1_; have GW334 := n2_; have GE334 := n3_; clear n0_ n1_ n2_ n3_; clear hb hbox hg))
 go_loopg [1, 5, 6] k (fun kq v1 v5 v6 w' => ∃ (x1_1 : Int) (x5_1 : Int) (x6_1 : Int), v1 = .int .i64 x1_1 ∧ v5 = .int .i64 x5_1 ∧ v6 = .int .i64 x6_1 ∧ Aside0 (spec_DepthOf.l0 kq x1_1 x5_1 x6_1 l0_0 = some r) ∧ Aside0 (kq ≤ k) ∧ Aside0 (w'.heap[gb334]? = some (.cells #[(.slice A0_0 l0_0.length c0_0)] 83 (0, 0))) ∧ Aside0 (Below w.heap.size w w'))
 case atStart => exact ⟨(a1), (0), (0), (by first | rfl | (simp; done) | (simp [*]; done)), (by first | rfl | (simp; done) | (simp [*]; done)), (by first | rfl | (simp; done) | (simp [*]; done)), H', ⟨Nat.le_refl _⟩, ⟨by (with_reducible repeat (first | refine blk_drewN ?_ _ | refine blk_drew ?_ | refine blk_alloc ?_ _)); exact BK334.out⟩, ⟨by repeat (first | (with_reducible first | exact HB.out | apply below_alloc | apply pw_below_drewN | apply below_drew1 | refine below_set ?_ GE334.out) | exact HB.out)⟩⟩
 case round =>
  clear H'
  try clear c1
  try clear p2
  obtain ⟨x1_1, x5_1, x6_1, rfl, rfl, rfl, HA, HK1, BK334, HB⟩ := hrel
  cases gk with
  | zero => exact absurd HA.out (by simp [spec_DepthOf.l0])
  | succ k1 =>
   have H := HA.out; clear HA
   simp only [spec_DepthOf.l0] at H
   by_cases c4 : x6_1 ≤ 8
   ·rw [if_pos c4] at H
    have c4b0 : decide (x6_1 ≤ 8) = true := decide_eq_true c4
    clear c4
    by_cases c5 : x1_1 = 0
    ·rw [if_pos c5] at H
     have c5b0 : (x1_1 == 0) = true := beq_iff_eq.mpr c5
     have c5b1 : (x1_1 != 0) = false := bne_eq_false_iff_eq.mpr c5
     clear c5
     obtain rfl := Option.some.inj H
     simp only [Option.some.injEq, Prod.mk.injEq] at H
     obtain ⟨rfl⟩ := H
     go_wp2
     go_ret
     exact ⟨z11_2, z11_1⟩
    ·rw [if_neg c5] at H
     have c5b0 : (x1_1 == 0) = false := beq_eq_false_iff_ne.mpr c5
     have c5b1 : (x1_1 != 0) = true := bne_iff_ne.mpr c5
     replace H := Option.bind_eq_some_iff.mp H
     obtain ⟨t335, A60, H⟩ := H
     try dsimp only at H
     have A6 := Aside0.mk A60
     clear A60
     by_cases c7 : t335 < 0
     ·rw [if_pos c7] at H
      have c7b0 : decide (t335 < 0) = true := decide_eq_true c7
      clear c7
      obtain rfl := Option.some.inj H
      simp only [Option.some.injEq, Prod.mk.injEq] at H
      obtain ⟨rfl⟩ := H
      obtain ⟨_, _⟩ := be_1 BK334.out
      go_wp2_with (first | ((with_reducible refine gate_callee (f := 103) rfl ?_); refine goesL_ (some 17) rfl rfl Try.func103 (by kernel_rfl) rfl #[.agg #[.slice A0_0 l0_0.length c0_0], .int .i64 x1_1] rfl z11_5 ?_; (with_reducible refine (spec_NodeAt.calls k1 _ _ l0_0 x1_1 t335 _ ?side1 ?side2 A6.out).mono ?_); (case side1 => exact z11_3); (case side2 => exact HC0_0.out); rintro e w9 ⟨rfl, hb⟩; refine ⟨_, rfl, ?_⟩; have n0_ := Aside0.mk (blk_belowB BK334 z11_6 hb); have n1_ := Aside0.mk (below_step z11_1 hb); clear BK334; clear HB; have BK334 := n0_; have HB := n1_; clear n0_ n1_; (try clear hb)))
      go_ret
      exact ⟨z11_2, z11_1⟩
     ·rw [if_neg c7] at H
      have c7b0 : decide (t335 < 0) = false := decide_eq_false c7
      clear c7
      by_cases c10 : 0 ≤ t335
      ·rw [if_pos c10] at H
       have c10b0 : decide (0 ≤ t335) = true := decide_eq_true c10
       clear c10
       by_cases c11 : t335 < (l0_0.length : Int)
       ·rw [if_pos c11] at H
        have c11b0 : decide (t335 < (l0_0.length : Int)) = true := decide_eq_true c11
        clear c11
        have H' := Aside0.mk H
        clear H
        obtain ⟨_, _⟩ := be_1 BK334.out
        go_wp2_with (first | ((with_reducible refine gate_callee (f := 103) rfl ?_); refine goesL_ (some 17) rfl rfl Try.func103 (by kernel_rfl) rfl #[.agg #[.slice A0_0 l0_0.length c0_0], .int .i64 x1_1] rfl z11_5 ?_; (with_reducible refine (spec_NodeAt.calls k1 _ _ l0_0 x1_1 t335 _ ?side1 ?side2 A6.out).mono ?_); (case side1 => exact z11_3); (case side2 => exact HC0_0.out); rintro e w13 ⟨rfl, hb⟩; refine ⟨_, rfl, ?_⟩; have n0_ := Aside0.mk (blk_belowB BK334 z11_6 hb); have n1_ := Aside0.mk (below_step z11_1 hb); clear BK334; clear HB; have BK334 := n0_; have HB := n1_; clear n0_ n1_; (try clear hb); obtain ⟨_, _⟩ := be_1 BK334.out; have p336 : 0 ≤ (t335 : Int) := of_decide_eq_true (by first | (with_reducible assumption) | assumption); have q336 : t335 < (l0_0.length : Int) := of_decide_eq_true (by first | (with_reducible assumption) | assumption); obtain ⟨ad336, A336_9, c336_9, A336_10, c336_10, A336_13, c336_13, A336_29, c336_29, A336_30, c336_30, e336, hx336_0, hx336_1, hx336_2, hx336_3, hx336_4, hx336_5, hx336_6, hx336_7, hx336_8, hx336_9, hx336_10, hx336_11, hx336_12, hx336_13, hx336_14, hx336_15, hx336_16, hx336_17, hx336_18, hx336_19, hx336_20, hx336_21, hx336_22, hx336_23, hx336_24, hx336_25, hx336_26, hx336_27, hx336_28, hx336_29, hx336_30, hl336_9, hi336_9, hl336_10, hi336_10, hl336_13, hi336_13, hl336_29, hi336_29, hl336_30, hi336_30⟩ := at_T56 HR0_0.out t335 p336 q336; cases e336; replace hx336_0 := cell_go HB hx336_0; replace hx336_1 := cell_go HB hx336_1; replace hx336_2 := cell_go HB hx336_2; replace hx336_3 := cell_go HB hx336_3; replace hx336_4 := cell_go HB hx336_4; replace hx336_5 := cell_go HB hx336_5; replace hx336_6 := cell_go HB hx336_6; replace hx336_7 := cell_go HB hx336_7; replace hx336_8 := cell_go HB hx336_8; replace hx336_9 := cell_go HB hx336_9; replace hx336_10 := cell_go HB hx336_10; replace hx336_11 := cell_go HB hx336_11; replace hx336_12 := cell_go HB hx336_12; replace hx336_13 := cell_go HB hx336_13; replace hx336_14 := cell_go HB hx336_14; replace hx336_15 := cell_go HB hx336_15; replace hx336_16 := cell_go HB hx336_16; replace hx336_17 := cell_go HB hx336_17; replace hx336_18 := cell_go HB hx336_18; replace hx336_19 := cell_go HB hx336_19; replace hx336_20 := cell_go HB hx336_20; replace hx336_21 := cell_go HB hx336_21; replace hx336_22 := cell_go HB hx336_22; replace hx336_23 := cell_go HB hx336_23; replace hx336_24 := cell_go HB hx336_24; replace hx336_25 := cell_go HB hx336_25; replace hx336_26 := cell_go HB hx336_26; replace hx336_27 := cell_go HB hx336_27; replace hx336_28 := cell_go HB hx336_28; replace hx336_29 := cell_go HB hx336_29; replace hx336_30 := cell_go HB hx336_30; have HR336_9 := Aside0.mk hi336_9; have HC336_9 := Aside0.mk hl336_9; clear hi336_9 hl336_9; have HR336_10 := Aside0.mk hi336_10; have HC336_10 := Aside0.mk hl336_10; clear hi336_10 hl336_10; have HR336_13 := Aside0.mk hi336_13; have HC336_13 := Aside0.mk hl336_13; clear hi336_13 hl336_13; have HR336_29 := Aside0.mk hi336_29; have HC336_29 := Aside0.mk hl336_29; clear hi336_29 hl336_29; have HR336_30 := Aside0.mk hi336_30; have HC336_30 := Aside0.mk hl336_30; clear hi336_30 hl336_30; replace p336 := eq_true p336; replace q336 := eq_true q336))
        go_roundg k1
        case measure => have := HK1.out; omega
        case rel => exact ⟨((rd_T56 l0_0 t335).f1), (wrap64 (x5_1 + 1)), (wrap64 (x6_1 + 1)), (by first | rfl | (simp; done) | (simp [*]; done)), (by first | rfl | (simp; done) | (simp [*]; done)), (by first | rfl | (simp; done) | (simp [*]; done)), H', ⟨by have := HK1.out; omega⟩, ⟨by (with_reducible repeat (first | refine blk_drewN ?_ _ | refine blk_drew ?_ | refine blk_alloc ?_ _)); exact BK334.out⟩, ⟨by repeat (first | (with_reducible first | exact HB.out | apply below_alloc | apply pw_below_drewN | apply below_drew1 | refine below_set ?_ GE334.out) | exact HB.out)⟩⟩
       ·rw [if_neg c11] at H
        exact absurd H (by simp)
      ·rw [if_neg c10] at H
       exact absurd H (by simp)
   ·rw [if_neg c4] at H
    have c4b0 : decide (x6_1 ≤ 8) = false := decide_eq_false c4
    clear c4
    obtain rfl := Option.some.inj H
    simp only [Option.some.injEq, Prod.mk.injEq] at H
    obtain ⟨rfl⟩ := H
    go_wp2
    go_ret
    exact ⟨z11_2, z11_1⟩

end Go.Proofs.Ytghbenapnhcllaa.MFnExactSceneOk
