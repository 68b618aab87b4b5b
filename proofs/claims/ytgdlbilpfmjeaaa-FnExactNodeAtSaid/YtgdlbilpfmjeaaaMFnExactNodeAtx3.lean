/- Functions of the program as Lean functions, and the proof that a call comes to just these: machine text of this session's own program (myprint.py). -/
import Derived.Test.YtgdlbilpfmjeaaaMFnExactNodeAtx0
import Derived.Test.YtgdlbilpfmjeaaaMFnExactNodeAtx2
namespace Go.Proofs.Ytgdlbilpfmjeaaa.MFnExactNodeAt
open Go.RowKit Go.Proofs.YtgdlbilpfmjeaaaW.PrintWords Go.Proofs.YtgdlbilpfmjeaaaW.PrintLast Go.Proofs.YtgdlbilpfmjeaaaW.PrintMore
attribute [local go_sem] max2_int min2_int max_two min_two max_three min_three max_four min_four   -- for this text's walks alone
set_option linter.unusedVariables false
set_option linter.unusedSimpArgs false

theorem z3_0 {P : Prop} (h : P := by repeat (first | (with_reducible first | exact HB.out | apply below_alloc | apply pw_below_drewN | apply below_drew1) | exact HB.out)) : P := h
theorem z3_1 {P : Prop} (h : P := by repeat (first | (with_reducible first | exact HB.out | apply below_alloc | apply pw_below_drewN | apply below_drew1 | refine below_set ?_ GE256.out) | exact HB.out)) : P := h
theorem z3_2 {P : Prop} (h : P := by (with_reducible repeat (first | refine blk_drewN ?_ _ | refine blk_drew ?_ | refine blk_alloc ?_ _)); exact BK256.out) : P := h
theorem z3_3 {P : Prop} (h : P := by repeat (first | (with_reducible first | exact HB.out | apply below_alloc | apply pw_below_drewN | apply below_drew1 | refine below_set ?_ GE258.out) | exact HB.out)) : P := h
theorem z3_4 {P : Prop} (h : P := by (with_reducible repeat (first | refine blk_drewN ?_ _ | refine blk_drew ?_ | refine blk_alloc ?_ _)); exact BK258.out) : P := h
theorem z3_5 {P : Prop} (h : P := by (with_reducible repeat (first | refine blk_drewN ?_ _ | refine blk_drew ?_ | refine blk_alloc ?_ _)); exact BK242.out) : P := h
theorem z3_6 {P : Prop} (h : P := by repeat (first | (with_reducible first | exact HB.out | apply below_alloc | apply pw_below_drewN | apply below_drew1 | refine below_set ?_ GE242.out | refine below_set ?_ GE243.out) | exact HB.out)) : P := h
theorem z3_7 {P : Prop} (h : P := by (with_reducible repeat (first | refine blk_drewN ?_ _ | refine blk_drew ?_ | refine blk_alloc ?_ _)); exact BK243.out) : P := h
theorem z3_8 {P : Prop} (h : P := by (with_reducible repeat (first | refine blk_drewN ?_ _ | refine blk_drew ?_ | refine blk_alloc ?_ _)); exact BK251.out) : P := h
theorem z3_9 {P : Prop} (h : P := by repeat (first | (with_reducible first | exact HB.out | apply below_alloc | apply pw_below_drewN | apply below_drew1 | refine below_set ?_ GE242.out) | exact HB.out)) : P := h
theorem z3_10 {P : Prop} (h : P := by repeat (first | (with_reducible first | exact HB.out | apply below_alloc | apply pw_below_drewN | apply below_drew1 | refine below_set ?_ GE251.out) | exact HB.out)) : P := h
theorem z3_11 {P : Prop} (h : P := by repeat (first | (with_reducible first | exact HB.out | apply below_alloc | apply pw_below_drewN | apply below_drew1 | refine below_set ?_ GE1.out) | exact HB.out)) : P := h
theorem z3_12 {P : Prop} (h : P := by (try simp only [List.map_toArray, List.map_cons, List.map_nil]); first | done | rfl | (simp only [List.length_drop, List.length_take]; rfl)) : P := h
theorem z3_13 {P : Prop} (h : P := by (with_reducible repeat (first | refine blk_drewN ?_ _ | refine blk_drew ?_ | refine blk_alloc ?_ _)); exact BK1.out) : P := h
theorem z3_14 {P : Prop} (h : P := by repeat (first | (with_reducible first | exact HB.out | apply below_alloc | apply pw_below_drewN | apply below_drew1 | refine below_set ?_ GE242.out | refine below_set ?_ GE243.out | refine below_set ?_ GE244.out) | exact HB.out)) : P := h
theorem z3_15 {P : Prop} (h : P := by repeat (first | (with_reducible first | exact HB.out | apply below_alloc | apply pw_below_drewN | apply below_drew1 | refine below_set ?_ GE2.out) | exact HB.out)) : P := h
theorem z3_16 {P : Prop} (h : P := by (with_reducible repeat (first | refine blk_drewN ?_ _ | refine blk_drew ?_ | refine blk_alloc ?_ _)); exact BK2.out) : P := h
/-! ### laws_toNodeS: function 117 -/
def laws_toNodeS.l0 : Nat → List (S173) → List (S96) → Int → Option ((List (S96)))
 | 0, _, _, _ => none
 | k + 1, x0, x3, x4 => if x4 < (x0.length : Int) then (if 0 ≤ x4 then ((laws_toNode.f k ((rd_T173 x0 x4).f0) ((rd_T173 x0 x4).f1) ((rd_T173 x0 x4).f2) ((rd_T173 x0 x4).f3.f0) ((rd_T173 x0 x4).f3.f1) ((rd_T173 x0 x4).f3.f2) ((rd_T173 x0 x4).f3.f3) ((rd_T173 x0 x4).f3.f4) ((rd_T173 x0 x4).f3.f5) ((rd_T173 x0 x4).f4.f0) ((rd_T173 x0 x4).f4.f1) ((rd_T173 x0 x4).f5) ((rd_T173 x0 x4).f6) ((rd_T173 x0 x4).f7) ((rd_T173 x0 x4).f8.f0) ((rd_T173 x0 x4).f8.f1.f0) ((rd_T173 x0 x4).f8.f1.f1) ((rd_T173 x0 x4).f8.f1.f2) ((rd_T173 x0 x4).f8.f1.f3) ((rd_T173 x0 x4).f8.f2.f0) ((rd_T173 x0 x4).f8.f2.f1) ((rd_T173 x0 x4).f8.f2.f2) ((rd_T173 x0 x4).f8.f2.f3) ((rd_T173 x0 x4).f8.f3.f0) ((rd_T173 x0 x4).f8.f3.f1) ((rd_T173 x0 x4).f8.f4.f0) ((rd_T173 x0 x4).f8.f4.f1) ((rd_T173 x0 x4).f9) ((rd_T173 x0 x4).f10) ((rd_T173 x0 x4).f11.f0) ((rd_T173 x0 x4).f11.f1)).bind fun bt200 => (if x4 < (x3.length : Int) then (laws_toNodeS.l0 k x0 (x3.set (x4 : Int).toNat (⟨bt200.1, bt200.2.1, bt200.2.2.1, (⟨bt200.2.2.2.1, bt200.2.2.2.2.1, bt200.2.2.2.2.2.1, bt200.2.2.2.2.2.2.1, bt200.2.2.2.2.2.2.2.1, bt200.2.2.2.2.2.2.2.2.1⟩ : S90), (⟨bt200.2.2.2.2.2.2.2.2.2.1, bt200.2.2.2.2.2.2.2.2.2.2.1⟩ : S41), bt200.2.2.2.2.2.2.2.2.2.2.2.1, bt200.2.2.2.2.2.2.2.2.2.2.2.2.1, bt200.2.2.2.2.2.2.2.2.2.2.2.2.2.1, (⟨bt200.2.2.2.2.2.2.2.2.2.2.2.2.2.2.1, (⟨bt200.2.2.2.2.2.2.2.2.2.2.2.2.2.2.2.1, bt200.2.2.2.2.2.2.2.2.2.2.2.2.2.2.2.2.1, bt200.2.2.2.2.2.2.2.2.2.2.2.2.2.2.2.2.2.1, bt200.2.2.2.2.2.2.2.2.2.2.2.2.2.2.2.2.2.2.1⟩ : S92), (⟨bt200.2.2.2.2.2.2.2.2.2.2.2.2.2.2.2.2.2.2.2.1, bt200.2.2.2.2.2.2.2.2.2.2.2.2.2.2.2.2.2.2.2.2.1, bt200.2.2.2.2.2.2.2.2.2.2.2.2.2.2.2.2.2.2.2.2.2.1, bt200.2.2.2.2.2.2.2.2.2.2.2.2.2.2.2.2.2.2.2.2.2.2.1⟩ : S92), (⟨bt200.2.2.2.2.2.2.2.2.2.2.2.2.2.2.2.2.2.2.2.2.2.2.2.1, bt200.2.2.2.2.2.2.2.2.2.2.2.2.2.2.2.2.2.2.2.2.2.2.2.2.1⟩ : S32), (⟨bt200.2.2.2.2.2.2.2.2.2.2.2.2.2.2.2.2.2.2.2.2.2.2.2.2.2.1, bt200.2.2.2.2.2.2.2.2.2.2.2.2.2.2.2.2.2.2.2.2.2.2.2.2.2.2.1⟩ : S32)⟩ : S94), bt200.2.2.2.2.2.2.2.2.2.2.2.2.2.2.2.2.2.2.2.2.2.2.2.2.2.2.2.1, bt200.2.2.2.2.2.2.2.2.2.2.2.2.2.2.2.2.2.2.2.2.2.2.2.2.2.2.2.2.1, (⟨bt200.2.2.2.2.2.2.2.2.2.2.2.2.2.2.2.2.2.2.2.2.2.2.2.2.2.2.2.2.2.1, bt200.2.2.2.2.2.2.2.2.2.2.2.2.2.2.2.2.2.2.2.2.2.2.2.2.2.2.2.2.2.2⟩ : S41)⟩ : S96)) (wrap64 (x4 + 1))) else (none))) else (none)) else (some x3)
def laws_toNodeS.f (k : Nat) (l0 : List (S173)) : Option ((List (S96))) := if 0 ≤ (l0.length : Int) then (if ((l0.length : Int) : Int).toNat ≤ 858155416800 then (laws_toNodeS.l0 k l0 (List.replicate ((l0.length : Int) : Int).toNat z96) 0) else (none)) else (none)
theorem laws_toNodeS.mono_l : ∀ k, (∀ y0 y1 y2, LeO (laws_toNodeS.l0 k y0 y1 y2) (laws_toNodeS.l0 (k + 1) y0 y1 y2))
 | 0 => fun _ _ _ r h => by simp [laws_toNodeS.l0] at h
 | k + 1 => by
  have ih0 := laws_toNodeS.mono_l k
  ·intro y0 y1 y2
   unfold laws_toNodeS.l0
   repeat' first
   | (with_reducible exact ih0 _ _ _)
   | (with_reducible exact laws_toNode.mono _ _ _ _ _ _ _ _ _ _ _ _ _ _ _ _ _ _ _ _ _ _ _ _ _ _ _ _ _ _ _ _)
   | (with_reducible exact LeO.refl _)
   | (with_reducible exact LeO.none _)
   | (with_reducible refine LeO.ite ?_ ?_)
   | (with_reducible refine LeO.bind ?_ (fun _ => ?_))
   | exact ih0 _ _ _
   | exact laws_toNode.mono _ _ _ _ _ _ _ _ _ _ _ _ _ _ _ _ _ _ _ _ _ _ _ _ _ _ _ _ _ _ _ _
   | exact LeO.none _
   | refine LeO.ite ?_ ?_
   | refine LeO.bind ?_ (fun _ => ?_)
theorem laws_toNodeS.mono : ∀ a0 k, LeO (laws_toNodeS.f k a0) (laws_toNodeS.f (k + 1) a0) := by
 intro a0 k
 have ih0 := laws_toNodeS.mono_l k
 unfold laws_toNodeS.f
 repeat' first
   | (with_reducible exact ih0 _ _ _)
   | (with_reducible exact laws_toNode.mono _ _ _ _ _ _ _ _ _ _ _ _ _ _ _ _ _ _ _ _ _ _ _ _ _ _ _ _ _ _ _ _)
   | (with_reducible exact LeO.refl _)
   | (with_reducible exact LeO.none _)
   | (with_reducible refine LeO.ite ?_ ?_)
   | (with_reducible refine LeO.bind ?_ (fun _ => ?_))
   | exact ih0 _ _ _
   | exact laws_toNode.mono _ _ _ _ _ _ _ _ _ _ _ _ _ _ _ _ _ _ _ _ _ _ _ _ _ _ _ _ _ _ _ _
   | exact LeO.none _
   | refine LeO.ite ?_ ?_
   | refine LeO.bind ?_ (fun _ => ?_)
set_option maxHeartbeats 8000000 in
set_option maxRecDepth 100000 in
theorem laws_toNodeS.calls (k : Nat) (A0 : Option Addr) (c0 : Nat) (l0 : List (S173)) (r : List (S96)) (w : World) (hr0 : Kd.C k173 w A0 l0.length l0) (hc0 : l0.length ≤ c0) (h : laws_toNodeS.f k l0 = some r) :
  Calls Try.prog 117 #[.slice A0 l0.length c0] w fun e w' => ∃ v0_ : Value, e = .returned (v0_) ∧ Kd.S k96 96 w' w.heap.size (fun _ => True) v0_ r ∧ Below w.heap.size w w' := by
 have hu173 := Try.underlying173
 have hu96 := Try.underlying96
 have HR0 := Aside0.mk hr0
 have HC0 := Aside0.mk hc0
 clear hr0 hc0
 have HB := Aside0.mk (Below.refl w.heap.size w)
 have H : (if 0 ≤ (l0.length : Int) then (if ((l0.length : Int) : Int).toNat ≤ 858155416800 then (laws_toNodeS.l0 k l0 (List.replicate ((l0.length : Int) : Int).toNat z96) 0) else (none)) else (none)) = some r := h
 clear h
 by_cases c2 : 0 ≤ (l0.length : Int)
 ·rw [if_pos c2] at H
  have c2b0 := eq_true c2
  have c2b1 : decide (0 ≤ (l0.length : Int)) = true := decide_eq_true c2
  clear c2
  by_cases c3 : ((l0.length : Int) : Int).toNat ≤ 858155416800
  ·rw [if_pos c3] at H
   have c3b0 := eq_true c3
   have c3b1 : decide (((l0.length : Int) : Int).toNat ≤ 858155416800) = true := decide_eq_true c3
   clear c3
   obtain ⟨y196, hy196⟩ : ∃ y_ : List (S96), y_ = (List.replicate ((l0.length : Int) : Int).toNat z96) := ⟨_, rfl⟩
   replace H : (laws_toNodeS.l0 k l0 y196 0) = some r := by first | (rw [hy196]; with_reducible exact H) | (have H2_ := (Option.bind_some _ _).symm.trans H; rw [hy196]; with_reducible exact H2_) | (have H2_ := (Option.bind_some _ _).symm.trans H; with_reducible exact H2_) | with_reducible exact H | (rw [hy196]; exact H) | exact H
   have Ny196 := Aside0.mk hy196
   clear hy196
   have H' := Aside0.mk H
   clear H
   go_enter Try.func117, Try.ntmps117
   go_wp2_with (first | ((with_reducible refine gate_dst (N := 7) rfl ?_); refine Kd.S_make k96 _ 96 rfl (N := 7) rfl 75 _ _ rfl (l0.length : Int) rfl rfl Try.underlying75 (.agg #[(.int .i64 0), (.int .i64 0), (.bool false), (.int .i64 0), (.int .i64 0), (.int .i64 0), (.int .i64 0), (.int .i64 0), (.int .i64 0), (.slice none 0 0), (.slice none 0 0), (.bool false), (.int .i64 0), (.slice none 0 0), (.int .i64 0), (.int .i64 0), (.int .i64 0), (.int .i64 0), (.int .i64 0), (.int .i64 0), (.int .i64 0), (.int .i64 0), (.int .i64 0), (.int .i64 0), (.int .i64 0), (.int .i64 0), (.int .i64 0), (.int .i64 0), (.int .i64 0), (.slice none 0 0), (.slice none 0 0)]) 328 info96 rfl (by decide) (by omega) z96 (ok := fun _ => True) (okp := fun _ => True) (k96_mkM _ _ _ z96 (Kd.R_nil _ _ _ _ _) (Kd.R_nil _ _ _ _ _) (Kd.R_nil _ _ _ _ _) (Kd.R_nil _ _ _ _ _) (Kd.R_nil _ _ _ _ _)) (fun _ hk => hk) trivial (of_decide_eq_true (by first | (with_reducible assumption) | assumption)) (Nat.le_trans (Nat.mul_le_mul_right _ (of_decide_eq_true (by first | (with_reducible assumption) | assumption) : (l0.length : Int).toNat ≤ 858155416800)) (by omega)) (Below.refl _ _) (Nat.le_refl _) ?_; intro v197 w4 ho5 hb hg_ hnew_; clear hg_ hnew_; (first | rw [← Ny196.out] at ho5 | (simp only [Int.reduceToNat] at ho5; rw [← Ny196.out] at ho5)); have n0_ := Aside0.mk (Kd.S_lower ho5 (below_size z3_0)); have n1_ := Aside0.mk (below_step z3_0 hb); clear HB; have HO198 := n0_; have HB := n1_; clear n0_ n1_; clear hb ho5))
   go_loopg [4] k (fun kq v4 w' => ∃ (x3_1 : List (S96)) (x4_1 : Int), v4 = .int .i64 x4_1 ∧ Aside0 (laws_toNodeS.l0 kq l0 x3_1 x4_1 = some r) ∧ Aside0 (kq ≤ k) ∧ Aside0 (Kd.S k96 96 w' w.heap.size (fun _ => True) v197 x3_1) ∧ Aside0 (Below w.heap.size w w'))
   case atStart => exact ⟨(y196), (0), (by first | rfl | (simp; done) | (simp [*]; done)), H', ⟨Nat.le_refl _⟩, ⟨by (with_reducible repeat (first | apply Kd.S_alloc | apply Kd.S_drewN | apply Kd.S_drew)); exact HO198.out⟩, ⟨by repeat (first | (with_reducible first | exact HB.out | apply below_alloc | apply pw_below_drewN | apply below_drew1) | exact HB.out)⟩⟩
   case round =>
    clear H'
    try clear c1
    try clear c2
    try clear c2b0
    try clear c2b1
    try clear p2
    try clear c3
    try clear c3b0
    try clear c3b1
    obtain ⟨x3_1, x4_1, rfl, HA, HK1, HO_3, HB⟩ := hrel
    cases gk with
    | zero => exact absurd HA.out (by simp [laws_toNodeS.l0])
    | succ k1 =>
     have H := HA.out; clear HA
     simp only [laws_toNodeS.l0] at H
     by_cases c6 : x4_1 < (l0.length : Int)
     ·rw [if_pos c6] at H
      have c6b0 : decide (x4_1 < (l0.length : Int)) = true := decide_eq_true c6
      clear c6
      by_cases c7 : 0 ≤ x4_1
      ·rw [if_pos c7] at H
       have c7b0 : decide (0 ≤ x4_1) = true := decide_eq_true c7
       clear c7
       replace H := Option.bind_eq_some_iff.mp H
       obtain ⟨⟨t200, t201, t202, t203, t204, t205, t206, t207, t208, t209, t212, t215, t216, t217, t220, t221, t222, t223, t224, t225, t226, t227, t228, t229, t230, t231, t232, t233, t234, t235, t238⟩, A80, H⟩ := H
       replace H : (if x4_1 < (x3_1.length : Int) then (laws_toNodeS.l0 k1 l0 (x3_1.set (x4_1 : Int).toNat (⟨t200, t201, t202, (⟨t203, t204, t205, t206, t207, t208⟩ : S90), (⟨t209, t212⟩ : S41), t215, t216, t217, (⟨t220, (⟨t221, t222, t223, t224⟩ : S92), (⟨t225, t226, t227, t228⟩ : S92), (⟨t229, t230⟩ : S32), (⟨t231, t232⟩ : S32)⟩ : S94), t233, t234, (⟨t235, t238⟩ : S41)⟩ : S96)) (wrap64 (x4_1 + 1))) else (none)) = some r := H
       have A8 := Aside0.mk A80
       clear A80
       by_cases c9 : x4_1 < (x3_1.length : Int)
       ·rw [if_pos c9] at H
        have c9b0 : decide (x4_1 < (x3_1.length : Int)) = true := decide_eq_true c9
        clear c9
        obtain ⟨y241, hy241⟩ : ∃ y_ : List (S96), y_ = (x3_1.set (x4_1 : Int).toNat (⟨t200, t201, t202, (⟨t203, t204, t205, t206, t207, t208⟩ : S90), (⟨t209, t212⟩ : S41), t215, t216, t217, (⟨t220, (⟨t221, t222, t223, t224⟩ : S92), (⟨t225, t226, t227, t228⟩ : S92), (⟨t229, t230⟩ : S32), (⟨t231, t232⟩ : S32)⟩ : S94), t233, t234, (⟨t235, t238⟩ : S41)⟩ : S96)) := ⟨_, rfl⟩
        replace H : (laws_toNodeS.l0 k1 l0 y241 (wrap64 (x4_1 + 1))) = some r := by first | (rw [hy241]; with_reducible exact H) | (have H2_ := (Option.bind_some _ _).symm.trans H; rw [hy241]; with_reducible exact H2_) | (have H2_ := (Option.bind_some _ _).symm.trans H; with_reducible exact H2_) | with_reducible exact H | (rw [hy241]; exact H) | exact H
        have Ny241 := Aside0.mk hy241
        clear hy241
        have H' := Aside0.mk H
        clear H
        have p199 : 0 ≤ (x4_1 : Int) := of_decide_eq_true (by first | (with_reducible assumption) | assumption)
        have q199 : x4_1 < (l0.length : Int) := of_decide_eq_true (by first | (with_reducible assumption) | assumption)
        obtain ⟨ad199, A199_9, c199_9, A199_10, c199_10, A199_13, c199_13, A199_29, c199_29, A199_30, c199_30, e199, hx199_0, hx199_1, hx199_2, hx199_3, hx199_4, hx199_5, hx199_6, hx199_7, hx199_8, hx199_9, hx199_10, hx199_11, hx199_12, hx199_13, hx199_14, hx199_15, hx199_16, hx199_17, hx199_18, hx199_19, hx199_20, hx199_21, hx199_22, hx199_23, hx199_24, hx199_25, hx199_26, hx199_27, hx199_28, hx199_29, hx199_30, hl199_9, hi199_9, hl199_10, hi199_10, hl199_13, hi199_13, hl199_29, hi199_29, hl199_30, hi199_30⟩ := at_T173 HR0.out x4_1 p199 q199
        cases e199
        replace hx199_0 := (HB.out.cell (World.block_lt_of_cell? w _ hx199_0)).trans hx199_0
        replace hx199_1 := (HB.out.cell (World.block_lt_of_cell? w _ hx199_1)).trans hx199_1
        replace hx199_2 := (HB.out.cell (World.block_lt_of_cell? w _ hx199_2)).trans hx199_2
        replace hx199_3 := (HB.out.cell (World.block_lt_of_cell? w _ hx199_3)).trans hx199_3
        replace hx199_4 := (HB.out.cell (World.block_lt_of_cell? w _ hx199_4)).trans hx199_4
        replace hx199_5 := (HB.out.cell (World.block_lt_of_cell? w _ hx199_5)).trans hx199_5
        replace hx199_6 := (HB.out.cell (World.block_lt_of_cell? w _ hx199_6)).trans hx199_6
        replace hx199_7 := (HB.out.cell (World.block_lt_of_cell? w _ hx199_7)).trans hx199_7
        replace hx199_8 := (HB.out.cell (World.block_lt_of_cell? w _ hx199_8)).trans hx199_8
        replace hx199_9 := (HB.out.cell (World.block_lt_of_cell? w _ hx199_9)).trans hx199_9
        replace hx199_10 := (HB.out.cell (World.block_lt_of_cell? w _ hx199_10)).trans hx199_10
        replace hx199_11 := (HB.out.cell (World.block_lt_of_cell? w _ hx199_11)).trans hx199_11
        replace hx199_12 := (HB.out.cell (World.block_lt_of_cell? w _ hx199_12)).trans hx199_12
        replace hx199_13 := (HB.out.cell (World.block_lt_of_cell? w _ hx199_13)).trans hx199_13
        replace hx199_14 := (HB.out.cell (World.block_lt_of_cell? w _ hx199_14)).trans hx199_14
        replace hx199_15 := (HB.out.cell (World.block_lt_of_cell? w _ hx199_15)).trans hx199_15
        replace hx199_16 := (HB.out.cell (World.block_lt_of_cell? w _ hx199_16)).trans hx199_16
        replace hx199_17 := (HB.out.cell (World.block_lt_of_cell? w _ hx199_17)).trans hx199_17
        replace hx199_18 := (HB.out.cell (World.block_lt_of_cell? w _ hx199_18)).trans hx199_18
        replace hx199_19 := (HB.out.cell (World.block_lt_of_cell? w _ hx199_19)).trans hx199_19
        replace hx199_20 := (HB.out.cell (World.block_lt_of_cell? w _ hx199_20)).trans hx199_20
        replace hx199_21 := (HB.out.cell (World.block_lt_of_cell? w _ hx199_21)).trans hx199_21
        replace hx199_22 := (HB.out.cell (World.block_lt_of_cell? w _ hx199_22)).trans hx199_22
        replace hx199_23 := (HB.out.cell (World.block_lt_of_cell? w _ hx199_23)).trans hx199_23
        replace hx199_24 := (HB.out.cell (World.block_lt_of_cell? w _ hx199_24)).trans hx199_24
        replace hx199_25 := (HB.out.cell (World.block_lt_of_cell? w _ hx199_25)).trans hx199_25
        replace hx199_26 := (HB.out.cell (World.block_lt_of_cell? w _ hx199_26)).trans hx199_26
        replace hx199_27 := (HB.out.cell (World.block_lt_of_cell? w _ hx199_27)).trans hx199_27
        replace hx199_28 := (HB.out.cell (World.block_lt_of_cell? w _ hx199_28)).trans hx199_28
        replace hx199_29 := (HB.out.cell (World.block_lt_of_cell? w _ hx199_29)).trans hx199_29
        replace hx199_30 := (HB.out.cell (World.block_lt_of_cell? w _ hx199_30)).trans hx199_30
        have HR199_9 := Aside0.mk hi199_9
        have HC199_9 := Aside0.mk hl199_9
        clear hi199_9 hl199_9
        have HR199_10 := Aside0.mk hi199_10
        have HC199_10 := Aside0.mk hl199_10
        clear hi199_10 hl199_10
        have HR199_13 := Aside0.mk hi199_13
        have HC199_13 := Aside0.mk hl199_13
        clear hi199_13 hl199_13
        have HR199_29 := Aside0.mk hi199_29
        have HC199_29 := Aside0.mk hl199_29
        clear hi199_29 hl199_29
        have HR199_30 := Aside0.mk hi199_30
        have HC199_30 := Aside0.mk hl199_30
        clear hi199_30 hl199_30
        replace p199 := eq_true p199
        replace q199 := eq_true q199
        go_wp2_with (first | ((with_reducible refine gate_load (t := 173) rfl ?_); refine load_event (t := 173) rfl rfl (p := ad199.add (x4_1.toNat * 31)) rfl [.int .i64 (rd_T173 l0 x4_1).f0, .int .i64 (rd_T173 l0 x4_1).f1, .bool (rd_T173 l0 x4_1).f2, .int .i64 (rd_T173 l0 x4_1).f3.f0, .int .i64 (rd_T173 l0 x4_1).f3.f1, .int .i64 (rd_T173 l0 x4_1).f3.f2, .int .i64 (rd_T173 l0 x4_1).f3.f3, .int .i64 (rd_T173 l0 x4_1).f3.f4, .int .i64 (rd_T173 l0 x4_1).f3.f5, .slice A199_9 (rd_T173 l0 x4_1).f4.f0.length c199_9, .slice A199_10 (rd_T173 l0 x4_1).f4.f1.length c199_10, .bool (rd_T173 l0 x4_1).f5, .int .i64 (rd_T173 l0 x4_1).f6, .slice A199_13 (rd_T173 l0 x4_1).f7.length c199_13, .int .i64 (rd_T173 l0 x4_1).f8.f0, .int .i64 (rd_T173 l0 x4_1).f8.f1.f0, .int .i64 (rd_T173 l0 x4_1).f8.f1.f1, .int .i64 (rd_T173 l0 x4_1).f8.f1.f2, .int .i64 (rd_T173 l0 x4_1).f8.f1.f3, .int .i64 (rd_T173 l0 x4_1).f8.f2.f0, .int .i64 (rd_T173 l0 x4_1).f8.f2.f1, .int .i64 (rd_T173 l0 x4_1).f8.f2.f2, .int .i64 (rd_T173 l0 x4_1).f8.f2.f3, .int .i64 (rd_T173 l0 x4_1).f8.f3.f0, .int .i64 (rd_T173 l0 x4_1).f8.f3.f1, .int .i64 (rd_T173 l0 x4_1).f8.f4.f0, .int .i64 (rd_T173 l0 x4_1).f8.f4.f1, .int .i64 (rd_T173 l0 x4_1).f9, .int .i64 (rd_T173 l0 x4_1).f10, .slice A199_29 (rd_T173 l0 x4_1).f11.f0.length c199_29, .slice A199_30 (rd_T173 l0 x4_1).f11.f1.length c199_30] _ (lie_cons (by first | exact hx199_0 | simpa using hx199_0) (lie_cons (by first | exact hx199_1 | simpa using hx199_1) (lie_cons (by first | exact hx199_2 | simpa using hx199_2) (lie_cons (by first | exact hx199_3 | simpa using hx199_3) (lie_cons (by first | exact hx199_4 | simpa using hx199_4) (lie_cons (by first | exact hx199_5 | simpa using hx199_5) (lie_cons (by first | exact hx199_6 | simpa using hx199_6) (lie_cons (by first | exact hx199_7 | simpa using hx199_7) (lie_cons (by first | exact hx199_8 | simpa using hx199_8) (lie_cons (by first | exact hx199_9 | simpa using hx199_9) (lie_cons (by first | exact hx199_10 | simpa using hx199_10) (lie_cons (by first | exact hx199_11 | simpa using hx199_11) (lie_cons (by first | exact hx199_12 | simpa using hx199_12) (lie_cons (by first | exact hx199_13 | simpa using hx199_13) (lie_cons (by first | exact hx199_14 | simpa using hx199_14) (lie_cons (by first | exact hx199_15 | simpa using hx199_15) (lie_cons (by first | exact hx199_16 | simpa using hx199_16) (lie_cons (by first | exact hx199_17 | simpa using hx199_17) (lie_cons (by first | exact hx199_18 | simpa using hx199_18) (lie_cons (by first | exact hx199_19 | simpa using hx199_19) (lie_cons (by first | exact hx199_20 | simpa using hx199_20) (lie_cons (by first | exact hx199_21 | simpa using hx199_21) (lie_cons (by first | exact hx199_22 | simpa using hx199_22) (lie_cons (by first | exact hx199_23 | simpa using hx199_23) (lie_cons (by first | exact hx199_24 | simpa using hx199_24) (lie_cons (by first | exact hx199_25 | simpa using hx199_25) (lie_cons (by first | exact hx199_26 | simpa using hx199_26) (lie_cons (by first | exact hx199_27 | simpa using hx199_27) (lie_cons (by first | exact hx199_28 | simpa using hx199_28) (lie_cons (by first | exact hx199_29 | simpa using hx199_29) (lie_cons (by first | exact hx199_30 | simpa using hx199_30) (lie_nil _ _ _)))))))))))))))))))))))))))))))) Try.underlying173 rfl (show (Try.prog.info? 173).map (·.size) = some 31 by kernel_rfl) ?_) | ((with_reducible refine gate_callee (f := 161) rfl ?_); refine goesL_ (some 20) rfl rfl Try.func161 (by kernel_rfl) rfl #[.agg #[.int .i64 ((rd_T173 l0 x4_1).f0), .int .i64 ((rd_T173 l0 x4_1).f1), .bool ((rd_T173 l0 x4_1).f2), .int .i64 ((rd_T173 l0 x4_1).f3.f0), .int .i64 ((rd_T173 l0 x4_1).f3.f1), .int .i64 ((rd_T173 l0 x4_1).f3.f2), .int .i64 ((rd_T173 l0 x4_1).f3.f3), .int .i64 ((rd_T173 l0 x4_1).f3.f4), .int .i64 ((rd_T173 l0 x4_1).f3.f5), .slice A199_9 ((rd_T173 l0 x4_1).f4.f0).length c199_9, .slice A199_10 ((rd_T173 l0 x4_1).f4.f1).length c199_10, .bool ((rd_T173 l0 x4_1).f5), .int .i64 ((rd_T173 l0 x4_1).f6), .slice A199_13 ((rd_T173 l0 x4_1).f7).length c199_13, .int .i64 ((rd_T173 l0 x4_1).f8.f0), .int .i64 ((rd_T173 l0 x4_1).f8.f1.f0), .int .i64 ((rd_T173 l0 x4_1).f8.f1.f1), .int .i64 ((rd_T173 l0 x4_1).f8.f1.f2), .int .i64 ((rd_T173 l0 x4_1).f8.f1.f3), .int .i64 ((rd_T173 l0 x4_1).f8.f2.f0), .int .i64 ((rd_T173 l0 x4_1).f8.f2.f1), .int .i64 ((rd_T173 l0 x4_1).f8.f2.f2), .int .i64 ((rd_T173 l0 x4_1).f8.f2.f3), .int .i64 ((rd_T173 l0 x4_1).f8.f3.f0), .int .i64 ((rd_T173 l0 x4_1).f8.f3.f1), .int .i64 ((rd_T173 l0 x4_1).f8.f4.f0), .int .i64 ((rd_T173 l0 x4_1).f8.f4.f1), .int .i64 ((rd_T173 l0 x4_1).f9), .int .i64 ((rd_T173 l0 x4_1).f10), .slice A199_29 ((rd_T173 l0 x4_1).f11.f0).length c199_29, .slice A199_30 ((rd_T173 l0 x4_1).f11.f1).length c199_30]] rfl z3_12 ?_; (with_reducible refine (laws_toNode.calls k1 ((rd_T173 l0 x4_1).f0) ((rd_T173 l0 x4_1).f1) ((rd_T173 l0 x4_1).f2) ((rd_T173 l0 x4_1).f3.f0) ((rd_T173 l0 x4_1).f3.f1) ((rd_T173 l0 x4_1).f3.f2) ((rd_T173 l0 x4_1).f3.f3) ((rd_T173 l0 x4_1).f3.f4) ((rd_T173 l0 x4_1).f3.f5) _ _ ((rd_T173 l0 x4_1).f4.f0) _ _ ((rd_T173 l0 x4_1).f4.f1) ((rd_T173 l0 x4_1).f5) ((rd_T173 l0 x4_1).f6) _ _ ((rd_T173 l0 x4_1).f7) ((rd_T173 l0 x4_1).f8.f0) ((rd_T173 l0 x4_1).f8.f1.f0) ((rd_T173 l0 x4_1).f8.f1.f1) ((rd_T173 l0 x4_1).f8.f1.f2) ((rd_T173 l0 x4_1).f8.f1.f3) ((rd_T173 l0 x4_1).f8.f2.f0) ((rd_T173 l0 x4_1).f8.f2.f1) ((rd_T173 l0 x4_1).f8.f2.f2) ((rd_T173 l0 x4_1).f8.f2.f3) ((rd_T173 l0 x4_1).f8.f3.f0) ((rd_T173 l0 x4_1).f8.f3.f1) ((rd_T173 l0 x4_1).f8.f4.f0) ((rd_T173 l0 x4_1).f8.f4.f1) ((rd_T173 l0 x4_1).f9) ((rd_T173 l0 x4_1).f10) _ _ ((rd_T173 l0 x4_1).f11.f0) _ _ ((rd_T173 l0 x4_1).f11.f1) t200 t201 t202 t203 t204 t205 t206 t207 t208 t209 t212 t215 t216 t217 t220 t221 t222 t223 t224 t225 t226 t227 t228 t229 t230 t231 t232 t233 t234 t235 t238 _ ?side1 ?side2 ?side3 ?side4 ?side5 ?side6 ?side7 ?side8 ?side9 ?side10 A8.out).mono ?_); (case side1 => repeat (first | exact (Kd.C_below HR199_9.out HB.out) | (with_reducible refine Kd.C_alloc ?_ _) | (with_reducible refine Kd.C_drewN ?_ _) | (with_reducible refine Kd.C_drew ?_))); (case side2 => exact HC199_9.out); (case side3 => repeat (first | exact (Kd.C_below HR199_10.out HB.out) | (with_reducible refine Kd.C_alloc ?_ _) | (with_reducible refine Kd.C_drewN ?_ _) | (with_reducible refine Kd.C_drew ?_))); (case side4 => exact HC199_10.out); (case side5 => repeat (first | exact (Kd.C_below HR199_13.out HB.out) | (with_reducible refine Kd.C_alloc ?_ _) | (with_reducible refine Kd.C_drewN ?_ _) | (with_reducible refine Kd.C_drew ?_))); (case side6 => exact HC199_13.out); (case side7 => repeat (first | exact (Kd.C_below HR199_29.out HB.out) | (with_reducible refine Kd.C_alloc ?_ _) | (with_reducible refine Kd.C_drewN ?_ _) | (with_reducible refine Kd.C_drew ?_))); (case side8 => exact HC199_29.out); (case side9 => repeat (first | exact (Kd.C_below HR199_30.out HB.out) | (with_reducible refine Kd.C_alloc ?_ _) | (with_reducible refine Kd.C_drewN ?_ _) | (with_reducible refine Kd.C_drew ?_))); (case side10 => exact HC199_30.out); rintro e w11 ⟨v210, v213, v218, v236, v239, rfl, ho0, ho1, ho2, ho3, ho4, hb⟩; refine ⟨_, rfl, ?_⟩; have n0_ := Aside0.mk (Kd.S_mono (Kd.S_told (Kd.S_told (Kd.S_told (Kd.S_told (Kd.S_told (Kd.S_old (by (with_reducible repeat (first | apply Kd.S_alloc | apply Kd.S_drewN | apply Kd.S_drew)); exact HO_3.out) hb) (Kd.R_base ho0)) (Kd.R_base ho1)) (Kd.R_base ho2)) (Kd.R_base ho3)) (Kd.R_base ho4)) (fun _ h_ => h_.1)); have n1_ := Aside0.mk (Kd.R_lower ho0 (below_size z3_0)); have n2_ := Aside0.mk (Kd.R_lower ho1 (below_size z3_0)); have n3_ := Aside0.mk (Kd.R_lower ho2 (below_size z3_0)); have n4_ := Aside0.mk (Kd.R_lower ho3 (below_size z3_0)); have n5_ := Aside0.mk (Kd.R_lower ho4 (below_size z3_0)); have n6_ := Aside0.mk (below_step z3_0 hb); clear HO_3; clear HB; have HO_3 := n0_; have HO211 := n1_; have HO214 := n2_; have HO219 := n3_; have HO237 := n4_; have HO240 := n5_; have HB := n6_; clear n0_ n1_ n2_ n3_ n4_ n5_ n6_; (try clear hb); (try clear hb2); (try clear hk); (try clear hi); (try clear ho0); (try clear ho1); (try clear ho2); (try clear ho3); (try clear ho4); have p10 : 0 ≤ (x4_1 : Int) := of_decide_eq_true (by first | (with_reducible assumption) | assumption); have q10 : (x4_1 : Int) < ((x3_1.length : Int) : Int) := of_decide_eq_true (by first | (with_reducible assumption) | assumption); obtain ⟨go10, co10, eo10, gb10, gl10, cl10, HG10⟩ := Kd.S_form HO_3.out (by omega); (first | cases eo10 | (injection eo10 with ea_ en_ ec_; (first | subst ea_ | (injection ea_ with ea_; subst ea_)); subst ec_; clear en_)); have GB10 := Aside0.mk gb10; have GG10 := Aside0.mk HG10; clear gb10 gl10 HG10; obtain ⟨_, ce10, hcl10, hM10, hcc10, hfr10, _, _⟩ := Kd.S_elem HO_3.out z96 (x4_1 : Int) p10 q10; obtain ⟨ve10_9, ve10_10, ve10_13, ve10_29, ve10_30, rfl, ge10_9, ge10_10, ge10_13, ge10_29, ge10_30⟩ := k96_openM hM10; have hx10_0 : w11.cell? ⟨go10, (x4_1 : Int).toNat * 31, none⟩ = some (.int .i64 ((rd_T96 x3_1 x4_1).f0)) := hcc10 0 _ rfl; have hx10_1 : w11.cell? ⟨go10, (x4_1 : Int).toNat * 31 + 1, none⟩ = some (.int .i64 ((rd_T96 x3_1 x4_1).f1)) := hcc10 1 _ rfl; have hx10_2 : w11.cell? ⟨go10, (x4_1 : Int).toNat * 31 + 2, none⟩ = some (.bool ((rd_T96 x3_1 x4_1).f2)) := hcc10 2 _ rfl; have hx10_3 : w11.cell? ⟨go10, (x4_1 : Int).toNat * 31 + 3, none⟩ = some (.int .i64 ((rd_T96 x3_1 x4_1).f3.f0)) := hcc10 3 _ rfl; have hx10_4 : w11.cell? ⟨go10, (x4_1 : Int).toNat * 31 + 4, none⟩ = some (.int .i64 ((rd_T96 x3_1 x4_1).f3.f1)) := hcc10 4 _ rfl; have hx10_5 : w11.cell? ⟨go10, (x4_1 : Int).toNat * 31 + 5, none⟩ = some (.int .i64 ((rd_T96 x3_1 x4_1).f3.f2)) := hcc10 5 _ rfl; have hx10_6 : w11.cell? ⟨go10, (x4_1 : Int).toNat * 31 + 6, none⟩ = some (.int .i64 ((rd_T96 x3_1 x4_1).f3.f3)) := hcc10 6 _ rfl; have hx10_7 : w11.cell? ⟨go10, (x4_1 : Int).toNat * 31 + 7, none⟩ = some (.int .i64 ((rd_T96 x3_1 x4_1).f3.f4)) := hcc10 7 _ rfl; have hx10_8 : w11.cell? ⟨go10, (x4_1 : Int).toNat * 31 + 8, none⟩ = some (.int .i64 ((rd_T96 x3_1 x4_1).f3.f5)) := hcc10 8 _ rfl; have hx10_9 : w11.cell? ⟨go10, (x4_1 : Int).toNat * 31 + 9, none⟩ = some (ve10_9) := hcc10 9 _ rfl; have hx10_10 : w11.cell? ⟨go10, (x4_1 : Int).toNat * 31 + 10, none⟩ = some (ve10_10) := hcc10 10 _ rfl; have hx10_11 : w11.cell? ⟨go10, (x4_1 : Int).toNat * 31 + 11, none⟩ = some (.bool ((rd_T96 x3_1 x4_1).f5)) := hcc10 11 _ rfl; have hx10_12 : w11.cell? ⟨go10, (x4_1 : Int).toNat * 31 + 12, none⟩ = some (.int .i64 ((rd_T96 x3_1 x4_1).f6)) := hcc10 12 _ rfl; have hx10_13 : w11.cell? ⟨go10, (x4_1 : Int).toNat * 31 + 13, none⟩ = some (ve10_13) := hcc10 13 _ rfl; have hx10_14 : w11.cell? ⟨go10, (x4_1 : Int).toNat * 31 + 14, none⟩ = some (.int .i64 ((rd_T96 x3_1 x4_1).f8.f0)) := hcc10 14 _ rfl; have hx10_15 : w11.cell? ⟨go10, (x4_1 : Int).toNat * 31 + 15, none⟩ = some (.int .i64 ((rd_T96 x3_1 x4_1).f8.f1.f0)) := hcc10 15 _ rfl; have hx10_16 : w11.cell? ⟨go10, (x4_1 : Int).toNat * 31 + 16, none⟩ = some (.int .i64 ((rd_T96 x3_1 x4_1).f8.f1.f1)) := hcc10 16 _ rfl; have hx10_17 : w11.cell? ⟨go10, (x4_1 : Int).toNat * 31 + 17, none⟩ = some (.int .i64 ((rd_T96 x3_1 x4_1).f8.f1.f2)) := hcc10 17 _ rfl; have hx10_18 : w11.cell? ⟨go10, (x4_1 : Int).toNat * 31 + 18, none⟩ = some (.int .i64 ((rd_T96 x3_1 x4_1).f8.f1.f3)) := hcc10 18 _ rfl; have hx10_19 : w11.cell? ⟨go10, (x4_1 : Int).toNat * 31 + 19, none⟩ = some (.int .i64 ((rd_T96 x3_1 x4_1).f8.f2.f0)) := hcc10 19 _ rfl; have hx10_20 : w11.cell? ⟨go10, (x4_1 : Int).toNat * 31 + 20, none⟩ = some (.int .i64 ((rd_T96 x3_1 x4_1).f8.f2.f1)) := hcc10 20 _ rfl; have hx10_21 : w11.cell? ⟨go10, (x4_1 : Int).toNat * 31 + 21, none⟩ = some (.int .i64 ((rd_T96 x3_1 x4_1).f8.f2.f2)) := hcc10 21 _ rfl; have hx10_22 : w11.cell? ⟨go10, (x4_1 : Int).toNat * 31 + 22, none⟩ = some (.int .i64 ((rd_T96 x3_1 x4_1).f8.f2.f3)) := hcc10 22 _ rfl; have hx10_23 : w11.cell? ⟨go10, (x4_1 : Int).toNat * 31 + 23, none⟩ = some (.int .i64 ((rd_T96 x3_1 x4_1).f8.f3.f0)) := hcc10 23 _ rfl; have hx10_24 : w11.cell? ⟨go10, (x4_1 : Int).toNat * 31 + 24, none⟩ = some (.int .i64 ((rd_T96 x3_1 x4_1).f8.f3.f1)) := hcc10 24 _ rfl; have hx10_25 : w11.cell? ⟨go10, (x4_1 : Int).toNat * 31 + 25, none⟩ = some (.int .i64 ((rd_T96 x3_1 x4_1).f8.f4.f0)) := hcc10 25 _ rfl; have hx10_26 : w11.cell? ⟨go10, (x4_1 : Int).toNat * 31 + 26, none⟩ = some (.int .i64 ((rd_T96 x3_1 x4_1).f8.f4.f1)) := hcc10 26 _ rfl; have hx10_27 : w11.cell? ⟨go10, (x4_1 : Int).toNat * 31 + 27, none⟩ = some (.int .i64 ((rd_T96 x3_1 x4_1).f9)) := hcc10 27 _ rfl; have hx10_28 : w11.cell? ⟨go10, (x4_1 : Int).toNat * 31 + 28, none⟩ = some (.int .i64 ((rd_T96 x3_1 x4_1).f10)) := hcc10 28 _ rfl; have hx10_29 : w11.cell? ⟨go10, (x4_1 : Int).toNat * 31 + 29, none⟩ = some (ve10_29) := hcc10 29 _ rfl; have hx10_30 : w11.cell? ⟨go10, (x4_1 : Int).toNat * 31 + 30, none⟩ = some (ve10_30) := hcc10 30 _ rfl; have hf10_0 : w11.frozen? ⟨go10, (x4_1 : Int).toNat * 31, none⟩ = false := hfr10 0; have hf10_1 : w11.frozen? ⟨go10, (x4_1 : Int).toNat * 31 + 1, none⟩ = false := hfr10 1; have hf10_2 : w11.frozen? ⟨go10, (x4_1 : Int).toNat * 31 + 2, none⟩ = false := hfr10 2; have hf10_3 : w11.frozen? ⟨go10, (x4_1 : Int).toNat * 31 + 3, none⟩ = false := hfr10 3; have hf10_4 : w11.frozen? ⟨go10, (x4_1 : Int).toNat * 31 + 4, none⟩ = false := hfr10 4; have hf10_5 : w11.frozen? ⟨go10, (x4_1 : Int).toNat * 31 + 5, none⟩ = false := hfr10 5; have hf10_6 : w11.frozen? ⟨go10, (x4_1 : Int).toNat * 31 + 6, none⟩ = false := hfr10 6; have hf10_7 : w11.frozen? ⟨go10, (x4_1 : Int).toNat * 31 + 7, none⟩ = false := hfr10 7; have hf10_8 : w11.frozen? ⟨go10, (x4_1 : Int).toNat * 31 + 8, none⟩ = false := hfr10 8; have hf10_9 : w11.frozen? ⟨go10, (x4_1 : Int).toNat * 31 + 9, none⟩ = false := hfr10 9; have hf10_10 : w11.frozen? ⟨go10, (x4_1 : Int).toNat * 31 + 10, none⟩ = false := hfr10 10; have hf10_11 : w11.frozen? ⟨go10, (x4_1 : Int).toNat * 31 + 11, none⟩ = false := hfr10 11; have hf10_12 : w11.frozen? ⟨go10, (x4_1 : Int).toNat * 31 + 12, none⟩ = false := hfr10 12; have hf10_13 : w11.frozen? ⟨go10, (x4_1 : Int).toNat * 31 + 13, none⟩ = false := hfr10 13; have hf10_14 : w11.frozen? ⟨go10, (x4_1 : Int).toNat * 31 + 14, none⟩ = false := hfr10 14; have hf10_15 : w11.frozen? ⟨go10, (x4_1 : Int).toNat * 31 + 15, none⟩ = false := hfr10 15; have hf10_16 : w11.frozen? ⟨go10, (x4_1 : Int).toNat * 31 + 16, none⟩ = false := hfr10 16; have hf10_17 : w11.frozen? ⟨go10, (x4_1 : Int).toNat * 31 + 17, none⟩ = false := hfr10 17; have hf10_18 : w11.frozen? ⟨go10, (x4_1 : Int).toNat * 31 + 18, none⟩ = false := hfr10 18; have hf10_19 : w11.frozen? ⟨go10, (x4_1 : Int).toNat * 31 + 19, none⟩ = false := hfr10 19; have hf10_20 : w11.frozen? ⟨go10, (x4_1 : Int).toNat * 31 + 20, none⟩ = false := hfr10 20; have hf10_21 : w11.frozen? ⟨go10, (x4_1 : Int).toNat * 31 + 21, none⟩ = false := hfr10 21; have hf10_22 : w11.frozen? ⟨go10, (x4_1 : Int).toNat * 31 + 22, none⟩ = false := hfr10 22; have hf10_23 : w11.frozen? ⟨go10, (x4_1 : Int).toNat * 31 + 23, none⟩ = false := hfr10 23; have hf10_24 : w11.frozen? ⟨go10, (x4_1 : Int).toNat * 31 + 24, none⟩ = false := hfr10 24; have hf10_25 : w11.frozen? ⟨go10, (x4_1 : Int).toNat * 31 + 25, none⟩ = false := hfr10 25; have hf10_26 : w11.frozen? ⟨go10, (x4_1 : Int).toNat * 31 + 26, none⟩ = false := hfr10 26; have hf10_27 : w11.frozen? ⟨go10, (x4_1 : Int).toNat * 31 + 27, none⟩ = false := hfr10 27; have hf10_28 : w11.frozen? ⟨go10, (x4_1 : Int).toNat * 31 + 28, none⟩ = false := hfr10 28; have hf10_29 : w11.frozen? ⟨go10, (x4_1 : Int).toNat * 31 + 29, none⟩ = false := hfr10 29; have hf10_30 : w11.frozen? ⟨go10, (x4_1 : Int).toNat * 31 + 30, none⟩ = false := hfr10 30; clear hcl10 hcc10 hfr10; (try clear hM10); replace p10 := eq_true p10; replace q10 := eq_true q10; have n_ := Aside0.mk (Kd.S_mono (ok' := (fun k_ => some k_ ≠ (v210 : Value).ownBlock ∧ some k_ ≠ (v213 : Value).ownBlock ∧ some k_ ≠ (v218 : Value).ownBlock ∧ some k_ ≠ (v236 : Value).ownBlock ∧ some k_ ≠ (v239 : Value).ownBlock)) HO_3.out (fun k_ hk => ⟨hk.1.1.1.1.2, ⟨hk.1.1.1.2, ⟨hk.1.1.2, ⟨hk.1.2, hk.2⟩⟩⟩⟩)); clear HO_3; have HO_3 := n_; clear n_; have HX12 := Aside0.mk (show Kd.S k96 96 w11 w.heap.size (fun k_ => ((fun _ => True)) k_ ∧ ¬ ((fun k_ => some k_ = (v210 : Value).ownBlock ∨ some k_ = (v213 : Value).ownBlock ∨ some k_ = (v218 : Value).ownBlock ∨ some k_ = (v236 : Value).ownBlock ∨ some k_ = (v239 : Value).ownBlock)) k_) (.slice (some ⟨go10, 0, none⟩) x3_1.length co10) x3_1 from (by (with_reducible repeat (first | apply Kd.S_alloc | apply Kd.S_drewN | apply Kd.S_drew)); exact Kd.S_mono HO_3.out (fun k_ hk => ⟨trivial, fun e_ => e_.elim (fun h_ => hk.1 h_) (fun h_ => h_.elim (fun h_ => hk.2.1 h_) (fun h_ => h_.elim (fun h_ => hk.2.2.1 h_) (fun h_ => h_.elim (fun h_ => hk.2.2.2.1 h_) (fun h_ => hk.2.2.2.2 h_))))⟩))); obtain ⟨oki12, ce12, hcl12, hM12, hcc12, hfr12, hoki12, hH12⟩ := Kd.S_elem HX12.out z96 (x4_1 : Int) (of_decide_eq_true (by first | (with_reducible assumption) | assumption)) (by have h_ : (x4_1 : Int) < ((x3_1.length : Int) : Int) := of_decide_eq_true (by first | (with_reducible assumption) | assumption); first | exact h_ | (have e_ := (Kd.S_reads' HO_3.out).1; omega) | simpa using h_); obtain ⟨ve12_9, ve12_10, ve12_13, ve12_29, ve12_30, rfl, ge12_9, ge12_10, ge12_13, ge12_29, ge12_30⟩ := k96_openM hM12; have HP12 := Kd.S_seg hH12 (of_decide_eq_true (by first | (with_reducible assumption) | assumption)) (by have h_ : (x4_1 : Int) < ((x3_1.length : Int) : Int) := of_decide_eq_true (by first | (with_reducible assumption) | assumption); first | exact h_ | (have e_ := (Kd.S_reads' HO_3.out).1; omega) | simpa using h_) (seg := [.int .i64 t200, .int .i64 t201, .bool t202, .int .i64 t203, .int .i64 t204, .int .i64 t205, .int .i64 t206, .int .i64 t207, .int .i64 t208, v210, v213, .bool t215, .int .i64 t216, v218, .int .i64 t220, .int .i64 t221, .int .i64 t222, .int .i64 t223, .int .i64 t224, .int .i64 t225, .int .i64 t226, .int .i64 t227, .int .i64 t228, .int .i64 t229, .int .i64 t230, .int .i64 t231, .int .i64 t232, .int .i64 t233, .int .i64 t234, v236, v239]) (j := 0) (show 31 ≤ 31 from by decide) (x' := (⟨t200, t201, t202, (⟨t203, t204, t205, t206, t207, t208⟩ : S90), (⟨t209, t212⟩ : S41), t215, t216, t217, (⟨t220, (⟨t221, t222, t223, t224⟩ : S92), (⟨t225, t226, t227, t228⟩ : S92), (⟨t229, t230⟩ : S32), (⟨t231, t232⟩ : S32)⟩ : S94), t233, t234, (⟨t235, t238⟩ : S41)⟩ : S96)) (k96_mkM _ _ _ (⟨t200, t201, t202, (⟨t203, t204, t205, t206, t207, t208⟩ : S90), (⟨t209, t212⟩ : S41), t215, t216, t217, (⟨t220, (⟨t221, t222, t223, t224⟩ : S92), (⟨t225, t226, t227, t228⟩ : S92), (⟨t229, t230⟩ : S32), (⟨t231, t232⟩ : S32)⟩ : S94), t233, t234, (⟨t235, t238⟩ : S41)⟩ : S96) (Kd.R_mono (Kd.R_tight rfl (Kd.R_mono (ok' := fun k_ => ((fun _ => True)) k_ ∧ k_ ≠ go10) (Kd.R_apart' (HO211.out) (Kd.S_typed HO_3.out) (by decide)) (fun k_ hk => ⟨trivial, fun e_ => (hk.2) (by rw [e_]; rfl)⟩))) (fun _ h_ => Or.inr (Or.inl h_))) (Kd.R_mono (Kd.R_tight rfl (Kd.R_mono (ok' := fun k_ => ((fun _ => True)) k_ ∧ k_ ≠ go10) (Kd.R_apart' (HO214.out) (Kd.S_typed HO_3.out) (by decide)) (fun k_ hk => ⟨trivial, fun e_ => (hk.2) (by rw [e_]; rfl)⟩))) (fun _ h_ => Or.inr (Or.inr (Or.inl h_)))) (Kd.R_mono (Kd.R_tight rfl (Kd.R_mono (ok' := fun k_ => ((fun _ => True)) k_ ∧ k_ ≠ go10) (Kd.R_apart' (HO219.out) (Kd.S_typed HO_3.out) (by decide)) (fun k_ hk => ⟨trivial, fun e_ => (hk.2) (by rw [e_]; rfl)⟩))) (fun _ h_ => Or.inr (Or.inr (Or.inr (Or.inl h_))))) (Kd.R_mono (Kd.R_tight rfl (Kd.R_mono (ok' := fun k_ => ((fun _ => True)) k_ ∧ k_ ≠ go10) (Kd.R_apart' (HO237.out) (Kd.S_typed HO_3.out) (by decide)) (fun k_ hk => ⟨trivial, fun e_ => (hk.2) (by rw [e_]; rfl)⟩))) (fun _ h_ => Or.inr (Or.inr (Or.inr (Or.inr (Or.inl h_)))))) (Kd.R_mono (Kd.R_tight rfl (Kd.R_mono (ok' := fun k_ => ((fun _ => True)) k_ ∧ k_ ≠ go10) (Kd.R_apart' (HO240.out) (Kd.S_typed HO_3.out) (by decide)) (fun k_ hk => ⟨trivial, fun e_ => (hk.2) (by rw [e_]; rfl)⟩))) (fun _ h_ => Or.inr (Or.inr (Or.inr (Or.inr (Or.inr (h_)))))))) (fun _ hk => hk) (fun k_ hk_ => hk_.elim (fun h_ => ((Kd.R_mono (ok' := fun k_ => ((fun _ => True)) k_ ∧ k_ ≠ go10) (Kd.R_apart' (HO211.out) (Kd.S_typed HO_3.out) (by decide)) (fun k_ hk => ⟨trivial, fun e_ => (hk.2) (by rw [e_]; rfl)⟩))).1 k_ h_.symm) (fun h_ => h_.elim (fun h_ => ((Kd.R_mono (ok' := fun k_ => ((fun _ => True)) k_ ∧ k_ ≠ go10) (Kd.R_apart' (HO214.out) (Kd.S_typed HO_3.out) (by decide)) (fun k_ hk => ⟨trivial, fun e_ => (hk.2) (by rw [e_]; rfl)⟩))).1 k_ h_.symm) (fun h_ => h_.elim (fun h_ => ((Kd.R_mono (ok' := fun k_ => ((fun _ => True)) k_ ∧ k_ ≠ go10) (Kd.R_apart' (HO219.out) (Kd.S_typed HO_3.out) (by decide)) (fun k_ hk => ⟨trivial, fun e_ => (hk.2) (by rw [e_]; rfl)⟩))).1 k_ h_.symm) (fun h_ => h_.elim (fun h_ => ((Kd.R_mono (ok' := fun k_ => ((fun _ => True)) k_ ∧ k_ ≠ go10) (Kd.R_apart' (HO237.out) (Kd.S_typed HO_3.out) (by decide)) (fun k_ hk => ⟨trivial, fun e_ => (hk.2) (by rw [e_]; rfl)⟩))).1 k_ h_.symm) (fun h_ => ((Kd.R_mono (ok' := fun k_ => ((fun _ => True)) k_ ∧ k_ ≠ go10) (Kd.R_apart' (HO240.out) (Kd.S_typed HO_3.out) (by decide)) (fun k_ hk => ⟨trivial, fun e_ => (hk.2) (by rw [e_]; rfl)⟩))).1 k_ h_.symm))))); have HT12 := Aside0.mk (there_of hcl12 hcc12 hfr12); clear hcl12 hcc12 hfr12 hoki12 hH12; (try clear hM12)) | ((with_reducible refine gate_store (t := 96) (p := 21) rfl ?_); refine kstore_event rfl (t := 96) rfl (g := go10) (n := (x4_1 : Int).toNat * 31) (by first | rfl | (go_simp; done) | (go_simp; rfl) | (simp [Addr.add]; done)) [.int .i64 t200, .int .i64 t201, .bool t202, .int .i64 t203, .int .i64 t204, .int .i64 t205, .int .i64 t206, .int .i64 t207, .int .i64 t208, v210, v213, .bool t215, .int .i64 t216, v218, .int .i64 t220, .int .i64 t221, .int .i64 t222, .int .i64 t223, .int .i64 t224, .int .i64 t225, .int .i64 t226, .int .i64 t227, .int .i64 t228, .int .i64 t229, .int .i64 t230, .int .i64 t231, .int .i64 t232, .int .i64 t233, .int .i64 t234, v236, v239] (by first | rfl | (go_simp; done) | (go_simp; rfl)) HT12.out (show (Try.prog.info? 96).map (·.size) = some 31 by kernel_rfl) (by first | rfl | ((try (obtain ⟨_, _, eq_⟩ := Kd.R_slice HO211.out; subst eq_)); (try (obtain ⟨_, _, eq_⟩ := Kd.R_slice HO214.out; subst eq_)); (try (obtain ⟨_, _, eq_⟩ := Kd.R_slice HO219.out; subst eq_)); (try (obtain ⟨_, _, eq_⟩ := Kd.R_slice HO237.out; subst eq_)); (try (obtain ⟨_, _, eq_⟩ := Kd.R_slice HO240.out; subst eq_)); (try (obtain ⟨_, _, eq_⟩ := Kd.R_slice HO_3.out; subst eq_)); rfl)) ?_; intro w13 hw; have hg : w11.grownBy w13 (some go10) := (by rw [hw]; exact HP12.2); have hp_ : Kd.S k96 96 w13 w.heap.size (fun _ => True) (.slice (some ⟨go10, 0, none⟩) x3_1.length co10) y241 := (by rw [hw, Ny241.out]; exact HP12.1); clear HP12; have n0_ := Aside0.mk (hp_); have n1_ := Aside0.mk ((by rw [hw]; exact below_setCells _ (HB.out) GB10.out : Below w.heap.size w w13)); clear HO_3; clear HB; clear HO211; clear HO214; clear HO219; clear HO237; clear HO240; have HO_3 := n0_; have HB := n1_; clear n0_ n1_; clear hg hw hp_))
        go_roundg k1
        case measure => have := HK1.out; omega
        case rel => exact ⟨(y241), (wrap64 (x4_1 + 1)), (by first | rfl | (simp; done) | (simp [*]; done)), H', ⟨by have := HK1.out; omega⟩, ⟨by (with_reducible repeat (first | apply Kd.S_alloc | apply Kd.S_drewN | apply Kd.S_drew)); exact HO_3.out⟩, ⟨by repeat (first | (with_reducible first | exact HB.out | apply below_alloc | apply pw_below_drewN | apply below_drew1) | exact HB.out)⟩⟩
       ·rw [if_neg c9] at H
        exact absurd H (by simp)
      ·rw [if_neg c7] at H
       exact absurd H (by simp)
     ·rw [if_neg c6] at H
      have c6b0 : decide (x4_1 < (l0.length : Int)) = false := decide_eq_false c6
      clear c6
      obtain rfl := Option.some.inj H
      simp only [Option.some.injEq, Prod.mk.injEq] at H
      obtain ⟨rfl⟩ := H
      go_wp2
      go_ret
      exact ⟨_, by first | rfl | (simp [errW_none, errW_some] <;> rfl) | (simp [*, errW_none, errW_some] <;> rfl), by (with_reducible repeat (first | apply Kd.S_alloc | apply Kd.S_drewN | apply Kd.S_drew)); exact HO_3.out, by repeat (first | (with_reducible first | exact HB.out | apply below_alloc | apply pw_below_drewN | apply below_drew1) | exact HB.out)⟩
  ·rw [if_neg c3] at H
   exact absurd H (by simp)
 ·rw [if_neg c2] at H
  exact absurd H (by simp)

/-! ### laws_toScene: function 50 -/
def laws_toScene.f (k : Nat) (l0_0 : List (S173)) : Option ((List (S96))) := (laws_toNodeS.f k l0_0).bind fun t245 => (some t245)
theorem laws_toScene.mono : ∀ a0 k, LeO (laws_toScene.f k a0) (laws_toScene.f (k + 1) a0) := by
 intro a0 k
 unfold laws_toScene.f
 repeat' first
   | (with_reducible exact laws_toNodeS.mono _ _)
   | (with_reducible exact LeO.refl _)
   | (with_reducible exact LeO.none _)
   | (with_reducible refine LeO.ite ?_ ?_)
   | (with_reducible refine LeO.bind ?_ (fun _ => ?_))
   | exact laws_toNodeS.mono _ _
   | exact LeO.none _
   | refine LeO.ite ?_ ?_
   | refine LeO.bind ?_ (fun _ => ?_)
set_option maxHeartbeats 8000000 in
set_option maxRecDepth 100000 in
theorem laws_toScene.calls (k : Nat) (A0_0 : Option Addr) (c0_0 : Nat) (l0_0 : List (S173)) (r : List (S96)) (w : World) (hr0_0 : Kd.C k173 w A0_0 l0_0.length l0_0) (hc0_0 : l0_0.length ≤ c0_0) (h : laws_toScene.f k l0_0 = some r) :
  Calls Try.prog 50 #[.agg #[.slice A0_0 l0_0.length c0_0]] w fun e w' => ∃ v0_ : Value, e = .returned (.agg #[v0_]) ∧ Kd.S k96 96 w' w.heap.size (fun _ => True) v0_ r ∧ Below w.heap.size w w' := by
 have hu72 := Try.underlying72
 have hu77 := Try.underlying77
 have HR0_0 := Aside0.mk hr0_0
 have HC0_0 := Aside0.mk hc0_0
 clear hr0_0 hc0_0
 have HB := Aside0.mk (Below.refl w.heap.size w)
 have H : ((laws_toNodeS.f k l0_0).bind fun t245 => (some t245)) = some r := h
 clear h
 replace H := Option.bind_eq_some_iff.mp H
 obtain ⟨t245, A20, H⟩ := H
 replace H : (some t245) = some r := H
 have A2 := Aside0.mk A20
 clear A20
 obtain rfl := Option.some.inj H
 simp only [Option.some.injEq, Prod.mk.injEq] at H
 obtain ⟨rfl⟩ := H
 go_enter Try.func50, Try.ntmps50
 go_wp2_with (first | ((with_reducible refine gate_dst (N := 1) rfl ?_); refine box_event ?hg (N := 1) ?hd (cs := #[.slice A0_0 l0_0.length c0_0]) (t := 72) ?hr ?_; (case hd => rfl); (case hg => rfl); (case hr => first | (go_simp; done) | (go_simp; rfl)); intro gb242 hg w3 hbox hb; have n0_ := Aside0.mk (below_step z3_0 hb); have n1_ := Aside0.mk (hbox); have n2_ := Aside0.mk ((by rw [hg]; exact (below_size z3_0) : w.heap.size ≤ gb242)); have n3_ := Aside0.mk ((by rw [hg]; exact (below_size z3_0) : w.heap.size ≤ gb242)); clear HB; have HB := n0_; have BK242 := n1_; have GW242 := n2_; have GE242 := n3_; clear n0_ n1_ n2_ n3_; clear hb hbox hg) | ((with_reducible refine gate_dst (N := 2) rfl ?_); refine box_event ?hg (N := 2) ?hd (cs := #[.slice none 0 0]) (t := 77) ?hr ?_; (case hd => rfl); (case hg => rfl); (case hr => first | (go_simp; done) | (go_simp; rfl)); intro gb243 hg w4 hbox hb; have n0_ := Aside0.mk (blk_below (g := gb242) (o := .cells #[.slice A0_0 l0_0.length c0_0] 72 (0, 0)) z3_5 hb); have n1_ := Aside0.mk (below_step z3_9 hb); have n2_ := Aside0.mk (hbox); have n3_ := Aside0.mk ((by rw [hg]; exact (below_size z3_9) : w.heap.size ≤ gb243)); have n4_ := Aside0.mk ((by rw [hg]; exact (below_size z3_9) : w.heap.size ≤ gb243)); have n5_ := Aside0.mk ((by rw [hg]; exact Nat.ne_of_lt (blk_lt (g := gb242) (o := .cells #[.slice A0_0 l0_0.length c0_0] 72 (0, 0)) z3_5) : gb242 ≠ gb243)); have n6_ := Aside0.mk ((by rw [hg]; exact Nat.ne_of_gt (blk_lt (g := gb242) (o := .cells #[.slice A0_0 l0_0.length c0_0] 72 (0, 0)) z3_5) : gb243 ≠ gb242)); clear BK242; clear HB; have BK242 := n0_; have HB := n1_; have BK243 := n2_; have GW243 := n3_; have GE243 := n4_; have NB242_243 := n5_; have NB243_242 := n6_; clear n0_ n1_ n2_ n3_ n4_ n5_ n6_; clear hb hbox hg) | ((with_reducible refine gate_dst (N := 3) rfl ?_); refine box_event ?hg (N := 3) ?hd (cs := #[.slice none 0 0]) (t := 77) ?hr ?_; (case hd => rfl); (case hg => rfl); (case hr => first | (go_simp; done) | (go_simp; rfl)); intro gb244 hg w5 hbox hb; have n0_ := Aside0.mk (blk_below (g := gb242) (o := .cells #[.slice A0_0 l0_0.length c0_0] 72 (0, 0)) z3_5 hb); have n1_ := Aside0.mk (blk_below (g := gb243) (o := .cells #[.slice none 0 0] 77 (0, 0)) z3_7 hb); have n2_ := Aside0.mk (below_step z3_6 hb); have n3_ := Aside0.mk (hbox); have n4_ := Aside0.mk ((by rw [hg]; exact (below_size z3_6) : w.heap.size ≤ gb244)); have n5_ := Aside0.mk ((by rw [hg]; exact (below_size z3_6) : w.heap.size ≤ gb244)); have n6_ := Aside0.mk ((by rw [hg]; exact Nat.ne_of_lt (blk_lt (g := gb242) (o := .cells #[.slice A0_0 l0_0.length c0_0] 72 (0, 0)) z3_5) : gb242 ≠ gb244)); have n7_ := Aside0.mk ((by rw [hg]; exact Nat.ne_of_gt (blk_lt (g := gb242) (o := .cells #[.slice A0_0 l0_0.length c0_0] 72 (0, 0)) z3_5) : gb244 ≠ gb242)); have n8_ := Aside0.mk ((by rw [hg]; exact Nat.ne_of_lt (blk_lt (g := gb243) (o := .cells #[.slice none 0 0] 77 (0, 0)) z3_7) : gb243 ≠ gb244)); have n9_ := Aside0.mk ((by rw [hg]; exact Nat.ne_of_gt (blk_lt (g := gb243) (o := .cells #[.slice none 0 0] 77 (0, 0)) z3_7) : gb244 ≠ gb243)); clear BK242; clear BK243; clear HB; have BK242 := n0_; have BK243 := n1_; have HB := n2_; have BK244 := n3_; have GW244 := n4_; have GE244 := n5_; have NB242_244 := n6_; have NB244_242 := n7_; have NB243_244 := n8_; have NB244_243 := n9_; clear n0_ n1_ n2_ n3_ n4_ n5_ n6_ n7_ n8_ n9_; clear hb hbox hg; have hnb6 := NB242_243.out; have hnc6 := NB243_242.out; have hnb7 := NB242_244.out; have hnc7 := NB244_242.out; have hcz8_0 : w5.cell? ⟨gb242, 0, none⟩ = some (.slice A0_0 l0_0.length c0_0) := (blk_cell BK242.out 0).trans rfl; have hfz8_0 := blk_frozen BK242.out 0) | ((with_reducible refine gate_callee (f := 117) rfl ?_); refine goesL_ (some 6) rfl rfl Try.func117 (by kernel_rfl) rfl #[.slice A0_0 l0_0.length c0_0] rfl z3_12 ?_; (with_reducible refine (laws_toNodeS.calls k _ _ l0_0 t245 _ ?side1 ?side2 A2.out).mono ?_); (case side1 => repeat (first | exact (Kd.C_below HR0_0.out HB.out) | (with_reducible refine Kd.C_alloc ?_ _) | (with_reducible refine Kd.C_drewN ?_ _) | (with_reducible refine Kd.C_drew ?_))); (case side2 => exact HC0_0.out); rintro e w9 ⟨v246, rfl, ho0, hb⟩; refine ⟨_, rfl, ?_⟩; have n0_ := Aside0.mk (Kd.S_lower ho0 (below_size z3_14)); have n1_ := Aside0.mk (blk_below (g := gb242) (o := .cells #[.slice A0_0 l0_0.length c0_0] 72 (0, 0)) z3_5 hb); have n2_ := Aside0.mk (blk_below (g := gb243) (o := .cells #[.slice none 0 0] 77 (0, 0)) z3_7 hb); have n3_ := Aside0.mk (blk_below (g := gb244) (o := .cells #[.slice none 0 0] 77 (0, 0)) (by (with_reducible repeat (first | refine blk_drewN ?_ _ | refine blk_drew ?_ | refine blk_alloc ?_ _)); exact BK244.out) hb); have n4_ := Aside0.mk (below_step z3_14 hb); clear BK242; clear BK243; clear BK244; clear HB; have HO247 := n0_; have BK242 := n1_; have BK243 := n2_; have BK244 := n3_; have HB := n4_; clear n0_ n1_ n2_ n3_ n4_; (try clear hb); (try clear hb2); (try clear hk); (try clear hi); (try clear ho0); obtain ⟨Ao10, co10, eo10⟩ := Kd.S_slice HO247.out; subst eo10; have hnb11 := NB244_243.out; have hnc11 := NB243_244.out; have hcz12_0 : w9.cell? ⟨gb244, 0, none⟩ = some (.slice none 0 0) := (blk_cell BK244.out 0).trans rfl; have hfz12_0 := blk_frozen BK244.out 0; have hcz13_0 : w9.cell? ⟨gb243, 0, none⟩ = some (.slice none 0 0) := (blk_cell BK243.out 0).trans rfl; have hfz13_0 := blk_frozen BK243.out 0))
 refine bodyPost_ret (results_cell_row rfl _ _ gb243 77 #[.slice Ao10 t245.length co10] (0, 0) _ rfl (by (with_reducible repeat (first | refine blk_drewN ?_ _ | refine blk_drew ?_ | refine blk_alloc ?_ _)); refine blk_put (cs := #[.slice none 0 0]) ?_ 0 _ rfl; (with_reducible repeat (first | refine blk_drewN ?_ _ | refine blk_drew ?_ | refine blk_alloc ?_ _)); refine blk_far ?_ NB243_244.out _; (with_reducible repeat (first | refine blk_drewN ?_ _ | refine blk_drew ?_ | refine blk_alloc ?_ _)); exact BK243.out) Try.underlying77 rfl (by kernel_rfl)) rfl ?_
 exact ⟨_, by first | rfl | (simp [errW_none, errW_some] <;> rfl) | (simp [*, errW_none, errW_some] <;> rfl), by (with_reducible repeat (first | apply Kd.S_alloc | apply Kd.S_drewN | apply Kd.S_drew)); exact Kd.S_mono (Kd.S_far (p := ⟨gb243, 0, none⟩) (Kd.S_far (p := ⟨gb244, 0, none⟩) (Kd.S_types (Kd.S_types HO247.out BK244.out (by decide)) BK243.out (by decide)) (fun _ hk => hk.1.2) (.slice Ao10 t245.length co10)) (fun _ hk => hk.2) (.slice Ao10 t245.length co10)) (fun _ hk => trivial), by repeat (first | (with_reducible first | exact HB.out | apply below_alloc | apply pw_below_drewN | apply below_drew1 | refine below_set ?_ GE242.out | refine below_set ?_ GE243.out | refine below_set ?_ GE244.out) | exact HB.out)⟩

/-! ### impl_NodeAt_1: function 119 -/
def impl_NodeAt_1.f (a0_0 : Int) (a0_1 : Int) (a0_2 : Bool) (a0_3 : Int) (a0_4 : Int) (a0_5 : Int) (a0_6 : Int) (a0_7 : Int) (a0_8 : Int) (l0_9 : List Int) (l0_10 : List (S32)) (a0_11 : Bool) (a0_12 : Int) (l0_13 : List Int) (a0_14 : Int) (a0_15 : Int) (a0_16 : Int) (a0_17 : Int) (a0_18 : Int) (a0_19 : Int) (a0_20 : Int) (a0_21 : Int) (a0_22 : Int) (a0_23 : Int) (a0_24 : Int) (a0_25 : Int) (a0_26 : Int) (a0_27 : Int) (a0_28 : Int) (l0_29 : List Int) (l0_30 : List (S32)) (a1 : Int) : Option (Bool) := some (a0_0 == a1)
set_option maxHeartbeats 8000000 in
set_option maxRecDepth 100000 in
theorem impl_NodeAt_1.calls (a0_0 : Int) (a0_1 : Int) (a0_2 : Bool) (a0_3 : Int) (a0_4 : Int) (a0_5 : Int) (a0_6 : Int) (a0_7 : Int) (a0_8 : Int) (A0_9 : Option Addr) (c0_9 : Nat) (l0_9 : List Int) (A0_10 : Option Addr) (c0_10 : Nat) (l0_10 : List (S32)) (a0_11 : Bool) (a0_12 : Int) (A0_13 : Option Addr) (c0_13 : Nat) (l0_13 : List Int) (a0_14 : Int) (a0_15 : Int) (a0_16 : Int) (a0_17 : Int) (a0_18 : Int) (a0_19 : Int) (a0_20 : Int) (a0_21 : Int) (a0_22 : Int) (a0_23 : Int) (a0_24 : Int) (a0_25 : Int) (a0_26 : Int) (a0_27 : Int) (a0_28 : Int) (A0_29 : Option Addr) (c0_29 : Nat) (l0_29 : List Int) (A0_30 : Option Addr) (c0_30 : Nat) (l0_30 : List (S32)) (g1 : Nat) (a1 : Int) (r : Bool) (w : World) (hr0_9 : Kd.C (Kd.int .i64) w A0_9 l0_9.length l0_9) (hc0_9 : l0_9.length ≤ c0_9) (hr0_10 : Kd.C k32 w A0_10 l0_10.length l0_10) (hc0_10 : l0_10.length ≤ c0_10) (hr0_13 : Kd.C (Kd.int .i64) w A0_13 l0_13.length l0_13) (hc0_13 : l0_13.length ≤ c0_13) (hr0_29 : Kd.C (Kd.int .i64) w A0_29 l0_29.length l0_29) (hc0_29 : l0_29.length ≤ c0_29) (hr0_30 : Kd.C k32 w A0_30 l0_30.length l0_30) (hc0_30 : l0_30.length ≤ c0_30) (hb1 : w.heap[g1]? = some (.cells #[.int .i64 a1] 3 (0, 0))) (h : impl_NodeAt_1.f a0_0 a0_1 a0_2 a0_3 a0_4 a0_5 a0_6 a0_7 a0_8 l0_9 l0_10 a0_11 a0_12 l0_13 a0_14 a0_15 a0_16 a0_17 a0_18 a0_19 a0_20 a0_21 a0_22 a0_23 a0_24 a0_25 a0_26 a0_27 a0_28 l0_29 l0_30 a1 = some r) :
  Calls Try.prog 119 #[.agg #[.int .i64 a0_0, .int .i64 a0_1, .bool a0_2, .int .i64 a0_3, .int .i64 a0_4, .int .i64 a0_5, .int .i64 a0_6, .int .i64 a0_7, .int .i64 a0_8, .slice A0_9 l0_9.length c0_9, .slice A0_10 l0_10.length c0_10, .bool a0_11, .int .i64 a0_12, .slice A0_13 l0_13.length c0_13, .int .i64 a0_14, .int .i64 a0_15, .int .i64 a0_16, .int .i64 a0_17, .int .i64 a0_18, .int .i64 a0_19, .int .i64 a0_20, .int .i64 a0_21, .int .i64 a0_22, .int .i64 a0_23, .int .i64 a0_24, .int .i64 a0_25, .int .i64 a0_26, .int .i64 a0_27, .int .i64 a0_28, .slice A0_29 l0_29.length c0_29, .slice A0_30 l0_30.length c0_30], .pointer (some ⟨g1, 0, none⟩)] w fun e w' => e = .returned (.bool r) ∧ Below w.heap.size w w' := by
 have hu96 := Try.underlying96
 have HR0_9 := Aside0.mk hr0_9
 have HC0_9 := Aside0.mk hc0_9
 clear hr0_9 hc0_9
 have HR0_10 := Aside0.mk hr0_10
 have HC0_10 := Aside0.mk hc0_10
 clear hr0_10 hc0_10
 have HR0_13 := Aside0.mk hr0_13
 have HC0_13 := Aside0.mk hc0_13
 clear hr0_13 hc0_13
 have HR0_29 := Aside0.mk hr0_29
 have HC0_29 := Aside0.mk hc0_29
 clear hr0_29 hc0_29
 have HR0_30 := Aside0.mk hr0_30
 have HC0_30 := Aside0.mk hc0_30
 clear hr0_30 hc0_30
 have BK1 := Aside0.mk hb1
 clear hb1
 have HB := Aside0.mk (Below.refl w.heap.size w)
 have H : (some (a0_0 == a1)) = some r := h
 clear h
 obtain rfl := Option.some.inj H
 simp only [Option.some.injEq, Prod.mk.injEq] at H
 obtain ⟨rfl⟩ := H
 go_enter Try.func119, Try.ntmps119
 go_wp2_with (first | ((with_reducible refine gate_dst (N := 2) rfl ?_); refine box_event ?hg (N := 2) ?hd (cs := #[.int .i64 a0_0, .int .i64 a0_1, .bool a0_2, .int .i64 a0_3, .int .i64 a0_4, .int .i64 a0_5, .int .i64 a0_6, .int .i64 a0_7, .int .i64 a0_8, .slice A0_9 l0_9.length c0_9, .slice A0_10 l0_10.length c0_10, .bool a0_11, .int .i64 a0_12, .slice A0_13 l0_13.length c0_13, .int .i64 a0_14, .int .i64 a0_15, .int .i64 a0_16, .int .i64 a0_17, .int .i64 a0_18, .int .i64 a0_19, .int .i64 a0_20, .int .i64 a0_21, .int .i64 a0_22, .int .i64 a0_23, .int .i64 a0_24, .int .i64 a0_25, .int .i64 a0_26, .int .i64 a0_27, .int .i64 a0_28, .slice A0_29 l0_29.length c0_29, .slice A0_30 l0_30.length c0_30]) (t := 96) ?hr ?_; (case hd => rfl); (case hg => rfl); (case hr => first | (go_simp; done) | (go_simp; rfl)); intro gb248 hg w3 hbox hb; have n0_ := Aside0.mk (blk_below (g := g1) (o := .cells #[.int .i64 a1] 3 (0, 0)) z3_13 hb); have n1_ := Aside0.mk (below_step z3_11 hb); have n2_ := Aside0.mk (hbox); have n3_ := Aside0.mk ((by rw [hg]; exact (below_size z3_11) : w.heap.size ≤ gb248)); have n4_ := Aside0.mk ((by rw [hg]; exact (below_size z3_11) : w.heap.size ≤ gb248)); have n5_ := Aside0.mk ((by rw [hg]; exact Nat.ne_of_lt (blk_lt (g := g1) (o := .cells #[.int .i64 a1] 3 (0, 0)) z3_13) : g1 ≠ gb248)); have n6_ := Aside0.mk ((by rw [hg]; exact Nat.ne_of_gt (blk_lt (g := g1) (o := .cells #[.int .i64 a1] 3 (0, 0)) z3_13) : gb248 ≠ g1)); clear BK1; clear HB; have BK1 := n0_; have HB := n1_; have BK248 := n2_; have GW248 := n3_; have GE248 := n4_; have NB1_248 := n5_; have NB248_1 := n6_; clear n0_ n1_ n2_ n3_ n4_ n5_ n6_; clear hb hbox hg; have hnb4 := NB248_1.out; have hnc4 := NB1_248.out; have hcz5_0 : w3.cell? ⟨gb248, 0, none⟩ = some (.int .i64 a0_0) := (blk_cell BK248.out 0).trans rfl; have hcz5_1 : w3.cell? ⟨gb248, 1, none⟩ = some (.int .i64 a0_1) := (blk_cell BK248.out 1).trans rfl; have hcz5_2 : w3.cell? ⟨gb248, 2, none⟩ = some (.bool a0_2) := (blk_cell BK248.out 2).trans rfl; have hcz5_3 : w3.cell? ⟨gb248, 3, none⟩ = some (.int .i64 a0_3) := (blk_cell BK248.out 3).trans rfl; have hcz5_4 : w3.cell? ⟨gb248, 4, none⟩ = some (.int .i64 a0_4) := (blk_cell BK248.out 4).trans rfl; have hcz5_5 : w3.cell? ⟨gb248, 5, none⟩ = some (.int .i64 a0_5) := (blk_cell BK248.out 5).trans rfl; have hcz5_6 : w3.cell? ⟨gb248, 6, none⟩ = some (.int .i64 a0_6) := (blk_cell BK248.out 6).trans rfl; have hcz5_7 : w3.cell? ⟨gb248, 7, none⟩ = some (.int .i64 a0_7) := (blk_cell BK248.out 7).trans rfl; have hcz5_8 : w3.cell? ⟨gb248, 8, none⟩ = some (.int .i64 a0_8) := (blk_cell BK248.out 8).trans rfl; have hcz5_9 : w3.cell? ⟨gb248, 9, none⟩ = some (.slice A0_9 l0_9.length c0_9) := (blk_cell BK248.out 9).trans rfl; have hcz5_10 : w3.cell? ⟨gb248, 10, none⟩ = some (.slice A0_10 l0_10.length c0_10) := (blk_cell BK248.out 10).trans rfl; have hcz5_11 : w3.cell? ⟨gb248, 11, none⟩ = some (.bool a0_11) := (blk_cell BK248.out 11).trans rfl; have hcz5_12 : w3.cell? ⟨gb248, 12, none⟩ = some (.int .i64 a0_12) := (blk_cell BK248.out 12).trans rfl; have hcz5_13 : w3.cell? ⟨gb248, 13, none⟩ = some (.slice A0_13 l0_13.length c0_13) := (blk_cell BK248.out 13).trans rfl; have hcz5_14 : w3.cell? ⟨gb248, 14, none⟩ = some (.int .i64 a0_14) := (blk_cell BK248.out 14).trans rfl; have hcz5_15 : w3.cell? ⟨gb248, 15, none⟩ = some (.int .i64 a0_15) := (blk_cell BK248.out 15).trans rfl; have hcz5_16 : w3.cell? ⟨gb248, 16, none⟩ = some (.int .i64 a0_16) := (blk_cell BK248.out 16).trans rfl; have hcz5_17 : w3.cell? ⟨gb248, 17, none⟩ = some (.int .i64 a0_17) := (blk_cell BK248.out 17).trans rfl; have hcz5_18 : w3.cell? ⟨gb248, 18, none⟩ = some (.int .i64 a0_18) := (blk_cell BK248.out 18).trans rfl; have hcz5_19 : w3.cell? ⟨gb248, 19, none⟩ = some (.int .i64 a0_19) := (blk_cell BK248.out 19).trans rfl; have hcz5_20 : w3.cell? ⟨gb248, 20, none⟩ = some (.int .i64 a0_20) := (blk_cell BK248.out 20).trans rfl; have hcz5_21 : w3.cell? ⟨gb248, 21, none⟩ = some (.int .i64 a0_21) := (blk_cell BK248.out 21).trans rfl; have hcz5_22 : w3.cell? ⟨gb248, 22, none⟩ = some (.int .i64 a0_22) := (blk_cell BK248.out 22).trans rfl; have hcz5_23 : w3.cell? ⟨gb248, 23, none⟩ = some (.int .i64 a0_23) := (blk_cell BK248.out 23).trans rfl; have hcz5_24 : w3.cell? ⟨gb248, 24, none⟩ = some (.int .i64 a0_24) := (blk_cell BK248.out 24).trans rfl; have hcz5_25 : w3.cell? ⟨gb248, 25, none⟩ = some (.int .i64 a0_25) := (blk_cell BK248.out 25).trans rfl; have hcz5_26 : w3.cell? ⟨gb248, 26, none⟩ = some (.int .i64 a0_26) := (blk_cell BK248.out 26).trans rfl; have hcz5_27 : w3.cell? ⟨gb248, 27, none⟩ = some (.int .i64 a0_27) := (blk_cell BK248.out 27).trans rfl; have hcz5_28 : w3.cell? ⟨gb248, 28, none⟩ = some (.int .i64 a0_28) := (blk_cell BK248.out 28).trans rfl; have hcz5_29 : w3.cell? ⟨gb248, 29, none⟩ = some (.slice A0_29 l0_29.length c0_29) := (blk_cell BK248.out 29).trans rfl; have hcz5_30 : w3.cell? ⟨gb248, 30, none⟩ = some (.slice A0_30 l0_30.length c0_30) := (blk_cell BK248.out 30).trans rfl; have hfz5_0 := blk_frozen BK248.out 0; have hfz5_1 := blk_frozen BK248.out 1; have hfz5_2 := blk_frozen BK248.out 2; have hfz5_3 := blk_frozen BK248.out 3; have hfz5_4 := blk_frozen BK248.out 4; have hfz5_5 := blk_frozen BK248.out 5; have hfz5_6 := blk_frozen BK248.out 6; have hfz5_7 := blk_frozen BK248.out 7; have hfz5_8 := blk_frozen BK248.out 8; have hfz5_9 := blk_frozen BK248.out 9; have hfz5_10 := blk_frozen BK248.out 10; have hfz5_11 := blk_frozen BK248.out 11; have hfz5_12 := blk_frozen BK248.out 12; have hfz5_13 := blk_frozen BK248.out 13; have hfz5_14 := blk_frozen BK248.out 14; have hfz5_15 := blk_frozen BK248.out 15; have hfz5_16 := blk_frozen BK248.out 16; have hfz5_17 := blk_frozen BK248.out 17; have hfz5_18 := blk_frozen BK248.out 18; have hfz5_19 := blk_frozen BK248.out 19; have hfz5_20 := blk_frozen BK248.out 20; have hfz5_21 := blk_frozen BK248.out 21; have hfz5_22 := blk_frozen BK248.out 22; have hfz5_23 := blk_frozen BK248.out 23; have hfz5_24 := blk_frozen BK248.out 24; have hfz5_25 := blk_frozen BK248.out 25; have hfz5_26 := blk_frozen BK248.out 26; have hfz5_27 := blk_frozen BK248.out 27; have hfz5_28 := blk_frozen BK248.out 28; have hfz5_29 := blk_frozen BK248.out 29; have hfz5_30 := blk_frozen BK248.out 30; have hcz6_0 : w3.cell? ⟨g1, 0, none⟩ = some (.int .i64 a1) := (blk_cell BK1.out 0).trans rfl; have hfz6_0 := blk_frozen BK1.out 0))
 go_ret
 exact ⟨by first | rfl | (simp [errW_none, errW_some] <;> rfl) | (simp [*, errW_none, errW_some] <;> rfl), by repeat (first | (with_reducible first | exact HB.out | apply below_alloc | apply pw_below_drewN | apply below_drew1 | refine below_set ?_ GE1.out | refine below_set ?_ GE248.out) | exact HB.out)⟩

/-! ### impl_Node_NodeAt_1: function 12000118 -/
def impl_Node_NodeAt_1.l0 : Nat → List (S96) → Int → Int → Int → Option (Int)
 | 0, _, _, _, _ => none
 | k + 1, x0, x7, x8, x3000 => if x8 < x7 then (if 0 ≤ x8 then (if x8 < (x0.length : Int) then ((impl_NodeAt_1.f ((rd_T96 x0 x8).f0) ((rd_T96 x0 x8).f1) ((rd_T96 x0 x8).f2) ((rd_T96 x0 x8).f3.f0) ((rd_T96 x0 x8).f3.f1) ((rd_T96 x0 x8).f3.f2) ((rd_T96 x0 x8).f3.f3) ((rd_T96 x0 x8).f3.f4) ((rd_T96 x0 x8).f3.f5) ((rd_T96 x0 x8).f4.f0) ((rd_T96 x0 x8).f4.f1) ((rd_T96 x0 x8).f5) ((rd_T96 x0 x8).f6) ((rd_T96 x0 x8).f7) ((rd_T96 x0 x8).f8.f0) ((rd_T96 x0 x8).f8.f1.f0) ((rd_T96 x0 x8).f8.f1.f1) ((rd_T96 x0 x8).f8.f1.f2) ((rd_T96 x0 x8).f8.f1.f3) ((rd_T96 x0 x8).f8.f2.f0) ((rd_T96 x0 x8).f8.f2.f1) ((rd_T96 x0 x8).f8.f2.f2) ((rd_T96 x0 x8).f8.f2.f3) ((rd_T96 x0 x8).f8.f3.f0) ((rd_T96 x0 x8).f8.f3.f1) ((rd_T96 x0 x8).f8.f4.f0) ((rd_T96 x0 x8).f8.f4.f1) ((rd_T96 x0 x8).f9) ((rd_T96 x0 x8).f10) ((rd_T96 x0 x8).f11.f0) ((rd_T96 x0 x8).f11.f1) x3000).bind fun t250 => (if t250 = true then (some x8) else (impl_Node_NodeAt_1.l0 k x0 x7 (wrap64 (x8 + 1)) x3000))) else (none)) else (none)) else (some (-1))
def impl_Node_NodeAt_1.f (k : Nat) (l0 : List (S96))  (a2 : Int) : Option (Int) := impl_Node_NodeAt_1.l0 k l0 (l0.length : Int) 0 a2
theorem impl_Node_NodeAt_1.mono_l : ∀ k, (∀ y0 y1 y2 y3, LeO (impl_Node_NodeAt_1.l0 k y0 y1 y2 y3) (impl_Node_NodeAt_1.l0 (k + 1) y0 y1 y2 y3))
 | 0 => fun _ _ _ _ r h => by simp [impl_Node_NodeAt_1.l0] at h
 | k + 1 => by
  have ih0 := impl_Node_NodeAt_1.mono_l k
  ·intro y0 y1 y2 y3
   unfold impl_Node_NodeAt_1.l0
   repeat' first
   | (with_reducible exact ih0 _ _ _ _)
   | (with_reducible exact LeO.refl _)
   | (with_reducible exact LeO.none _)
   | (with_reducible refine LeO.ite ?_ ?_)
   | (with_reducible refine LeO.bind ?_ (fun _ => ?_))
   | exact ih0 _ _ _ _
   | exact LeO.none _
   | refine LeO.ite ?_ ?_
   | refine LeO.bind ?_ (fun _ => ?_)
theorem impl_Node_NodeAt_1.mono : ∀ a0 a1 k, LeO (impl_Node_NodeAt_1.f k a0 a1) (impl_Node_NodeAt_1.f (k + 1) a0 a1) := by
 intro a0 a1 k
 have ih0 := impl_Node_NodeAt_1.mono_l k
 unfold impl_Node_NodeAt_1.f
 repeat' first
   | (with_reducible exact ih0 _ _ _ _)
   | (with_reducible exact LeO.refl _)
   | (with_reducible exact LeO.none _)
   | (with_reducible refine LeO.ite ?_ ?_)
   | (with_reducible refine LeO.bind ?_ (fun _ => ?_))
   | exact ih0 _ _ _ _
   | exact LeO.none _
   | refine LeO.ite ?_ ?_
   | refine LeO.bind ?_ (fun _ => ?_)
set_option maxHeartbeats 8000000 in
set_option maxRecDepth 100000 in
theorem impl_Node_NodeAt_1.calls (k : Nat) (A0 : Option Addr) (c0 : Nat) (l0 : List (S96))  (g2 : Nat) (a2 : Int) (r : Int) (w : World) (hr0 : Kd.C k96 w A0 l0.length l0) (hc0 : l0.length ≤ c0) (hb2 : w.heap[g2]? = some (.cells #[.int .i64 a2] 3 (0, 0))) (h : impl_Node_NodeAt_1.f k l0 a2 = some r) :
  Calls Try.prog 118 #[.slice A0 l0.length c0, .func (.func 119) #[] #[.pointer (some ⟨g2, 0, none⟩)]] w fun e w' => e = .returned (.int .i64 r) ∧ Below w.heap.size w w' := by
 have hu96 := Try.underlying96
 have HR0 := Aside0.mk hr0
 have HC0 := Aside0.mk hc0
 clear hr0 hc0
 have BK2 := Aside0.mk hb2
 clear hb2
 have HB := Aside0.mk (Below.refl w.heap.size w)
 have H : (impl_Node_NodeAt_1.l0 k l0 (l0.length : Int) 0 a2) = some r := h
 clear h
 have H' := Aside0.mk H
 clear H
 go_enter Try.func118, Try.ntmps118
 go_wp2
 go_loopg [8] k (fun kq v8 w' => ∃ (x8_1 : Int), v8 = .int .i64 x8_1 ∧ Aside0 (impl_Node_NodeAt_1.l0 kq l0 (l0.length : Int) x8_1 a2 = some r) ∧ Aside0 (kq ≤ k) ∧ Aside0 (w'.heap[g2]? = some (.cells #[.int .i64 a2] 3 (0, 0))) ∧ Aside0 (Below w.heap.size w w'))
 case atStart => exact ⟨(0), (by first | rfl | (simp; done) | (simp [*]; done)), H', ⟨Nat.le_refl _⟩, ⟨by (with_reducible repeat (first | refine blk_drewN ?_ _ | refine blk_drew ?_ | refine blk_alloc ?_ _)); exact BK2.out⟩, ⟨by repeat (first | (with_reducible first | exact HB.out | apply below_alloc | apply pw_below_drewN | apply below_drew1 | refine below_set ?_ GE2.out) | exact HB.out)⟩⟩
 case round =>
  clear H'
  try clear c1
  try clear p2
  obtain ⟨x8_1, rfl, HA, HK1, BK2, HB⟩ := hrel
  cases gk with
  | zero => exact absurd HA.out (by simp [impl_Node_NodeAt_1.l0])
  | succ k1 =>
   have H := HA.out; clear HA
   simp only [impl_Node_NodeAt_1.l0] at H
   by_cases c4 : x8_1 < (l0.length : Int)
   ·rw [if_pos c4] at H
    have c4b0 : decide (x8_1 < (l0.length : Int)) = true := decide_eq_true c4
    clear c4
    by_cases c5 : 0 ≤ x8_1
    ·rw [if_pos c5] at H
     have c5b0 : decide (0 ≤ x8_1) = true := decide_eq_true c5
     clear c5
     by_cases c6 : x8_1 < (l0.length : Int)
     ·rw [if_pos c6] at H
      have c6b0 : decide (x8_1 < (l0.length : Int)) = true := decide_eq_true c6
      clear c6
      replace H := Option.bind_eq_some_iff.mp H
      obtain ⟨t250, A70, H⟩ := H
      replace H : (if t250 = true then (some x8_1) else (impl_Node_NodeAt_1.l0 k1 l0 (l0.length : Int) (wrap64 (x8_1 + 1)) a2)) = some r := H
      have A7 := Aside0.mk A70
      clear A70
      by_cases c8 : t250 = true
      ·subst c8
       have H1 : (some x8_1) = some r := by rw [if_pos rfl] at H; exact H
       clear H; have H := H1; clear H1
       obtain rfl := Option.some.inj H
       simp only [Option.some.injEq, Prod.mk.injEq] at H
       obtain ⟨rfl⟩ := H
       have p249 : 0 ≤ (x8_1 : Int) := of_decide_eq_true (by first | (with_reducible assumption) | assumption)
       have q249 : x8_1 < (l0.length : Int) := of_decide_eq_true (by first | (with_reducible assumption) | assumption)
       obtain ⟨ad249, A249_9, c249_9, A249_10, c249_10, A249_13, c249_13, A249_29, c249_29, A249_30, c249_30, e249, hx249_0, hx249_1, hx249_2, hx249_3, hx249_4, hx249_5, hx249_6, hx249_7, hx249_8, hx249_9, hx249_10, hx249_11, hx249_12, hx249_13, hx249_14, hx249_15, hx249_16, hx249_17, hx249_18, hx249_19, hx249_20, hx249_21, hx249_22, hx249_23, hx249_24, hx249_25, hx249_26, hx249_27, hx249_28, hx249_29, hx249_30, hl249_9, hi249_9, hl249_10, hi249_10, hl249_13, hi249_13, hl249_29, hi249_29, hl249_30, hi249_30⟩ := at_T96 HR0.out x8_1 p249 q249
       cases e249
       replace hx249_0 := (HB.out.cell (World.block_lt_of_cell? w _ hx249_0)).trans hx249_0
       replace hx249_1 := (HB.out.cell (World.block_lt_of_cell? w _ hx249_1)).trans hx249_1
       replace hx249_2 := (HB.out.cell (World.block_lt_of_cell? w _ hx249_2)).trans hx249_2
       replace hx249_3 := (HB.out.cell (World.block_lt_of_cell? w _ hx249_3)).trans hx249_3
       replace hx249_4 := (HB.out.cell (World.block_lt_of_cell? w _ hx249_4)).trans hx249_4
       replace hx249_5 := (HB.out.cell (World.block_lt_of_cell? w _ hx249_5)).trans hx249_5
       replace hx249_6 := (HB.out.cell (World.block_lt_of_cell? w _ hx249_6)).trans hx249_6
       replace hx249_7 := (HB.out.cell (World.block_lt_of_cell? w _ hx249_7)).trans hx249_7
       replace hx249_8 := (HB.out.cell (World.block_lt_of_cell? w _ hx249_8)).trans hx249_8
       replace hx249_9 := (HB.out.cell (World.block_lt_of_cell? w _ hx249_9)).trans hx249_9
       replace hx249_10 := (HB.out.cell (World.block_lt_of_cell? w _ hx249_10)).trans hx249_10
       replace hx249_11 := (HB.out.cell (World.block_lt_of_cell? w _ hx249_11)).trans hx249_11
       replace hx249_12 := (HB.out.cell (World.block_lt_of_cell? w _ hx249_12)).trans hx249_12
       replace hx249_13 := (HB.out.cell (World.block_lt_of_cell? w _ hx249_13)).trans hx249_13
       replace hx249_14 := (HB.out.cell (World.block_lt_of_cell? w _ hx249_14)).trans hx249_14
       replace hx249_15 := (HB.out.cell (World.block_lt_of_cell? w _ hx249_15)).trans hx249_15
       replace hx249_16 := (HB.out.cell (World.block_lt_of_cell? w _ hx249_16)).trans hx249_16
       replace hx249_17 := (HB.out.cell (World.block_lt_of_cell? w _ hx249_17)).trans hx249_17
       replace hx249_18 := (HB.out.cell (World.block_lt_of_cell? w _ hx249_18)).trans hx249_18
       replace hx249_19 := (HB.out.cell (World.block_lt_of_cell? w _ hx249_19)).trans hx249_19
       replace hx249_20 := (HB.out.cell (World.block_lt_of_cell? w _ hx249_20)).trans hx249_20
       replace hx249_21 := (HB.out.cell (World.block_lt_of_cell? w _ hx249_21)).trans hx249_21
       replace hx249_22 := (HB.out.cell (World.block_lt_of_cell? w _ hx249_22)).trans hx249_22
       replace hx249_23 := (HB.out.cell (World.block_lt_of_cell? w _ hx249_23)).trans hx249_23
       replace hx249_24 := (HB.out.cell (World.block_lt_of_cell? w _ hx249_24)).trans hx249_24
       replace hx249_25 := (HB.out.cell (World.block_lt_of_cell? w _ hx249_25)).trans hx249_25
       replace hx249_26 := (HB.out.cell (World.block_lt_of_cell? w _ hx249_26)).trans hx249_26
       replace hx249_27 := (HB.out.cell (World.block_lt_of_cell? w _ hx249_27)).trans hx249_27
       replace hx249_28 := (HB.out.cell (World.block_lt_of_cell? w _ hx249_28)).trans hx249_28
       replace hx249_29 := (HB.out.cell (World.block_lt_of_cell? w _ hx249_29)).trans hx249_29
       replace hx249_30 := (HB.out.cell (World.block_lt_of_cell? w _ hx249_30)).trans hx249_30
       have HR249_9 := Aside0.mk hi249_9
       have HC249_9 := Aside0.mk hl249_9
       clear hi249_9 hl249_9
       have HR249_10 := Aside0.mk hi249_10
       have HC249_10 := Aside0.mk hl249_10
       clear hi249_10 hl249_10
       have HR249_13 := Aside0.mk hi249_13
       have HC249_13 := Aside0.mk hl249_13
       clear hi249_13 hl249_13
       have HR249_29 := Aside0.mk hi249_29
       have HC249_29 := Aside0.mk hl249_29
       clear hi249_29 hl249_29
       have HR249_30 := Aside0.mk hi249_30
       have HC249_30 := Aside0.mk hl249_30
       clear hi249_30 hl249_30
       replace p249 := eq_true p249
       replace q249 := eq_true q249
       go_wp2_with (first | ((with_reducible refine gate_load (t := 96) rfl ?_); refine load_event (t := 96) rfl rfl (p := ad249.add (x8_1.toNat * 31)) rfl [.int .i64 (rd_T96 l0 x8_1).f0, .int .i64 (rd_T96 l0 x8_1).f1, .bool (rd_T96 l0 x8_1).f2, .int .i64 (rd_T96 l0 x8_1).f3.f0, .int .i64 (rd_T96 l0 x8_1).f3.f1, .int .i64 (rd_T96 l0 x8_1).f3.f2, .int .i64 (rd_T96 l0 x8_1).f3.f3, .int .i64 (rd_T96 l0 x8_1).f3.f4, .int .i64 (rd_T96 l0 x8_1).f3.f5, .slice A249_9 (rd_T96 l0 x8_1).f4.f0.length c249_9, .slice A249_10 (rd_T96 l0 x8_1).f4.f1.length c249_10, .bool (rd_T96 l0 x8_1).f5, .int .i64 (rd_T96 l0 x8_1).f6, .slice A249_13 (rd_T96 l0 x8_1).f7.length c249_13, .int .i64 (rd_T96 l0 x8_1).f8.f0, .int .i64 (rd_T96 l0 x8_1).f8.f1.f0, .int .i64 (rd_T96 l0 x8_1).f8.f1.f1, .int .i64 (rd_T96 l0 x8_1).f8.f1.f2, .int .i64 (rd_T96 l0 x8_1).f8.f1.f3, .int .i64 (rd_T96 l0 x8_1).f8.f2.f0, .int .i64 (rd_T96 l0 x8_1).f8.f2.f1, .int .i64 (rd_T96 l0 x8_1).f8.f2.f2, .int .i64 (rd_T96 l0 x8_1).f8.f2.f3, .int .i64 (rd_T96 l0 x8_1).f8.f3.f0, .int .i64 (rd_T96 l0 x8_1).f8.f3.f1, .int .i64 (rd_T96 l0 x8_1).f8.f4.f0, .int .i64 (rd_T96 l0 x8_1).f8.f4.f1, .int .i64 (rd_T96 l0 x8_1).f9, .int .i64 (rd_T96 l0 x8_1).f10, .slice A249_29 (rd_T96 l0 x8_1).f11.f0.length c249_29, .slice A249_30 (rd_T96 l0 x8_1).f11.f1.length c249_30] _ (lie_cons (by first | exact hx249_0 | simpa using hx249_0) (lie_cons (by first | exact hx249_1 | simpa using hx249_1) (lie_cons (by first | exact hx249_2 | simpa using hx249_2) (lie_cons (by first | exact hx249_3 | simpa using hx249_3) (lie_cons (by first | exact hx249_4 | simpa using hx249_4) (lie_cons (by first | exact hx249_5 | simpa using hx249_5) (lie_cons (by first | exact hx249_6 | simpa using hx249_6) (lie_cons (by first | exact hx249_7 | simpa using hx249_7) (lie_cons (by first | exact hx249_8 | simpa using hx249_8) (lie_cons (by first | exact hx249_9 | simpa using hx249_9) (lie_cons (by first | exact hx249_10 | simpa using hx249_10) (lie_cons (by first | exact hx249_11 | simpa using hx249_11) (lie_cons (by first | exact hx249_12 | simpa using hx249_12) (lie_cons (by first | exact hx249_13 | simpa using hx249_13) (lie_cons (by first | exact hx249_14 | simpa using hx249_14) (lie_cons (by first | exact hx249_15 | simpa using hx249_15) (lie_cons (by first | exact hx249_16 | simpa using hx249_16) (lie_cons (by first | exact hx249_17 | simpa using hx249_17) (lie_cons (by first | exact hx249_18 | simpa using hx249_18) (lie_cons (by first | exact hx249_19 | simpa using hx249_19) (lie_cons (by first | exact hx249_20 | simpa using hx249_20) (lie_cons (by first | exact hx249_21 | simpa using hx249_21) (lie_cons (by first | exact hx249_22 | simpa using hx249_22) (lie_cons (by first | exact hx249_23 | simpa using hx249_23) (lie_cons (by first | exact hx249_24 | simpa using hx249_24) (lie_cons (by first | exact hx249_25 | simpa using hx249_25) (lie_cons (by first | exact hx249_26 | simpa using hx249_26) (lie_cons (by first | exact hx249_27 | simpa using hx249_27) (lie_cons (by first | exact hx249_28 | simpa using hx249_28) (lie_cons (by first | exact hx249_29 | simpa using hx249_29) (lie_cons (by first | exact hx249_30 | simpa using hx249_30) (lie_nil _ _ _)))))))))))))))))))))))))))))))) Try.underlying96 rfl (show (Try.prog.info? 96).map (·.size) = some 31 by kernel_rfl) ?_) | (go_at_call 119; (with_reducible refine (impl_NodeAt_1.calls ((rd_T96 l0 x8_1).f0) ((rd_T96 l0 x8_1).f1) ((rd_T96 l0 x8_1).f2) ((rd_T96 l0 x8_1).f3.f0) ((rd_T96 l0 x8_1).f3.f1) ((rd_T96 l0 x8_1).f3.f2) ((rd_T96 l0 x8_1).f3.f3) ((rd_T96 l0 x8_1).f3.f4) ((rd_T96 l0 x8_1).f3.f5) _ _ ((rd_T96 l0 x8_1).f4.f0) _ _ ((rd_T96 l0 x8_1).f4.f1) ((rd_T96 l0 x8_1).f5) ((rd_T96 l0 x8_1).f6) _ _ ((rd_T96 l0 x8_1).f7) ((rd_T96 l0 x8_1).f8.f0) ((rd_T96 l0 x8_1).f8.f1.f0) ((rd_T96 l0 x8_1).f8.f1.f1) ((rd_T96 l0 x8_1).f8.f1.f2) ((rd_T96 l0 x8_1).f8.f1.f3) ((rd_T96 l0 x8_1).f8.f2.f0) ((rd_T96 l0 x8_1).f8.f2.f1) ((rd_T96 l0 x8_1).f8.f2.f2) ((rd_T96 l0 x8_1).f8.f2.f3) ((rd_T96 l0 x8_1).f8.f3.f0) ((rd_T96 l0 x8_1).f8.f3.f1) ((rd_T96 l0 x8_1).f8.f4.f0) ((rd_T96 l0 x8_1).f8.f4.f1) ((rd_T96 l0 x8_1).f9) ((rd_T96 l0 x8_1).f10) _ _ ((rd_T96 l0 x8_1).f11.f0) _ _ ((rd_T96 l0 x8_1).f11.f1) g2 a2 true _ ?side1 ?side2 ?side3 ?side4 ?side5 ?side6 ?side7 ?side8 ?side9 ?side10 ?side11 A7.out).mono ?_); (case side1 => repeat (first | exact (Kd.C_below HR249_9.out HB.out) | (with_reducible refine Kd.C_alloc ?_ _) | (with_reducible refine Kd.C_drewN ?_ _) | (with_reducible refine Kd.C_drew ?_))); (case side2 => exact HC249_9.out); (case side3 => repeat (first | exact (Kd.C_below HR249_10.out HB.out) | (with_reducible refine Kd.C_alloc ?_ _) | (with_reducible refine Kd.C_drewN ?_ _) | (with_reducible refine Kd.C_drew ?_))); (case side4 => exact HC249_10.out); (case side5 => repeat (first | exact (Kd.C_below HR249_13.out HB.out) | (with_reducible refine Kd.C_alloc ?_ _) | (with_reducible refine Kd.C_drewN ?_ _) | (with_reducible refine Kd.C_drew ?_))); (case side6 => exact HC249_13.out); (case side7 => repeat (first | exact (Kd.C_below HR249_29.out HB.out) | (with_reducible refine Kd.C_alloc ?_ _) | (with_reducible refine Kd.C_drewN ?_ _) | (with_reducible refine Kd.C_drew ?_))); (case side8 => exact HC249_29.out); (case side9 => repeat (first | exact (Kd.C_below HR249_30.out HB.out) | (with_reducible refine Kd.C_alloc ?_ _) | (with_reducible refine Kd.C_drewN ?_ _) | (with_reducible refine Kd.C_drew ?_))); (case side10 => exact HC249_30.out); (case side11 => (with_reducible repeat (first | refine blk_drewN ?_ _ | refine blk_drew ?_ | refine blk_alloc ?_ _)); exact BK2.out); rintro e w9 ⟨rfl, hb⟩; have n0_ := Aside0.mk (blk_below (g := g2) (o := .cells #[.int .i64 a2] 3 (0, 0)) z3_16 hb); have n1_ := Aside0.mk (below_step z3_15 hb); clear BK2; clear HB; have BK2 := n0_; have HB := n1_; clear n0_ n1_; (try clear hb); (try clear hb2); (try clear hk); (try clear hi)))
       go_ret
       exact ⟨by first | rfl | (simp [errW_none, errW_some] <;> rfl) | (simp [*, errW_none, errW_some] <;> rfl), by repeat (first | (with_reducible first | exact HB.out | apply below_alloc | apply pw_below_drewN | apply below_drew1 | refine below_set ?_ GE2.out) | exact HB.out)⟩
      ·replace c8 := Bool.eq_false_iff.mpr c8
       subst c8
       have H1 : (impl_Node_NodeAt_1.l0 k1 l0 (l0.length : Int) (wrap64 (x8_1 + 1)) a2) = some r := by rw [if_neg (show ¬ (false = true) by decide)] at H; exact H
       clear H; have H := H1; clear H1
       have H' := Aside0.mk H
       clear H
       have p249 : 0 ≤ (x8_1 : Int) := of_decide_eq_true (by first | (with_reducible assumption) | assumption)
       have q249 : x8_1 < (l0.length : Int) := of_decide_eq_true (by first | (with_reducible assumption) | assumption)
       obtain ⟨ad249, A249_9, c249_9, A249_10, c249_10, A249_13, c249_13, A249_29, c249_29, A249_30, c249_30, e249, hx249_0, hx249_1, hx249_2, hx249_3, hx249_4, hx249_5, hx249_6, hx249_7, hx249_8, hx249_9, hx249_10, hx249_11, hx249_12, hx249_13, hx249_14, hx249_15, hx249_16, hx249_17, hx249_18, hx249_19, hx249_20, hx249_21, hx249_22, hx249_23, hx249_24, hx249_25, hx249_26, hx249_27, hx249_28, hx249_29, hx249_30, hl249_9, hi249_9, hl249_10, hi249_10, hl249_13, hi249_13, hl249_29, hi249_29, hl249_30, hi249_30⟩ := at_T96 HR0.out x8_1 p249 q249
       cases e249
       replace hx249_0 := (HB.out.cell (World.block_lt_of_cell? w _ hx249_0)).trans hx249_0
       replace hx249_1 := (HB.out.cell (World.block_lt_of_cell? w _ hx249_1)).trans hx249_1
       replace hx249_2 := (HB.out.cell (World.block_lt_of_cell? w _ hx249_2)).trans hx249_2
       replace hx249_3 := (HB.out.cell (World.block_lt_of_cell? w _ hx249_3)).trans hx249_3
       replace hx249_4 := (HB.out.cell (World.block_lt_of_cell? w _ hx249_4)).trans hx249_4
       replace hx249_5 := (HB.out.cell (World.block_lt_of_cell? w _ hx249_5)).trans hx249_5
       replace hx249_6 := (HB.out.cell (World.block_lt_of_cell? w _ hx249_6)).trans hx249_6
       replace hx249_7 := (HB.out.cell (World.block_lt_of_cell? w _ hx249_7)).trans hx249_7
       replace hx249_8 := (HB.out.cell (World.block_lt_of_cell? w _ hx249_8)).trans hx249_8
       replace hx249_9 := (HB.out.cell (World.block_lt_of_cell? w _ hx249_9)).trans hx249_9
       replace hx249_10 := (HB.out.cell (World.block_lt_of_cell? w _ hx249_10)).trans hx249_10
       replace hx249_11 := (HB.out.cell (World.block_lt_of_cell? w _ hx249_11)).trans hx249_11
       replace hx249_12 := (HB.out.cell (World.block_lt_of_cell? w _ hx249_12)).trans hx249_12
       replace hx249_13 := (HB.out.cell (World.block_lt_of_cell? w _ hx249_13)).trans hx249_13
       replace hx249_14 := (HB.out.cell (World.block_lt_of_cell? w _ hx249_14)).trans hx249_14
       replace hx249_15 := (HB.out.cell (World.block_lt_of_cell? w _ hx249_15)).trans hx249_15
       replace hx249_16 := (HB.out.cell (World.block_lt_of_cell? w _ hx249_16)).trans hx249_16
       replace hx249_17 := (HB.out.cell (World.block_lt_of_cell? w _ hx249_17)).trans hx249_17
       replace hx249_18 := (HB.out.cell (World.block_lt_of_cell? w _ hx249_18)).trans hx249_18
       replace hx249_19 := (HB.out.cell (World.block_lt_of_cell? w _ hx249_19)).trans hx249_19
       replace hx249_20 := (HB.out.cell (World.block_lt_of_cell? w _ hx249_20)).trans hx249_20
       replace hx249_21 := (HB.out.cell (World.block_lt_of_cell? w _ hx249_21)).trans hx249_21
       replace hx249_22 := (HB.out.cell (World.block_lt_of_cell? w _ hx249_22)).trans hx249_22
       replace hx249_23 := (HB.out.cell (World.block_lt_of_cell? w _ hx249_23)).trans hx249_23
       replace hx249_24 := (HB.out.cell (World.block_lt_of_cell? w _ hx249_24)).trans hx249_24
       replace hx249_25 := (HB.out.cell (World.block_lt_of_cell? w _ hx249_25)).trans hx249_25
       replace hx249_26 := (HB.out.cell (World.block_lt_of_cell? w _ hx249_26)).trans hx249_26
       replace hx249_27 := (HB.out.cell (World.block_lt_of_cell? w _ hx249_27)).trans hx249_27
       replace hx249_28 := (HB.out.cell (World.block_lt_of_cell? w _ hx249_28)).trans hx249_28
       replace hx249_29 := (HB.out.cell (World.block_lt_of_cell? w _ hx249_29)).trans hx249_29
       replace hx249_30 := (HB.out.cell (World.block_lt_of_cell? w _ hx249_30)).trans hx249_30
       have HR249_9 := Aside0.mk hi249_9
       have HC249_9 := Aside0.mk hl249_9
       clear hi249_9 hl249_9
       have HR249_10 := Aside0.mk hi249_10
       have HC249_10 := Aside0.mk hl249_10
       clear hi249_10 hl249_10
       have HR249_13 := Aside0.mk hi249_13
       have HC249_13 := Aside0.mk hl249_13
       clear hi249_13 hl249_13
       have HR249_29 := Aside0.mk hi249_29
       have HC249_29 := Aside0.mk hl249_29
       clear hi249_29 hl249_29
       have HR249_30 := Aside0.mk hi249_30
       have HC249_30 := Aside0.mk hl249_30
       clear hi249_30 hl249_30
       replace p249 := eq_true p249
       replace q249 := eq_true q249
       go_wp2_with (first | ((with_reducible refine gate_load (t := 96) rfl ?_); refine load_event (t := 96) rfl rfl (p := ad249.add (x8_1.toNat * 31)) rfl [.int .i64 (rd_T96 l0 x8_1).f0, .int .i64 (rd_T96 l0 x8_1).f1, .bool (rd_T96 l0 x8_1).f2, .int .i64 (rd_T96 l0 x8_1).f3.f0, .int .i64 (rd_T96 l0 x8_1).f3.f1, .int .i64 (rd_T96 l0 x8_1).f3.f2, .int .i64 (rd_T96 l0 x8_1).f3.f3, .int .i64 (rd_T96 l0 x8_1).f3.f4, .int .i64 (rd_T96 l0 x8_1).f3.f5, .slice A249_9 (rd_T96 l0 x8_1).f4.f0.length c249_9, .slice A249_10 (rd_T96 l0 x8_1).f4.f1.length c249_10, .bool (rd_T96 l0 x8_1).f5, .int .i64 (rd_T96 l0 x8_1).f6, .slice A249_13 (rd_T96 l0 x8_1).f7.length c249_13, .int .i64 (rd_T96 l0 x8_1).f8.f0, .int .i64 (rd_T96 l0 x8_1).f8.f1.f0, .int .i64 (rd_T96 l0 x8_1).f8.f1.f1, .int .i64 (rd_T96 l0 x8_1).f8.f1.f2, .int .i64 (rd_T96 l0 x8_1).f8.f1.f3, .int .i64 (rd_T96 l0 x8_1).f8.f2.f0, .int .i64 (rd_T96 l0 x8_1).f8.f2.f1, .int .i64 (rd_T96 l0 x8_1).f8.f2.f2, .int .i64 (rd_T96 l0 x8_1).f8.f2.f3, .int .i64 (rd_T96 l0 x8_1).f8.f3.f0, .int .i64 (rd_T96 l0 x8_1).f8.f3.f1, .int .i64 (rd_T96 l0 x8_1).f8.f4.f0, .int .i64 (rd_T96 l0 x8_1).f8.f4.f1, .int .i64 (rd_T96 l0 x8_1).f9, .int .i64 (rd_T96 l0 x8_1).f10, .slice A249_29 (rd_T96 l0 x8_1).f11.f0.length c249_29, .slice A249_30 (rd_T96 l0 x8_1).f11.f1.length c249_30] _ (lie_cons (by first | exact hx249_0 | simpa using hx249_0) (lie_cons (by first | exact hx249_1 | simpa using hx249_1) (lie_cons (by first | exact hx249_2 | simpa using hx249_2) (lie_cons (by first | exact hx249_3 | simpa using hx249_3) (lie_cons (by first | exact hx249_4 | simpa using hx249_4) (lie_cons (by first | exact hx249_5 | simpa using hx249_5) (lie_cons (by first | exact hx249_6 | simpa using hx249_6) (lie_cons (by first | exact hx249_7 | simpa using hx249_7) (lie_cons (by first | exact hx249_8 | simpa using hx249_8) (lie_cons (by first | exact hx249_9 | simpa using hx249_9) (lie_cons (by first | exact hx249_10 | simpa using hx249_10) (lie_cons (by first | exact hx249_11 | simpa using hx249_11) (lie_cons (by first | exact hx249_12 | simpa using hx249_12) (lie_cons (by first | exact hx249_13 | simpa using hx249_13) (lie_cons (by first | exact hx249_14 | simpa using hx249_14) (lie_cons (by first | exact hx249_15 | simpa using hx249_15) (lie_cons (by first | exact hx249_16 | simpa using hx249_16) (lie_cons (by first | exact hx249_17 | simpa using hx249_17) (lie_cons (by first | exact hx249_18 | simpa using hx249_18) (lie_cons (by first | exact hx249_19 | simpa using hx249_19) (lie_cons (by first | exact hx249_20 | simpa using hx249_20) (lie_cons (by first | exact hx249_21 | simpa using hx249_21) (lie_cons (by first | exact hx249_22 | simpa using hx249_22) (lie_cons (by first | exact hx249_23 | simpa using hx249_23) (lie_cons (by first | exact hx249_24 | simpa using hx249_24) (lie_cons (by first | exact hx249_25 | simpa using hx249_25) (lie_cons (by first | exact hx249_26 | simpa using hx249_26) (lie_cons (by first | exact hx249_27 | simpa using hx249_27) (lie_cons (by first | exact hx249_28 | simpa using hx249_28) (lie_cons (by first | exact hx249_29 | simpa using hx249_29) (lie_cons (by first | exact hx249_30 | simpa using hx249_30) (lie_nil _ _ _)))))))))))))))))))))))))))))))) Try.underlying96 rfl (show (Try.prog.info? 96).map (·.size) = some 31 by kernel_rfl) ?_) | (go_at_call 119; (with_reducible refine (impl_NodeAt_1.calls ((rd_T96 l0 x8_1).f0) ((rd_T96 l0 x8_1).f1) ((rd_T96 l0 x8_1).f2) ((rd_T96 l0 x8_1).f3.f0) ((rd_T96 l0 x8_1).f3.f1) ((rd_T96 l0 x8_1).f3.f2) ((rd_T96 l0 x8_1).f3.f3) ((rd_T96 l0 x8_1).f3.f4) ((rd_T96 l0 x8_1).f3.f5) _ _ ((rd_T96 l0 x8_1).f4.f0) _ _ ((rd_T96 l0 x8_1).f4.f1) ((rd_T96 l0 x8_1).f5) ((rd_T96 l0 x8_1).f6) _ _ ((rd_T96 l0 x8_1).f7) ((rd_T96 l0 x8_1).f8.f0) ((rd_T96 l0 x8_1).f8.f1.f0) ((rd_T96 l0 x8_1).f8.f1.f1) ((rd_T96 l0 x8_1).f8.f1.f2) ((rd_T96 l0 x8_1).f8.f1.f3) ((rd_T96 l0 x8_1).f8.f2.f0) ((rd_T96 l0 x8_1).f8.f2.f1) ((rd_T96 l0 x8_1).f8.f2.f2) ((rd_T96 l0 x8_1).f8.f2.f3) ((rd_T96 l0 x8_1).f8.f3.f0) ((rd_T96 l0 x8_1).f8.f3.f1) ((rd_T96 l0 x8_1).f8.f4.f0) ((rd_T96 l0 x8_1).f8.f4.f1) ((rd_T96 l0 x8_1).f9) ((rd_T96 l0 x8_1).f10) _ _ ((rd_T96 l0 x8_1).f11.f0) _ _ ((rd_T96 l0 x8_1).f11.f1) g2 a2 false _ ?side1 ?side2 ?side3 ?side4 ?side5 ?side6 ?side7 ?side8 ?side9 ?side10 ?side11 A7.out).mono ?_); (case side1 => repeat (first | exact (Kd.C_below HR249_9.out HB.out) | (with_reducible refine Kd.C_alloc ?_ _) | (with_reducible refine Kd.C_drewN ?_ _) | (with_reducible refine Kd.C_drew ?_))); (case side2 => exact HC249_9.out); (case side3 => repeat (first | exact (Kd.C_below HR249_10.out HB.out) | (with_reducible refine Kd.C_alloc ?_ _) | (with_reducible refine Kd.C_drewN ?_ _) | (with_reducible refine Kd.C_drew ?_))); (case side4 => exact HC249_10.out); (case side5 => repeat (first | exact (Kd.C_below HR249_13.out HB.out) | (with_reducible refine Kd.C_alloc ?_ _) | (with_reducible refine Kd.C_drewN ?_ _) | (with_reducible refine Kd.C_drew ?_))); (case side6 => exact HC249_13.out); (case side7 => repeat (first | exact (Kd.C_below HR249_29.out HB.out) | (with_reducible refine Kd.C_alloc ?_ _) | (with_reducible refine Kd.C_drewN ?_ _) | (with_reducible refine Kd.C_drew ?_))); (case side8 => exact HC249_29.out); (case side9 => repeat (first | exact (Kd.C_below HR249_30.out HB.out) | (with_reducible refine Kd.C_alloc ?_ _) | (with_reducible refine Kd.C_drewN ?_ _) | (with_reducible refine Kd.C_drew ?_))); (case side10 => exact HC249_30.out); (case side11 => (with_reducible repeat (first | refine blk_drewN ?_ _ | refine blk_drew ?_ | refine blk_alloc ?_ _)); exact BK2.out); rintro e w10 ⟨rfl, hb⟩; have n0_ := Aside0.mk (blk_below (g := g2) (o := .cells #[.int .i64 a2] 3 (0, 0)) z3_16 hb); have n1_ := Aside0.mk (below_step z3_15 hb); clear BK2; clear HB; have BK2 := n0_; have HB := n1_; clear n0_ n1_; (try clear hb); (try clear hb2); (try clear hk); (try clear hi)))
       go_roundg k1
       case measure => have := HK1.out; omega
       case rel => exact ⟨(wrap64 (x8_1 + 1)), (by first | rfl | (simp; done) | (simp [*]; done)), H', ⟨by have := HK1.out; omega⟩, ⟨by (with_reducible repeat (first | refine blk_drewN ?_ _ | refine blk_drew ?_ | refine blk_alloc ?_ _)); exact BK2.out⟩, ⟨by repeat (first | (with_reducible first | exact HB.out | apply below_alloc | apply pw_below_drewN | apply below_drew1 | refine below_set ?_ GE2.out) | exact HB.out)⟩⟩
     ·rw [if_neg c6] at H
      exact absurd H (by simp)
    ·rw [if_neg c5] at H
     exact absurd H (by simp)
   ·rw [if_neg c4] at H
    have c4b0 : decide (x8_1 < (l0.length : Int)) = false := decide_eq_false c4
    clear c4
    obtain rfl := Option.some.inj H
    simp only [Option.some.injEq, Prod.mk.injEq] at H
    obtain ⟨rfl⟩ := H
    go_wp2
    go_ret
    exact ⟨by first | rfl | (simp [errW_none, errW_some] <;> rfl) | (simp [*, errW_none, errW_some] <;> rfl), by repeat (first | (with_reducible first | exact HB.out | apply below_alloc | apply pw_below_drewN | apply below_drew1 | refine below_set ?_ GE2.out) | exact HB.out)⟩

/-! ### impl_NodeAt: function 51 -/
def impl_NodeAt.f (k : Nat) (l0_0 : List (S96)) (a1 : Int) : Option (Int) := (impl_Node_NodeAt_1.f k l0_0 a1).bind fun t253 => (some t253)
theorem impl_NodeAt.mono : ∀ a0 a1 k, LeO (impl_NodeAt.f k a0 a1) (impl_NodeAt.f (k + 1) a0 a1) := by
 intro a0 a1 k
 unfold impl_NodeAt.f
 repeat' first
   | (with_reducible exact impl_Node_NodeAt_1.mono _ _ _)
   | (with_reducible exact LeO.refl _)
   | (with_reducible exact LeO.none _)
   | (with_reducible refine LeO.ite ?_ ?_)
   | (with_reducible refine LeO.bind ?_ (fun _ => ?_))
   | exact impl_Node_NodeAt_1.mono _ _ _
   | exact LeO.none _
   | refine LeO.ite ?_ ?_
   | refine LeO.bind ?_ (fun _ => ?_)
set_option maxHeartbeats 8000000 in
set_option maxRecDepth 100000 in
theorem impl_NodeAt.calls (k : Nat) (A0_0 : Option Addr) (c0_0 : Nat) (l0_0 : List (S96)) (a1 : Int) (r : Int) (w : World) (hr0_0 : Kd.C k96 w A0_0 l0_0.length l0_0) (hc0_0 : l0_0.length ≤ c0_0) (h : impl_NodeAt.f k l0_0 a1 = some r) :
  Calls Try.prog 51 #[.agg #[.slice A0_0 l0_0.length c0_0], .int .i64 a1] w fun e w' => e = .returned (.int .i64 r) ∧ Below w.heap.size w w' := by
 have hu77 := Try.underlying77
 have hmf : ∀ (fn : Fn) (first cap : Array Value) (w : World), (Instr.makeFunc fn first cap).run Try.prog w = .ok (.func fn first cap) w := fun _ _ _ _ => rfl
 have HR0_0 := Aside0.mk hr0_0
 have HC0_0 := Aside0.mk hc0_0
 clear hr0_0 hc0_0
 have HB := Aside0.mk (Below.refl w.heap.size w)
 have H : ((impl_Node_NodeAt_1.f k l0_0 a1).bind fun t253 => (some t253)) = some r := h
 clear h
 replace H := Option.bind_eq_some_iff.mp H
 obtain ⟨t253, A30, H⟩ := H
 replace H : (some t253) = some r := H
 have A3 := Aside0.mk A30
 clear A30
 obtain rfl := Option.some.inj H
 simp only [Option.some.injEq, Prod.mk.injEq] at H
 obtain ⟨rfl⟩ := H
 go_enter Try.func51, Try.ntmps51
 go_wp2_with (first | ((with_reducible refine gate_dst (N := 2) rfl ?_); refine box_event ?hg (N := 2) ?hd (cs := #[.slice A0_0 l0_0.length c0_0]) (t := 77) ?hr ?_; (case hd => rfl); (case hg => rfl); (case hr => first | (go_simp; done) | (go_simp; rfl)); intro gb251 hg w4 hbox hb; have n0_ := Aside0.mk (below_step z3_0 hb); have n1_ := Aside0.mk (hbox); have n2_ := Aside0.mk ((by rw [hg]; exact (below_size z3_0) : w.heap.size ≤ gb251)); have n3_ := Aside0.mk ((by rw [hg]; exact (below_size z3_0) : w.heap.size ≤ gb251)); clear HB; have HB := n0_; have BK251 := n1_; have GW251 := n2_; have GE251 := n3_; clear n0_ n1_ n2_ n3_; clear hb hbox hg) | ((with_reducible refine gate_dst (N := 3) rfl ?_); refine box_event ?hg (N := 3) ?hd (cs := #[.int .i64 a1]) (t := 3) ?hr ?_; (case hd => rfl); (case hg => rfl); (case hr => first | (go_simp; done) | (go_simp; rfl)); intro gb252 hg w5 hbox hb; have n0_ := Aside0.mk (blk_below (g := gb251) (o := .cells #[.slice A0_0 l0_0.length c0_0] 77 (0, 0)) z3_8 hb); have n1_ := Aside0.mk (below_step z3_10 hb); have n2_ := Aside0.mk (hbox); have n3_ := Aside0.mk ((by rw [hg]; exact (below_size z3_10) : w.heap.size ≤ gb252)); have n4_ := Aside0.mk ((by rw [hg]; exact (below_size z3_10) : w.heap.size ≤ gb252)); have n5_ := Aside0.mk ((by rw [hg]; exact Nat.ne_of_lt (blk_lt (g := gb251) (o := .cells #[.slice A0_0 l0_0.length c0_0] 77 (0, 0)) z3_8) : gb251 ≠ gb252)); have n6_ := Aside0.mk ((by rw [hg]; exact Nat.ne_of_gt (blk_lt (g := gb251) (o := .cells #[.slice A0_0 l0_0.length c0_0] 77 (0, 0)) z3_8) : gb252 ≠ gb251)); clear BK251; clear HB; have BK251 := n0_; have HB := n1_; have BK252 := n2_; have GW252 := n3_; have GE252 := n4_; have NB251_252 := n5_; have NB252_251 := n6_; clear n0_ n1_ n2_ n3_ n4_ n5_ n6_; clear hb hbox hg; have hnb6 := NB251_252.out; have hnc6 := NB252_251.out; have hcz7_0 : w5.cell? ⟨gb251, 0, none⟩ = some (.slice A0_0 l0_0.length c0_0) := (blk_cell BK251.out 0).trans rfl; have hfz7_0 := blk_frozen BK251.out 0) | ((with_reducible refine gate_callee (f := 118) rfl ?_); refine goesL_ (some 8) rfl rfl Try.func118 (by kernel_rfl) rfl #[.slice A0_0 l0_0.length c0_0, .func (.func 119) #[] #[.pointer (some ⟨gb252, 0, none⟩)]] rfl z3_12 ?_; (with_reducible refine (impl_Node_NodeAt_1.calls k _ _ l0_0  gb252 a1 t253 _ ?side1 ?side2 ?side3 A3.out).mono ?_); (case side1 => repeat (first | exact (Kd.C_below HR0_0.out HB.out) | (with_reducible refine Kd.C_alloc ?_ _) | (with_reducible refine Kd.C_drewN ?_ _) | (with_reducible refine Kd.C_drew ?_))); (case side2 => exact HC0_0.out); (case side3 => (with_reducible repeat (first | refine blk_drewN ?_ _ | refine blk_drew ?_ | refine blk_alloc ?_ _)); exact BK252.out); rintro e w8 ⟨rfl, hb⟩; refine ⟨_, rfl, ?_⟩; have n0_ := Aside0.mk (blk_below (g := gb251) (o := .cells #[.slice A0_0 l0_0.length c0_0] 77 (0, 0)) z3_8 hb); have n1_ := Aside0.mk (blk_below (g := gb252) (o := .cells #[.int .i64 a1] 3 (0, 0)) (by (with_reducible repeat (first | refine blk_drewN ?_ _ | refine blk_drew ?_ | refine blk_alloc ?_ _)); exact BK252.out) hb); have n2_ := Aside0.mk (below_step (by repeat (first | (with_reducible first | exact HB.out | apply below_alloc | apply pw_below_drewN | apply below_drew1 | refine below_set ?_ GE251.out | refine below_set ?_ GE252.out) | exact HB.out)) hb); clear BK251; clear BK252; clear HB; have BK251 := n0_; have BK252 := n1_; have HB := n2_; clear n0_ n1_ n2_; (try clear hb); (try clear hb2); (try clear hk); (try clear hi)))
 go_ret
 exact ⟨by first | rfl | (simp [errW_none, errW_some] <;> rfl) | (simp [*, errW_none, errW_some] <;> rfl), by repeat (first | (with_reducible first | exact HB.out | apply below_alloc | apply pw_below_drewN | apply below_drew1 | refine below_set ?_ GE251.out | refine below_set ?_ GE252.out) | exact HB.out)⟩

/-! ### laws_eqIntS: function 74 -/
def laws_eqIntS.l0 : Nat → List Int → List Int → Int → Option (Bool)
 | 0, _, _, _ => none
 | k + 1, x0, x1, x5 => if x5 < (x0.length : Int) then (if 0 ≤ x5 then (if x5 < (x1.length : Int) then (if (rd x0 x5) = (rd x1 x5) then (laws_eqIntS.l0 k x0 x1 (wrap64 (x5 + 1))) else (some false)) else (none)) else (none)) else (some true)
def laws_eqIntS.f (k : Nat) (l0 : List Int) (l1 : List Int) : Option (Bool) := if (l0.length : Int) = (l1.length : Int) then (laws_eqIntS.l0 k l0 l1 0) else (some false)
theorem laws_eqIntS.mono_l : ∀ k, (∀ y0 y1 y2, LeO (laws_eqIntS.l0 k y0 y1 y2) (laws_eqIntS.l0 (k + 1) y0 y1 y2))
 | 0 => fun _ _ _ r h => by simp [laws_eqIntS.l0] at h
 | k + 1 => by
  have ih0 := laws_eqIntS.mono_l k
  ·intro y0 y1 y2
   unfold laws_eqIntS.l0
   repeat' first
   | (with_reducible exact ih0 _ _ _)
   | (with_reducible exact LeO.refl _)
   | (with_reducible exact LeO.none _)
   | (with_reducible refine LeO.ite ?_ ?_)
   | (with_reducible refine LeO.bind ?_ (fun _ => ?_))
   | exact ih0 _ _ _
   | exact LeO.none _
   | refine LeO.ite ?_ ?_
   | refine LeO.bind ?_ (fun _ => ?_)
theorem laws_eqIntS.mono : ∀ a0 a1 k, LeO (laws_eqIntS.f k a0 a1) (laws_eqIntS.f (k + 1) a0 a1) := by
 intro a0 a1 k
 have ih0 := laws_eqIntS.mono_l k
 unfold laws_eqIntS.f
 repeat' first
   | (with_reducible exact ih0 _ _ _)
   | (with_reducible exact LeO.refl _)
   | (with_reducible exact LeO.none _)
   | (with_reducible refine LeO.ite ?_ ?_)
   | (with_reducible refine LeO.bind ?_ (fun _ => ?_))
   | exact ih0 _ _ _
   | exact LeO.none _
   | refine LeO.ite ?_ ?_
   | refine LeO.bind ?_ (fun _ => ?_)
set_option maxHeartbeats 8000000 in
set_option maxRecDepth 100000 in
theorem laws_eqIntS.calls (k : Nat) (A0 : Option Addr) (c0 : Nat) (l0 : List Int) (A1 : Option Addr) (c1 : Nat) (l1 : List Int) (r : Bool) (w : World) (hr0 : Kd.C (Kd.int .i64) w A0 l0.length l0) (hc0 : l0.length ≤ c0) (hr1 : Kd.C (Kd.int .i64) w A1 l1.length l1) (hc1 : l1.length ≤ c1) (h : laws_eqIntS.f k l0 l1 = some r) :
  Calls Try.prog 74 #[.slice A0 l0.length c0, .slice A1 l1.length c1] w fun e w' => e = .returned (.bool r) ∧ Drawn0 w w' := by
 have HR0 := Aside0.mk hr0
 have HC0 := Aside0.mk hc0
 clear hr0 hc0
 have HR1 := Aside0.mk hr1
 have HC1 := Aside0.mk hc1
 clear hr1 hc1
 have H : (if (l0.length : Int) = (l1.length : Int) then (laws_eqIntS.l0 k l0 l1 0) else (some false)) = some r := h
 clear h
 by_cases c3 : (l0.length : Int) = (l1.length : Int)
 ·rw [if_pos c3] at H
  have c3b0 : ((l0.length : Int) == (l1.length : Int)) = true := beq_iff_eq.mpr c3
  have c3b1 : ((l0.length : Int) != (l1.length : Int)) = false := bne_eq_false_iff_eq.mpr c3
  have c3b2 : (l0.length == l1.length) = true := by first | simpa using c3 | (simp at c3 ⊢; omega)
  clear c3
  have H' := Aside0.mk H
  clear H
  go_enter Try.func74, Try.ntmps74
  go_wp2
  repeat (go_quiet (fail); try go_wp2)
  go_loopg [5] k (fun kq v5 w' => ∃ (x5_1 : Int), v5 = .int .i64 x5_1 ∧ Aside0 (laws_eqIntS.l0 kq l0 l1 x5_1 = some r) ∧ Aside0 (kq ≤ k) ∧ Drawn0 w w')
  case atStart => exact ⟨(0), (by first | rfl | (simp; done) | (simp [*]; done)), H', ⟨Nat.le_refl _⟩, by repeat (first | exact Drawn0.refl _ | apply Drawn0.step)⟩
  case round =>
   clear H'
   try clear c1
   try clear p2
   try clear c3
   try clear c3b0
   try clear c3b1
   try clear c3b2
   obtain ⟨x5_1, rfl, HA, HK1, ⟨m1, rfl⟩⟩ := hrel
   cases gk with
   | zero => exact absurd HA.out (by simp [laws_eqIntS.l0])
   | succ k1 =>
    have H := HA.out; clear HA
    simp only [laws_eqIntS.l0] at H
    by_cases c4 : x5_1 < (l0.length : Int)
    ·rw [if_pos c4] at H
     have c4b0 : decide (x5_1 < (l0.length : Int)) = true := decide_eq_true c4
     clear c4
     by_cases c5 : 0 ≤ x5_1
     ·rw [if_pos c5] at H
      have c5b0 : decide (0 ≤ x5_1) = true := decide_eq_true c5
      clear c5
      by_cases c6 : x5_1 < (l1.length : Int)
      ·rw [if_pos c6] at H
       have c6b0 : decide (x5_1 < (l1.length : Int)) = true := decide_eq_true c6
       clear c6
       by_cases c7 : (rd l0 x5_1) = (rd l1 x5_1)
       ·rw [if_pos c7] at H
        have c7b0 : ((rd l0 x5_1) == (rd l1 x5_1)) = true := beq_iff_eq.mpr c7
        have c7b1 : ((rd l0 x5_1) != (rd l1 x5_1)) = false := bne_eq_false_iff_eq.mpr c7
        clear c7
        have H' := Aside0.mk H
        clear H
        have p254 : 0 ≤ (x5_1 : Int) := of_decide_eq_true (by first | (with_reducible assumption) | assumption)
        have q254 : x5_1 < (l0.length : Int) := of_decide_eq_true (by first | (with_reducible assumption) | assumption)
        obtain ⟨ad254, e254, hx254_0⟩ := Kd.at_int HR0.out x5_1 p254 q254
        cases e254
        replace p254 := eq_true p254
        replace q254 := eq_true q254
        have p255 : 0 ≤ (x5_1 : Int) := of_decide_eq_true (by first | (with_reducible assumption) | assumption)
        have q255 : x5_1 < (l1.length : Int) := of_decide_eq_true (by first | (with_reducible assumption) | assumption)
        obtain ⟨ad255, e255, hx255_0⟩ := Kd.at_int HR1.out x5_1 p255 q255
        cases e255
        replace p255 := eq_true p255
        replace q255 := eq_true q255
        go_wp2
        repeat (go_quiet (fail); try go_wp2)
        go_roundg k1
        case measure => have := HK1.out; omega
        case rel => exact ⟨(wrap64 (x5_1 + 1)), (by first | rfl | (simp; done) | (simp [*]; done)), H', ⟨by have := HK1.out; omega⟩, by repeat (first | exact Drawn0.refl _ | apply Drawn0.step)⟩
       ·rw [if_neg c7] at H
        have c7b0 : ((rd l0 x5_1) == (rd l1 x5_1)) = false := beq_eq_false_iff_ne.mpr c7
        have c7b1 : ((rd l0 x5_1) != (rd l1 x5_1)) = true := bne_iff_ne.mpr c7
        obtain rfl := Option.some.inj H
        simp only [Option.some.injEq, Prod.mk.injEq] at H
        obtain ⟨rfl⟩ := H
        have p254 : 0 ≤ (x5_1 : Int) := of_decide_eq_true (by first | (with_reducible assumption) | assumption)
        have q254 : x5_1 < (l0.length : Int) := of_decide_eq_true (by first | (with_reducible assumption) | assumption)
        obtain ⟨ad254, e254, hx254_0⟩ := Kd.at_int HR0.out x5_1 p254 q254
        cases e254
        replace p254 := eq_true p254
        replace q254 := eq_true q254
        have p255 : 0 ≤ (x5_1 : Int) := of_decide_eq_true (by first | (with_reducible assumption) | assumption)
        have q255 : x5_1 < (l1.length : Int) := of_decide_eq_true (by first | (with_reducible assumption) | assumption)
        obtain ⟨ad255, e255, hx255_0⟩ := Kd.at_int HR1.out x5_1 p255 q255
        cases e255
        replace p255 := eq_true p255
        replace q255 := eq_true q255
        go_wp2
        repeat (go_quiet (fail); try go_wp2)
        go_ret
        exact ⟨by first | rfl | (simp; done) | (simp [*]; done), by repeat (first | exact Drawn0.refl _ | apply Drawn0.step)⟩
      ·rw [if_neg c6] at H
       exact absurd H (by simp)
     ·rw [if_neg c5] at H
      exact absurd H (by simp)
    ·rw [if_neg c4] at H
     have c4b0 : decide (x5_1 < (l0.length : Int)) = false := decide_eq_false c4
     clear c4
     obtain rfl := Option.some.inj H
     simp only [Option.some.injEq, Prod.mk.injEq] at H
     obtain ⟨rfl⟩ := H
     go_wp2
     repeat (go_quiet (fail); try go_wp2)
     go_ret
     exact ⟨by first | rfl | (simp; done) | (simp [*]; done), by repeat (first | exact Drawn0.refl _ | apply Drawn0.step)⟩
 ·rw [if_neg c3] at H
  have c3b0 : ((l0.length : Int) == (l1.length : Int)) = false := beq_eq_false_iff_ne.mpr c3
  have c3b1 : ((l0.length : Int) != (l1.length : Int)) = true := bne_iff_ne.mpr c3
  have c3b2 : (l0.length == l1.length) = false := by first | simpa using c3 | (simp at c3 ⊢; omega)
  obtain rfl := Option.some.inj H
  simp only [Option.some.injEq, Prod.mk.injEq] at H
  obtain ⟨rfl⟩ := H
  go_enter Try.func74, Try.ntmps74
  go_wp2
  repeat (go_quiet (fail); try go_wp2)
  go_ret
  exact ⟨by first | rfl | (simp; done) | (simp [*]; done), by repeat (first | exact Drawn0.refl _ | apply Drawn0.step)⟩

/-! ### laws_eqMat: function 184 -/
def laws_eqMat.f (a0_0 : Int) (a0_1 : Int) (a0_2 : Int) (a0_3 : Int) (a0_4 : Int) (a0_5 : Int) (a1_0 : Int) (a1_1 : Int) (a1_2 : Int) (a1_3 : Int) (a1_4 : Int) (a1_5 : Int) : Option (Bool) := if a0_0 = a1_0 then (if a0_1 = a1_1 then (if a0_2 = a1_2 then (if a0_3 = a1_3 then (if a0_4 = a1_4 then (if a0_5 = a1_5 then (some true) else (some false)) else (some false)) else (some false)) else (some false)) else (some false)) else (some false)
set_option maxHeartbeats 8000000 in
set_option maxRecDepth 100000 in
theorem laws_eqMat.calls (a0_0 : Int) (a0_1 : Int) (a0_2 : Int) (a0_3 : Int) (a0_4 : Int) (a0_5 : Int) (a1_0 : Int) (a1_1 : Int) (a1_2 : Int) (a1_3 : Int) (a1_4 : Int) (a1_5 : Int) (r : Bool) (w : World) (h : laws_eqMat.f a0_0 a0_1 a0_2 a0_3 a0_4 a0_5 a1_0 a1_1 a1_2 a1_3 a1_4 a1_5 = some r) :
  Calls Try.prog 184 #[.agg #[.int .i64 a0_0, .int .i64 a0_1, .int .i64 a0_2, .int .i64 a0_3, .int .i64 a0_4, .int .i64 a0_5], .agg #[.int .i64 a1_0, .int .i64 a1_1, .int .i64 a1_2, .int .i64 a1_3, .int .i64 a1_4, .int .i64 a1_5]] w fun e w' => e = .returned (.bool r) ∧ Below w.heap.size w w' := by
 have hu90 := Try.underlying90
 have HB := Aside0.mk (Below.refl w.heap.size w)
 have H : (if a0_0 = a1_0 then (if a0_1 = a1_1 then (if a0_2 = a1_2 then (if a0_3 = a1_3 then (if a0_4 = a1_4 then (if a0_5 = a1_5 then (some true) else (some false)) else (some false)) else (some false)) else (some false)) else (some false)) else (some false)) = some r := h
 clear h
 by_cases c3 : a0_0 = a1_0
 ·rw [if_pos c3] at H
  have c3b0 : (a0_0 == a1_0) = true := beq_iff_eq.mpr c3
  have c3b1 : (a0_0 != a1_0) = false := bne_eq_false_iff_eq.mpr c3
  clear c3
  by_cases c4 : a0_1 = a1_1
  ·rw [if_pos c4] at H
   have c4b0 : (a0_1 == a1_1) = true := beq_iff_eq.mpr c4
   have c4b1 : (a0_1 != a1_1) = false := bne_eq_false_iff_eq.mpr c4
   clear c4
   by_cases c5 : a0_2 = a1_2
   ·rw [if_pos c5] at H
    have c5b0 : (a0_2 == a1_2) = true := beq_iff_eq.mpr c5
    have c5b1 : (a0_2 != a1_2) = false := bne_eq_false_iff_eq.mpr c5
    clear c5
    by_cases c6 : a0_3 = a1_3
    ·rw [if_pos c6] at H
     have c6b0 : (a0_3 == a1_3) = true := beq_iff_eq.mpr c6
     have c6b1 : (a0_3 != a1_3) = false := bne_eq_false_iff_eq.mpr c6
     clear c6
     by_cases c7 : a0_4 = a1_4
     ·rw [if_pos c7] at H
      have c7b0 : (a0_4 == a1_4) = true := beq_iff_eq.mpr c7
      have c7b1 : (a0_4 != a1_4) = false := bne_eq_false_iff_eq.mpr c7
      clear c7
      by_cases c8 : a0_5 = a1_5
      ·rw [if_pos c8] at H
       have c8b0 : (a0_5 == a1_5) = true := beq_iff_eq.mpr c8
       have c8b1 : (a0_5 != a1_5) = false := bne_eq_false_iff_eq.mpr c8
       clear c8
       obtain rfl := Option.some.inj H
       simp only [Option.some.injEq, Prod.mk.injEq] at H
       obtain ⟨rfl⟩ := H
       go_enter Try.func184, Try.ntmps184
       go_wp2_with (first | ((with_reducible refine gate_dst (N := 2) rfl ?_); refine box_event ?hg (N := 2) ?hd (cs := #[.int .i64 a0_0, .int .i64 a0_1, .int .i64 a0_2, .int .i64 a0_3, .int .i64 a0_4, .int .i64 a0_5]) (t := 90) ?hr ?_; (case hd => rfl); (case hg => rfl); (case hr => first | (go_simp; done) | (go_simp; rfl)); intro gb256 hg w9 hbox hb; have n0_ := Aside0.mk (below_step z3_0 hb); have n1_ := Aside0.mk (hbox); have n2_ := Aside0.mk ((by rw [hg]; exact (below_size z3_0) : w.heap.size ≤ gb256)); have n3_ := Aside0.mk ((by rw [hg]; exact (below_size z3_0) : w.heap.size ≤ gb256)); clear HB; have HB := n0_; have BK256 := n1_; have GW256 := n2_; have GE256 := n3_; clear n0_ n1_ n2_ n3_; clear hb hbox hg) | ((with_reducible refine gate_dst (N := 3) rfl ?_); refine box_event ?hg (N := 3) ?hd (cs := #[.int .i64 a1_0, .int .i64 a1_1, .int .i64 a1_2, .int .i64 a1_3, .int .i64 a1_4, .int .i64 a1_5]) (t := 90) ?hr ?_; (case hd => rfl); (case hg => rfl); (case hr => first | (go_simp; done) | (go_simp; rfl)); intro gb257 hg w10 hbox hb; have n0_ := Aside0.mk (blk_below (g := gb256) (o := .cells #[.int .i64 a0_0, .int .i64 a0_1, .int .i64 a0_2, .int .i64 a0_3, .int .i64 a0_4, .int .i64 a0_5] 90 (0, 0)) z3_2 hb); have n1_ := Aside0.mk (below_step z3_1 hb); have n2_ := Aside0.mk (hbox); have n3_ := Aside0.mk ((by rw [hg]; exact (below_size z3_1) : w.heap.size ≤ gb257)); have n4_ := Aside0.mk ((by rw [hg]; exact (below_size z3_1) : w.heap.size ≤ gb257)); have n5_ := Aside0.mk ((by rw [hg]; exact Nat.ne_of_lt (blk_lt (g := gb256) (o := .cells #[.int .i64 a0_0, .int .i64 a0_1, .int .i64 a0_2, .int .i64 a0_3, .int .i64 a0_4, .int .i64 a0_5] 90 (0, 0)) z3_2) : gb256 ≠ gb257)); have n6_ := Aside0.mk ((by rw [hg]; exact Nat.ne_of_gt (blk_lt (g := gb256) (o := .cells #[.int .i64 a0_0, .int .i64 a0_1, .int .i64 a0_2, .int .i64 a0_3, .int .i64 a0_4, .int .i64 a0_5] 90 (0, 0)) z3_2) : gb257 ≠ gb256)); clear BK256; clear HB; have BK256 := n0_; have HB := n1_; have BK257 := n2_; have GW257 := n3_; have GE257 := n4_; have NB256_257 := n5_; have NB257_256 := n6_; clear n0_ n1_ n2_ n3_ n4_ n5_ n6_; clear hb hbox hg; have hnb11 := NB256_257.out; have hnc11 := NB257_256.out; have hcz12_0 : w10.cell? ⟨gb256, 0, none⟩ = some (.int .i64 a0_0) := (blk_cell BK256.out 0).trans rfl; have hcz12_1 : w10.cell? ⟨gb256, 1, none⟩ = some (.int .i64 a0_1) := (blk_cell BK256.out 1).trans rfl; have hcz12_2 : w10.cell? ⟨gb256, 2, none⟩ = some (.int .i64 a0_2) := (blk_cell BK256.out 2).trans rfl; have hcz12_3 : w10.cell? ⟨gb256, 3, none⟩ = some (.int .i64 a0_3) := (blk_cell BK256.out 3).trans rfl; have hcz12_4 : w10.cell? ⟨gb256, 4, none⟩ = some (.int .i64 a0_4) := (blk_cell BK256.out 4).trans rfl; have hcz12_5 : w10.cell? ⟨gb256, 5, none⟩ = some (.int .i64 a0_5) := (blk_cell BK256.out 5).trans rfl; have hfz12_0 := blk_frozen BK256.out 0; have hfz12_1 := blk_frozen BK256.out 1; have hfz12_2 := blk_frozen BK256.out 2; have hfz12_3 := blk_frozen BK256.out 3; have hfz12_4 := blk_frozen BK256.out 4; have hfz12_5 := blk_frozen BK256.out 5; have hcz13_0 : w10.cell? ⟨gb257, 0, none⟩ = some (.int .i64 a1_0) := (blk_cell BK257.out 0).trans rfl; have hcz13_1 : w10.cell? ⟨gb257, 1, none⟩ = some (.int .i64 a1_1) := (blk_cell BK257.out 1).trans rfl; have hcz13_2 : w10.cell? ⟨gb257, 2, none⟩ = some (.int .i64 a1_2) := (blk_cell BK257.out 2).trans rfl; have hcz13_3 : w10.cell? ⟨gb257, 3, none⟩ = some (.int .i64 a1_3) := (blk_cell BK257.out 3).trans rfl; have hcz13_4 : w10.cell? ⟨gb257, 4, none⟩ = some (.int .i64 a1_4) := (blk_cell BK257.out 4).trans rfl; have hcz13_5 : w10.cell? ⟨gb257, 5, none⟩ = some (.int .i64 a1_5) := (blk_cell BK257.out 5).trans rfl; have hfz13_0 := blk_frozen BK257.out 0; have hfz13_1 := blk_frozen BK257.out 1; have hfz13_2 := blk_frozen BK257.out 2; have hfz13_3 := blk_frozen BK257.out 3; have hfz13_4 := blk_frozen BK257.out 4; have hfz13_5 := blk_frozen BK257.out 5))
       go_ret
       exact ⟨by first | rfl | (simp [errW_none, errW_some] <;> rfl) | (simp [*, errW_none, errW_some] <;> rfl), by repeat (first | (with_reducible first | exact HB.out | apply below_alloc | apply pw_below_drewN | apply below_drew1 | refine below_set ?_ GE256.out | refine below_set ?_ GE257.out) | exact HB.out)⟩
      ·rw [if_neg c8] at H
       have c8b0 : (a0_5 == a1_5) = false := beq_eq_false_iff_ne.mpr c8
       have c8b1 : (a0_5 != a1_5) = true := bne_iff_ne.mpr c8
       obtain rfl := Option.some.inj H
       simp only [Option.some.injEq, Prod.mk.injEq] at H
       obtain ⟨rfl⟩ := H
       go_enter Try.func184, Try.ntmps184
       go_wp2_with (first | ((with_reducible refine gate_dst (N := 2) rfl ?_); refine box_event ?hg (N := 2) ?hd (cs := #[.int .i64 a0_0, .int .i64 a0_1, .int .i64 a0_2, .int .i64 a0_3, .int .i64 a0_4, .int .i64 a0_5]) (t := 90) ?hr ?_; (case hd => rfl); (case hg => rfl); (case hr => first | (go_simp; done) | (go_simp; rfl)); intro gb256 hg w14 hbox hb; have n0_ := Aside0.mk (below_step z3_0 hb); have n1_ := Aside0.mk (hbox); have n2_ := Aside0.mk ((by rw [hg]; exact (below_size z3_0) : w.heap.size ≤ gb256)); have n3_ := Aside0.mk ((by rw [hg]; exact (below_size z3_0) : w.heap.size ≤ gb256)); clear HB; have HB := n0_; have BK256 := n1_; have GW256 := n2_; have GE256 := n3_; clear n0_ n1_ n2_ n3_; clear hb hbox hg) | ((with_reducible refine gate_dst (N := 3) rfl ?_); refine box_event ?hg (N := 3) ?hd (cs := #[.int .i64 a1_0, .int .i64 a1_1, .int .i64 a1_2, .int .i64 a1_3, .int .i64 a1_4, .int .i64 a1_5]) (t := 90) ?hr ?_; (case hd => rfl); (case hg => rfl); (case hr => first | (go_simp; done) | (go_simp; rfl)); intro gb257 hg w15 hbox hb; have n0_ := Aside0.mk (blk_below (g := gb256) (o := .cells #[.int .i64 a0_0, .int .i64 a0_1, .int .i64 a0_2, .int .i64 a0_3, .int .i64 a0_4, .int .i64 a0_5] 90 (0, 0)) z3_2 hb); have n1_ := Aside0.mk (below_step z3_1 hb); have n2_ := Aside0.mk (hbox); have n3_ := Aside0.mk ((by rw [hg]; exact (below_size z3_1) : w.heap.size ≤ gb257)); have n4_ := Aside0.mk ((by rw [hg]; exact (below_size z3_1) : w.heap.size ≤ gb257)); have n5_ := Aside0.mk ((by rw [hg]; exact Nat.ne_of_lt (blk_lt (g := gb256) (o := .cells #[.int .i64 a0_0, .int .i64 a0_1, .int .i64 a0_2, .int .i64 a0_3, .int .i64 a0_4, .int .i64 a0_5] 90 (0, 0)) z3_2) : gb256 ≠ gb257)); have n6_ := Aside0.mk ((by rw [hg]; exact Nat.ne_of_gt (blk_lt (g := gb256) (o := .cells #[.int .i64 a0_0, .int .i64 a0_1, .int .i64 a0_2, .int .i64 a0_3, .int .i64 a0_4, .int .i64 a0_5] 90 (0, 0)) z3_2) : gb257 ≠ gb256)); clear BK256; clear HB; have BK256 := n0_; have HB := n1_; have BK257 := n2_; have GW257 := n3_; have GE257 := n4_; have NB256_257 := n5_; have NB257_256 := n6_; clear n0_ n1_ n2_ n3_ n4_ n5_ n6_; clear hb hbox hg; have hnb16 := NB256_257.out; have hnc16 := NB257_256.out; have hcz17_0 : w15.cell? ⟨gb256, 0, none⟩ = some (.int .i64 a0_0) := (blk_cell BK256.out 0).trans rfl; have hcz17_1 : w15.cell? ⟨gb256, 1, none⟩ = some (.int .i64 a0_1) := (blk_cell BK256.out 1).trans rfl; have hcz17_2 : w15.cell? ⟨gb256, 2, none⟩ = some (.int .i64 a0_2) := (blk_cell BK256.out 2).trans rfl; have hcz17_3 : w15.cell? ⟨gb256, 3, none⟩ = some (.int .i64 a0_3) := (blk_cell BK256.out 3).trans rfl; have hcz17_4 : w15.cell? ⟨gb256, 4, none⟩ = some (.int .i64 a0_4) := (blk_cell BK256.out 4).trans rfl; have hcz17_5 : w15.cell? ⟨gb256, 5, none⟩ = some (.int .i64 a0_5) := (blk_cell BK256.out 5).trans rfl; have hfz17_0 := blk_frozen BK256.out 0; have hfz17_1 := blk_frozen BK256.out 1; have hfz17_2 := blk_frozen BK256.out 2; have hfz17_3 := blk_frozen BK256.out 3; have hfz17_4 := blk_frozen BK256.out 4; have hfz17_5 := blk_frozen BK256.out 5; have hcz18_0 : w15.cell? ⟨gb257, 0, none⟩ = some (.int .i64 a1_0) := (blk_cell BK257.out 0).trans rfl; have hcz18_1 : w15.cell? ⟨gb257, 1, none⟩ = some (.int .i64 a1_1) := (blk_cell BK257.out 1).trans rfl; have hcz18_2 : w15.cell? ⟨gb257, 2, none⟩ = some (.int .i64 a1_2) := (blk_cell BK257.out 2).trans rfl; have hcz18_3 : w15.cell? ⟨gb257, 3, none⟩ = some (.int .i64 a1_3) := (blk_cell BK257.out 3).trans rfl; have hcz18_4 : w15.cell? ⟨gb257, 4, none⟩ = some (.int .i64 a1_4) := (blk_cell BK257.out 4).trans rfl; have hcz18_5 : w15.cell? ⟨gb257, 5, none⟩ = some (.int .i64 a1_5) := (blk_cell BK257.out 5).trans rfl; have hfz18_0 := blk_frozen BK257.out 0; have hfz18_1 := blk_frozen BK257.out 1; have hfz18_2 := blk_frozen BK257.out 2; have hfz18_3 := blk_frozen BK257.out 3; have hfz18_4 := blk_frozen BK257.out 4; have hfz18_5 := blk_frozen BK257.out 5))
       go_ret
       exact ⟨by first | rfl | (simp [errW_none, errW_some] <;> rfl) | (simp [*, errW_none, errW_some] <;> rfl), by repeat (first | (with_reducible first | exact HB.out | apply below_alloc | apply pw_below_drewN | apply below_drew1 | refine below_set ?_ GE256.out | refine below_set ?_ GE257.out) | exact HB.out)⟩
     ·rw [if_neg c7] at H
      have c7b0 : (a0_4 == a1_4) = false := beq_eq_false_iff_ne.mpr c7
      have c7b1 : (a0_4 != a1_4) = true := bne_iff_ne.mpr c7
      obtain rfl := Option.some.inj H
      simp only [Option.some.injEq, Prod.mk.injEq] at H
      obtain ⟨rfl⟩ := H
      go_enter Try.func184, Try.ntmps184
      go_wp2_with (first | ((with_reducible refine gate_dst (N := 2) rfl ?_); refine box_event ?hg (N := 2) ?hd (cs := #[.int .i64 a0_0, .int .i64 a0_1, .int .i64 a0_2, .int .i64 a0_3, .int .i64 a0_4, .int .i64 a0_5]) (t := 90) ?hr ?_; (case hd => rfl); (case hg => rfl); (case hr => first | (go_simp; done) | (go_simp; rfl)); intro gb256 hg w19 hbox hb; have n0_ := Aside0.mk (below_step z3_0 hb); have n1_ := Aside0.mk (hbox); have n2_ := Aside0.mk ((by rw [hg]; exact (below_size z3_0) : w.heap.size ≤ gb256)); have n3_ := Aside0.mk ((by rw [hg]; exact (below_size z3_0) : w.heap.size ≤ gb256)); clear HB; have HB := n0_; have BK256 := n1_; have GW256 := n2_; have GE256 := n3_; clear n0_ n1_ n2_ n3_; clear hb hbox hg) | ((with_reducible refine gate_dst (N := 3) rfl ?_); refine box_event ?hg (N := 3) ?hd (cs := #[.int .i64 a1_0, .int .i64 a1_1, .int .i64 a1_2, .int .i64 a1_3, .int .i64 a1_4, .int .i64 a1_5]) (t := 90) ?hr ?_; (case hd => rfl); (case hg => rfl); (case hr => first | (go_simp; done) | (go_simp; rfl)); intro gb257 hg w20 hbox hb; have n0_ := Aside0.mk (blk_below (g := gb256) (o := .cells #[.int .i64 a0_0, .int .i64 a0_1, .int .i64 a0_2, .int .i64 a0_3, .int .i64 a0_4, .int .i64 a0_5] 90 (0, 0)) z3_2 hb); have n1_ := Aside0.mk (below_step z3_1 hb); have n2_ := Aside0.mk (hbox); have n3_ := Aside0.mk ((by rw [hg]; exact (below_size z3_1) : w.heap.size ≤ gb257)); have n4_ := Aside0.mk ((by rw [hg]; exact (below_size z3_1) : w.heap.size ≤ gb257)); have n5_ := Aside0.mk ((by rw [hg]; exact Nat.ne_of_lt (blk_lt (g := gb256) (o := .cells #[.int .i64 a0_0, .int .i64 a0_1, .int .i64 a0_2, .int .i64 a0_3, .int .i64 a0_4, .int .i64 a0_5] 90 (0, 0)) z3_2) : gb256 ≠ gb257)); have n6_ := Aside0.mk ((by rw [hg]; exact Nat.ne_of_gt (blk_lt (g := gb256) (o := .cells #[.int .i64 a0_0, .int .i64 a0_1, .int .i64 a0_2, .int .i64 a0_3, .int .i64 a0_4, .int .i64 a0_5] 90 (0, 0)) z3_2) : gb257 ≠ gb256)); clear BK256; clear HB; have BK256 := n0_; have HB := n1_; have BK257 := n2_; have GW257 := n3_; have GE257 := n4_; have NB256_257 := n5_; have NB257_256 := n6_; clear n0_ n1_ n2_ n3_ n4_ n5_ n6_; clear hb hbox hg; have hnb21 := NB256_257.out; have hnc21 := NB257_256.out; have hcz22_0 : w20.cell? ⟨gb256, 0, none⟩ = some (.int .i64 a0_0) := (blk_cell BK256.out 0).trans rfl; have hcz22_1 : w20.cell? ⟨gb256, 1, none⟩ = some (.int .i64 a0_1) := (blk_cell BK256.out 1).trans rfl; have hcz22_2 : w20.cell? ⟨gb256, 2, none⟩ = some (.int .i64 a0_2) := (blk_cell BK256.out 2).trans rfl; have hcz22_3 : w20.cell? ⟨gb256, 3, none⟩ = some (.int .i64 a0_3) := (blk_cell BK256.out 3).trans rfl; have hcz22_4 : w20.cell? ⟨gb256, 4, none⟩ = some (.int .i64 a0_4) := (blk_cell BK256.out 4).trans rfl; have hcz22_5 : w20.cell? ⟨gb256, 5, none⟩ = some (.int .i64 a0_5) := (blk_cell BK256.out 5).trans rfl; have hfz22_0 := blk_frozen BK256.out 0; have hfz22_1 := blk_frozen BK256.out 1; have hfz22_2 := blk_frozen BK256.out 2; have hfz22_3 := blk_frozen BK256.out 3; have hfz22_4 := blk_frozen BK256.out 4; have hfz22_5 := blk_frozen BK256.out 5; have hcz23_0 : w20.cell? ⟨gb257, 0, none⟩ = some (.int .i64 a1_0) := (blk_cell BK257.out 0).trans rfl; have hcz23_1 : w20.cell? ⟨gb257, 1, none⟩ = some (.int .i64 a1_1) := (blk_cell BK257.out 1).trans rfl; have hcz23_2 : w20.cell? ⟨gb257, 2, none⟩ = some (.int .i64 a1_2) := (blk_cell BK257.out 2).trans rfl; have hcz23_3 : w20.cell? ⟨gb257, 3, none⟩ = some (.int .i64 a1_3) := (blk_cell BK257.out 3).trans rfl; have hcz23_4 : w20.cell? ⟨gb257, 4, none⟩ = some (.int .i64 a1_4) := (blk_cell BK257.out 4).trans rfl; have hcz23_5 : w20.cell? ⟨gb257, 5, none⟩ = some (.int .i64 a1_5) := (blk_cell BK257.out 5).trans rfl; have hfz23_0 := blk_frozen BK257.out 0; have hfz23_1 := blk_frozen BK257.out 1; have hfz23_2 := blk_frozen BK257.out 2; have hfz23_3 := blk_frozen BK257.out 3; have hfz23_4 := blk_frozen BK257.out 4; have hfz23_5 := blk_frozen BK257.out 5))
      go_ret
      exact ⟨by first | rfl | (simp [errW_none, errW_some] <;> rfl) | (simp [*, errW_none, errW_some] <;> rfl), by repeat (first | (with_reducible first | exact HB.out | apply below_alloc | apply pw_below_drewN | apply below_drew1 | refine below_set ?_ GE256.out | refine below_set ?_ GE257.out) | exact HB.out)⟩
    ·rw [if_neg c6] at H
     have c6b0 : (a0_3 == a1_3) = false := beq_eq_false_iff_ne.mpr c6
     have c6b1 : (a0_3 != a1_3) = true := bne_iff_ne.mpr c6
     obtain rfl := Option.some.inj H
     simp only [Option.some.injEq, Prod.mk.injEq] at H
     obtain ⟨rfl⟩ := H
     go_enter Try.func184, Try.ntmps184
     go_wp2_with (first | ((with_reducible refine gate_dst (N := 2) rfl ?_); refine box_event ?hg (N := 2) ?hd (cs := #[.int .i64 a0_0, .int .i64 a0_1, .int .i64 a0_2, .int .i64 a0_3, .int .i64 a0_4, .int .i64 a0_5]) (t := 90) ?hr ?_; (case hd => rfl); (case hg => rfl); (case hr => first | (go_simp; done) | (go_simp; rfl)); intro gb256 hg w24 hbox hb; have n0_ := Aside0.mk (below_step z3_0 hb); have n1_ := Aside0.mk (hbox); have n2_ := Aside0.mk ((by rw [hg]; exact (below_size z3_0) : w.heap.size ≤ gb256)); have n3_ := Aside0.mk ((by rw [hg]; exact (below_size z3_0) : w.heap.size ≤ gb256)); clear HB; have HB := n0_; have BK256 := n1_; have GW256 := n2_; have GE256 := n3_; clear n0_ n1_ n2_ n3_; clear hb hbox hg) | ((with_reducible refine gate_dst (N := 3) rfl ?_); refine box_event ?hg (N := 3) ?hd (cs := #[.int .i64 a1_0, .int .i64 a1_1, .int .i64 a1_2, .int .i64 a1_3, .int .i64 a1_4, .int .i64 a1_5]) (t := 90) ?hr ?_; (case hd => rfl); (case hg => rfl); (case hr => first | (go_simp; done) | (go_simp; rfl)); intro gb257 hg w25 hbox hb; have n0_ := Aside0.mk (blk_below (g := gb256) (o := .cells #[.int .i64 a0_0, .int .i64 a0_1, .int .i64 a0_2, .int .i64 a0_3, .int .i64 a0_4, .int .i64 a0_5] 90 (0, 0)) z3_2 hb); have n1_ := Aside0.mk (below_step z3_1 hb); have n2_ := Aside0.mk (hbox); have n3_ := Aside0.mk ((by rw [hg]; exact (below_size z3_1) : w.heap.size ≤ gb257)); have n4_ := Aside0.mk ((by rw [hg]; exact (below_size z3_1) : w.heap.size ≤ gb257)); have n5_ := Aside0.mk ((by rw [hg]; exact Nat.ne_of_lt (blk_lt (g := gb256) (o := .cells #[.int .i64 a0_0, .int .i64 a0_1, .int .i64 a0_2, .int .i64 a0_3, .int .i64 a0_4, .int .i64 a0_5] 90 (0, 0)) z3_2) : gb256 ≠ gb257)); have n6_ := Aside0.mk ((by rw [hg]; exact Nat.ne_of_gt (blk_lt (g := gb256) (o := .cells #[.int .i64 a0_0, .int .i64 a0_1, .int .i64 a0_2, .int .i64 a0_3, .int .i64 a0_4, .int .i64 a0_5] 90 (0, 0)) z3_2) : gb257 ≠ gb256)); clear BK256; clear HB; have BK256 := n0_; have HB := n1_; have BK257 := n2_; have GW257 := n3_; have GE257 := n4_; have NB256_257 := n5_; have NB257_256 := n6_; clear n0_ n1_ n2_ n3_ n4_ n5_ n6_; clear hb hbox hg; have hnb26 := NB256_257.out; have hnc26 := NB257_256.out; have hcz27_0 : w25.cell? ⟨gb256, 0, none⟩ = some (.int .i64 a0_0) := (blk_cell BK256.out 0).trans rfl; have hcz27_1 : w25.cell? ⟨gb256, 1, none⟩ = some (.int .i64 a0_1) := (blk_cell BK256.out 1).trans rfl; have hcz27_2 : w25.cell? ⟨gb256, 2, none⟩ = some (.int .i64 a0_2) := (blk_cell BK256.out 2).trans rfl; have hcz27_3 : w25.cell? ⟨gb256, 3, none⟩ = some (.int .i64 a0_3) := (blk_cell BK256.out 3).trans rfl; have hcz27_4 : w25.cell? ⟨gb256, 4, none⟩ = some (.int .i64 a0_4) := (blk_cell BK256.out 4).trans rfl; have hcz27_5 : w25.cell? ⟨gb256, 5, none⟩ = some (.int .i64 a0_5) := (blk_cell BK256.out 5).trans rfl; have hfz27_0 := blk_frozen BK256.out 0; have hfz27_1 := blk_frozen BK256.out 1; have hfz27_2 := blk_frozen BK256.out 2; have hfz27_3 := blk_frozen BK256.out 3; have hfz27_4 := blk_frozen BK256.out 4; have hfz27_5 := blk_frozen BK256.out 5; have hcz28_0 : w25.cell? ⟨gb257, 0, none⟩ = some (.int .i64 a1_0) := (blk_cell BK257.out 0).trans rfl; have hcz28_1 : w25.cell? ⟨gb257, 1, none⟩ = some (.int .i64 a1_1) := (blk_cell BK257.out 1).trans rfl; have hcz28_2 : w25.cell? ⟨gb257, 2, none⟩ = some (.int .i64 a1_2) := (blk_cell BK257.out 2).trans rfl; have hcz28_3 : w25.cell? ⟨gb257, 3, none⟩ = some (.int .i64 a1_3) := (blk_cell BK257.out 3).trans rfl; have hcz28_4 : w25.cell? ⟨gb257, 4, none⟩ = some (.int .i64 a1_4) := (blk_cell BK257.out 4).trans rfl; have hcz28_5 : w25.cell? ⟨gb257, 5, none⟩ = some (.int .i64 a1_5) := (blk_cell BK257.out 5).trans rfl; have hfz28_0 := blk_frozen BK257.out 0; have hfz28_1 := blk_frozen BK257.out 1; have hfz28_2 := blk_frozen BK257.out 2; have hfz28_3 := blk_frozen BK257.out 3; have hfz28_4 := blk_frozen BK257.out 4; have hfz28_5 := blk_frozen BK257.out 5))
     go_ret
     exact ⟨by first | rfl | (simp [errW_none, errW_some] <;> rfl) | (simp [*, errW_none, errW_some] <;> rfl), by repeat (first | (with_reducible first | exact HB.out | apply below_alloc | apply pw_below_drewN | apply below_drew1 | refine below_set ?_ GE256.out | refine below_set ?_ GE257.out) | exact HB.out)⟩
   ·rw [if_neg c5] at H
    have c5b0 : (a0_2 == a1_2) = false := beq_eq_false_iff_ne.mpr c5
    have c5b1 : (a0_2 != a1_2) = true := bne_iff_ne.mpr c5
    obtain rfl := Option.some.inj H
    simp only [Option.some.injEq, Prod.mk.injEq] at H
    obtain ⟨rfl⟩ := H
    go_enter Try.func184, Try.ntmps184
    go_wp2_with (first | ((with_reducible refine gate_dst (N := 2) rfl ?_); refine box_event ?hg (N := 2) ?hd (cs := #[.int .i64 a0_0, .int .i64 a0_1, .int .i64 a0_2, .int .i64 a0_3, .int .i64 a0_4, .int .i64 a0_5]) (t := 90) ?hr ?_; (case hd => rfl); (case hg => rfl); (case hr => first | (go_simp; done) | (go_simp; rfl)); intro gb256 hg w29 hbox hb; have n0_ := Aside0.mk (below_step z3_0 hb); have n1_ := Aside0.mk (hbox); have n2_ := Aside0.mk ((by rw [hg]; exact (below_size z3_0) : w.heap.size ≤ gb256)); have n3_ := Aside0.mk ((by rw [hg]; exact (below_size z3_0) : w.heap.size ≤ gb256)); clear HB; have HB := n0_; have BK256 := n1_; have GW256 := n2_; have GE256 := n3_; clear n0_ n1_ n2_ n3_; clear hb hbox hg) | ((with_reducible refine gate_dst (N := 3) rfl ?_); refine box_event ?hg (N := 3) ?hd (cs := #[.int .i64 a1_0, .int .i64 a1_1, .int .i64 a1_2, .int .i64 a1_3, .int .i64 a1_4, .int .i64 a1_5]) (t := 90) ?hr ?_; (case hd => rfl); (case hg => rfl); (case hr => first | (go_simp; done) | (go_simp; rfl)); intro gb257 hg w30 hbox hb; have n0_ := Aside0.mk (blk_below (g := gb256) (o := .cells #[.int .i64 a0_0, .int .i64 a0_1, .int .i64 a0_2, .int .i64 a0_3, .int .i64 a0_4, .int .i64 a0_5] 90 (0, 0)) z3_2 hb); have n1_ := Aside0.mk (below_step z3_1 hb); have n2_ := Aside0.mk (hbox); have n3_ := Aside0.mk ((by rw [hg]; exact (below_size z3_1) : w.heap.size ≤ gb257)); have n4_ := Aside0.mk ((by rw [hg]; exact (below_size z3_1) : w.heap.size ≤ gb257)); have n5_ := Aside0.mk ((by rw [hg]; exact Nat.ne_of_lt (blk_lt (g := gb256) (o := .cells #[.int .i64 a0_0, .int .i64 a0_1, .int .i64 a0_2, .int .i64 a0_3, .int .i64 a0_4, .int .i64 a0_5] 90 (0, 0)) z3_2) : gb256 ≠ gb257)); have n6_ := Aside0.mk ((by rw [hg]; exact Nat.ne_of_gt (blk_lt (g := gb256) (o := .cells #[.int .i64 a0_0, .int .i64 a0_1, .int .i64 a0_2, .int .i64 a0_3, .int .i64 a0_4, .int .i64 a0_5] 90 (0, 0)) z3_2) : gb257 ≠ gb256)); clear BK256; clear HB; have BK256 := n0_; have HB := n1_; have BK257 := n2_; have GW257 := n3_; have GE257 := n4_; have NB256_257 := n5_; have NB257_256 := n6_; clear n0_ n1_ n2_ n3_ n4_ n5_ n6_; clear hb hbox hg; have hnb31 := NB256_257.out; have hnc31 := NB257_256.out; have hcz32_0 : w30.cell? ⟨gb256, 0, none⟩ = some (.int .i64 a0_0) := (blk_cell BK256.out 0).trans rfl; have hcz32_1 : w30.cell? ⟨gb256, 1, none⟩ = some (.int .i64 a0_1) := (blk_cell BK256.out 1).trans rfl; have hcz32_2 : w30.cell? ⟨gb256, 2, none⟩ = some (.int .i64 a0_2) := (blk_cell BK256.out 2).trans rfl; have hcz32_3 : w30.cell? ⟨gb256, 3, none⟩ = some (.int .i64 a0_3) := (blk_cell BK256.out 3).trans rfl; have hcz32_4 : w30.cell? ⟨gb256, 4, none⟩ = some (.int .i64 a0_4) := (blk_cell BK256.out 4).trans rfl; have hcz32_5 : w30.cell? ⟨gb256, 5, none⟩ = some (.int .i64 a0_5) := (blk_cell BK256.out 5).trans rfl; have hfz32_0 := blk_frozen BK256.out 0; have hfz32_1 := blk_frozen BK256.out 1; have hfz32_2 := blk_frozen BK256.out 2; have hfz32_3 := blk_frozen BK256.out 3; have hfz32_4 := blk_frozen BK256.out 4; have hfz32_5 := blk_frozen BK256.out 5; have hcz33_0 : w30.cell? ⟨gb257, 0, none⟩ = some (.int .i64 a1_0) := (blk_cell BK257.out 0).trans rfl; have hcz33_1 : w30.cell? ⟨gb257, 1, none⟩ = some (.int .i64 a1_1) := (blk_cell BK257.out 1).trans rfl; have hcz33_2 : w30.cell? ⟨gb257, 2, none⟩ = some (.int .i64 a1_2) := (blk_cell BK257.out 2).trans rfl; have hcz33_3 : w30.cell? ⟨gb257, 3, none⟩ = some (.int .i64 a1_3) := (blk_cell BK257.out 3).trans rfl; have hcz33_4 : w30.cell? ⟨gb257, 4, none⟩ = some (.int .i64 a1_4) := (blk_cell BK257.out 4).trans rfl; have hcz33_5 : w30.cell? ⟨gb257, 5, none⟩ = some (.int .i64 a1_5) := (blk_cell BK257.out 5).trans rfl; have hfz33_0 := blk_frozen BK257.out 0; have hfz33_1 := blk_frozen BK257.out 1; have hfz33_2 := blk_frozen BK257.out 2; have hfz33_3 := blk_frozen BK257.out 3; have hfz33_4 := blk_frozen BK257.out 4; have hfz33_5 := blk_frozen BK257.out 5))
    go_ret
    exact ⟨by first | rfl | (simp [errW_none, errW_some] <;> rfl) | (simp [*, errW_none, errW_some] <;> rfl), by repeat (first | (with_reducible first | exact HB.out | apply below_alloc | apply pw_below_drewN | apply below_drew1 | refine below_set ?_ GE256.out | refine below_set ?_ GE257.out) | exact HB.out)⟩
  ·rw [if_neg c4] at H
   have c4b0 : (a0_1 == a1_1) = false := beq_eq_false_iff_ne.mpr c4
   have c4b1 : (a0_1 != a1_1) = true := bne_iff_ne.mpr c4
   obtain rfl := Option.some.inj H
   simp only [Option.some.injEq, Prod.mk.injEq] at H
   obtain ⟨rfl⟩ := H
   go_enter Try.func184, Try.ntmps184
   go_wp2_with (first | ((with_reducible refine gate_dst (N := 2) rfl ?_); refine box_event ?hg (N := 2) ?hd (cs := #[.int .i64 a0_0, .int .i64 a0_1, .int .i64 a0_2, .int .i64 a0_3, .int .i64 a0_4, .int .i64 a0_5]) (t := 90) ?hr ?_; (case hd => rfl); (case hg => rfl); (case hr => first | (go_simp; done) | (go_simp; rfl)); intro gb256 hg w34 hbox hb; have n0_ := Aside0.mk (below_step z3_0 hb); have n1_ := Aside0.mk (hbox); have n2_ := Aside0.mk ((by rw [hg]; exact (below_size z3_0) : w.heap.size ≤ gb256)); have n3_ := Aside0.mk ((by rw [hg]; exact (below_size z3_0) : w.heap.size ≤ gb256)); clear HB; have HB := n0_; have BK256 := n1_; have GW256 := n2_; have GE256 := n3_; clear n0_ n1_ n2_ n3_; clear hb hbox hg) | ((with_reducible refine gate_dst (N := 3) rfl ?_); refine box_event ?hg (N := 3) ?hd (cs := #[.int .i64 a1_0, .int .i64 a1_1, .int .i64 a1_2, .int .i64 a1_3, .int .i64 a1_4, .int .i64 a1_5]) (t := 90) ?hr ?_; (case hd => rfl); (case hg => rfl); (case hr => first | (go_simp; done) | (go_simp; rfl)); intro gb257 hg w35 hbox hb; have n0_ := Aside0.mk (blk_below (g := gb256) (o := .cells #[.int .i64 a0_0, .int .i64 a0_1, .int .i64 a0_2, .int .i64 a0_3, .int .i64 a0_4, .int .i64 a0_5] 90 (0, 0)) z3_2 hb); have n1_ := Aside0.mk (below_step z3_1 hb); have n2_ := Aside0.mk (hbox); have n3_ := Aside0.mk ((by rw [hg]; exact (below_size z3_1) : w.heap.size ≤ gb257)); have n4_ := Aside0.mk ((by rw [hg]; exact (below_size z3_1) : w.heap.size ≤ gb257)); have n5_ := Aside0.mk ((by rw [hg]; exact Nat.ne_of_lt (blk_lt (g := gb256) (o := .cells #[.int .i64 a0_0, .int .i64 a0_1, .int .i64 a0_2, .int .i64 a0_3, .int .i64 a0_4, .int .i64 a0_5] 90 (0, 0)) z3_2) : gb256 ≠ gb257)); have n6_ := Aside0.mk ((by rw [hg]; exact Nat.ne_of_gt (blk_lt (g := gb256) (o := .cells #[.int .i64 a0_0, .int .i64 a0_1, .int .i64 a0_2, .int .i64 a0_3, .int .i64 a0_4, .int .i64 a0_5] 90 (0, 0)) z3_2) : gb257 ≠ gb256)); clear BK256; clear HB; have BK256 := n0_; have HB := n1_; have BK257 := n2_; have GW257 := n3_; have GE257 := n4_; have NB256_257 := n5_; have NB257_256 := n6_; clear n0_ n1_ n2_ n3_ n4_ n5_ n6_; clear hb hbox hg; have hnb36 := NB256_257.out; have hnc36 := NB257_256.out; have hcz37_0 : w35.cell? ⟨gb256, 0, none⟩ = some (.int .i64 a0_0) := (blk_cell BK256.out 0).trans rfl; have hcz37_1 : w35.cell? ⟨gb256, 1, none⟩ = some (.int .i64 a0_1) := (blk_cell BK256.out 1).trans rfl; have hcz37_2 : w35.cell? ⟨gb256, 2, none⟩ = some (.int .i64 a0_2) := (blk_cell BK256.out 2).trans rfl; have hcz37_3 : w35.cell? ⟨gb256, 3, none⟩ = some (.int .i64 a0_3) := (blk_cell BK256.out 3).trans rfl; have hcz37_4 : w35.cell? ⟨gb256, 4, none⟩ = some (.int .i64 a0_4) := (blk_cell BK256.out 4).trans rfl; have hcz37_5 : w35.cell? ⟨gb256, 5, none⟩ = some (.int .i64 a0_5) := (blk_cell BK256.out 5).trans rfl; have hfz37_0 := blk_frozen BK256.out 0; have hfz37_1 := blk_frozen BK256.out 1; have hfz37_2 := blk_frozen BK256.out 2; have hfz37_3 := blk_frozen BK256.out 3; have hfz37_4 := blk_frozen BK256.out 4; have hfz37_5 := blk_frozen BK256.out 5; have hcz38_0 : w35.cell? ⟨gb257, 0, none⟩ = some (.int .i64 a1_0) := (blk_cell BK257.out 0).trans rfl; have hcz38_1 : w35.cell? ⟨gb257, 1, none⟩ = some (.int .i64 a1_1) := (blk_cell BK257.out 1).trans rfl; have hcz38_2 : w35.cell? ⟨gb257, 2, none⟩ = some (.int .i64 a1_2) := (blk_cell BK257.out 2).trans rfl; have hcz38_3 : w35.cell? ⟨gb257, 3, none⟩ = some (.int .i64 a1_3) := (blk_cell BK257.out 3).trans rfl; have hcz38_4 : w35.cell? ⟨gb257, 4, none⟩ = some (.int .i64 a1_4) := (blk_cell BK257.out 4).trans rfl; have hcz38_5 : w35.cell? ⟨gb257, 5, none⟩ = some (.int .i64 a1_5) := (blk_cell BK257.out 5).trans rfl; have hfz38_0 := blk_frozen BK257.out 0; have hfz38_1 := blk_frozen BK257.out 1; have hfz38_2 := blk_frozen BK257.out 2; have hfz38_3 := blk_frozen BK257.out 3; have hfz38_4 := blk_frozen BK257.out 4; have hfz38_5 := blk_frozen BK257.out 5))
   go_ret
   exact ⟨by first | rfl | (simp [errW_none, errW_some] <;> rfl) | (simp [*, errW_none, errW_some] <;> rfl), by repeat (first | (with_reducible first | exact HB.out | apply below_alloc | apply pw_below_drewN | apply below_drew1 | refine below_set ?_ GE256.out | refine below_set ?_ GE257.out) | exact HB.out)⟩
 ·rw [if_neg c3] at H
  have c3b0 : (a0_0 == a1_0) = false := beq_eq_false_iff_ne.mpr c3
  have c3b1 : (a0_0 != a1_0) = true := bne_iff_ne.mpr c3
  obtain rfl := Option.some.inj H
  simp only [Option.some.injEq, Prod.mk.injEq] at H
  obtain ⟨rfl⟩ := H
  go_enter Try.func184, Try.ntmps184
  go_wp2_with (first | ((with_reducible refine gate_dst (N := 2) rfl ?_); refine box_event ?hg (N := 2) ?hd (cs := #[.int .i64 a0_0, .int .i64 a0_1, .int .i64 a0_2, .int .i64 a0_3, .int .i64 a0_4, .int .i64 a0_5]) (t := 90) ?hr ?_; (case hd => rfl); (case hg => rfl); (case hr => first | (go_simp; done) | (go_simp; rfl)); intro gb256 hg w39 hbox hb; have n0_ := Aside0.mk (below_step z3_0 hb); have n1_ := Aside0.mk (hbox); have n2_ := Aside0.mk ((by rw [hg]; exact (below_size z3_0) : w.heap.size ≤ gb256)); have n3_ := Aside0.mk ((by rw [hg]; exact (below_size z3_0) : w.heap.size ≤ gb256)); clear HB; have HB := n0_; have BK256 := n1_; have GW256 := n2_; have GE256 := n3_; clear n0_ n1_ n2_ n3_; clear hb hbox hg) | ((with_reducible refine gate_dst (N := 3) rfl ?_); refine box_event ?hg (N := 3) ?hd (cs := #[.int .i64 a1_0, .int .i64 a1_1, .int .i64 a1_2, .int .i64 a1_3, .int .i64 a1_4, .int .i64 a1_5]) (t := 90) ?hr ?_; (case hd => rfl); (case hg => rfl); (case hr => first | (go_simp; done) | (go_simp; rfl)); intro gb257 hg w40 hbox hb; have n0_ := Aside0.mk (blk_below (g := gb256) (o := .cells #[.int .i64 a0_0, .int .i64 a0_1, .int .i64 a0_2, .int .i64 a0_3, .int .i64 a0_4, .int .i64 a0_5] 90 (0, 0)) z3_2 hb); have n1_ := Aside0.mk (below_step z3_1 hb); have n2_ := Aside0.mk (hbox); have n3_ := Aside0.mk ((by rw [hg]; exact (below_size z3_1) : w.heap.size ≤ gb257)); have n4_ := Aside0.mk ((by rw [hg]; exact (below_size z3_1) : w.heap.size ≤ gb257)); have n5_ := Aside0.mk ((by rw [hg]; exact Nat.ne_of_lt (blk_lt (g := gb256) (o := .cells #[.int .i64 a0_0, .int .i64 a0_1, .int .i64 a0_2, .int .i64 a0_3, .int .i64 a0_4, .int .i64 a0_5] 90 (0, 0)) z3_2) : gb256 ≠ gb257)); have n6_ := Aside0.mk ((by rw [hg]; exact Nat.ne_of_gt (blk_lt (g := gb256) (o := .cells #[.int .i64 a0_0, .int .i64 a0_1, .int .i64 a0_2, .int .i64 a0_3, .int .i64 a0_4, .int .i64 a0_5] 90 (0, 0)) z3_2) : gb257 ≠ gb256)); clear BK256; clear HB; have BK256 := n0_; have HB := n1_; have BK257 := n2_; have GW257 := n3_; have GE257 := n4_; have NB256_257 := n5_; have NB257_256 := n6_; clear n0_ n1_ n2_ n3_ n4_ n5_ n6_; clear hb hbox hg; have hnb41 := NB256_257.out; have hnc41 := NB257_256.out; have hcz42_0 : w40.cell? ⟨gb256, 0, none⟩ = some (.int .i64 a0_0) := (blk_cell BK256.out 0).trans rfl; have hcz42_1 : w40.cell? ⟨gb256, 1, none⟩ = some (.int .i64 a0_1) := (blk_cell BK256.out 1).trans rfl; have hcz42_2 : w40.cell? ⟨gb256, 2, none⟩ = some (.int .i64 a0_2) := (blk_cell BK256.out 2).trans rfl; have hcz42_3 : w40.cell? ⟨gb256, 3, none⟩ = some (.int .i64 a0_3) := (blk_cell BK256.out 3).trans rfl; have hcz42_4 : w40.cell? ⟨gb256, 4, none⟩ = some (.int .i64 a0_4) := (blk_cell BK256.out 4).trans rfl; have hcz42_5 : w40.cell? ⟨gb256, 5, none⟩ = some (.int .i64 a0_5) := (blk_cell BK256.out 5).trans rfl; have hfz42_0 := blk_frozen BK256.out 0; have hfz42_1 := blk_frozen BK256.out 1; have hfz42_2 := blk_frozen BK256.out 2; have hfz42_3 := blk_frozen BK256.out 3; have hfz42_4 := blk_frozen BK256.out 4; have hfz42_5 := blk_frozen BK256.out 5; have hcz43_0 : w40.cell? ⟨gb257, 0, none⟩ = some (.int .i64 a1_0) := (blk_cell BK257.out 0).trans rfl; have hcz43_1 : w40.cell? ⟨gb257, 1, none⟩ = some (.int .i64 a1_1) := (blk_cell BK257.out 1).trans rfl; have hcz43_2 : w40.cell? ⟨gb257, 2, none⟩ = some (.int .i64 a1_2) := (blk_cell BK257.out 2).trans rfl; have hcz43_3 : w40.cell? ⟨gb257, 3, none⟩ = some (.int .i64 a1_3) := (blk_cell BK257.out 3).trans rfl; have hcz43_4 : w40.cell? ⟨gb257, 4, none⟩ = some (.int .i64 a1_4) := (blk_cell BK257.out 4).trans rfl; have hcz43_5 : w40.cell? ⟨gb257, 5, none⟩ = some (.int .i64 a1_5) := (blk_cell BK257.out 5).trans rfl; have hfz43_0 := blk_frozen BK257.out 0; have hfz43_1 := blk_frozen BK257.out 1; have hfz43_2 := blk_frozen BK257.out 2; have hfz43_3 := blk_frozen BK257.out 3; have hfz43_4 := blk_frozen BK257.out 4; have hfz43_5 := blk_frozen BK257.out 5))
  go_ret
  exact ⟨by first | rfl | (simp [errW_none, errW_some] <;> rfl) | (simp [*, errW_none, errW_some] <;> rfl), by repeat (first | (with_reducible first | exact HB.out | apply below_alloc | apply pw_below_drewN | apply below_drew1 | refine below_set ?_ GE256.out | refine below_set ?_ GE257.out) | exact HB.out)⟩

/-! ### laws_eqPoint: function 146 -/
def laws_eqPoint.f (a0_0 : Int) (a0_1 : Int) (a1_0 : Int) (a1_1 : Int) : Option (Bool) := if a0_0 = a1_0 then (if a0_1 = a1_1 then (some true) else (some false)) else (some false)
set_option maxHeartbeats 8000000 in
set_option maxRecDepth 100000 in
theorem laws_eqPoint.calls (a0_0 : Int) (a0_1 : Int) (a1_0 : Int) (a1_1 : Int) (r : Bool) (w : World) (h : laws_eqPoint.f a0_0 a0_1 a1_0 a1_1 = some r) :
  Calls Try.prog 146 #[.agg #[.int .i64 a0_0, .int .i64 a0_1], .agg #[.int .i64 a1_0, .int .i64 a1_1]] w fun e w' => e = .returned (.bool r) ∧ Below w.heap.size w w' := by
 have hu32 := Try.underlying32
 have HB := Aside0.mk (Below.refl w.heap.size w)
 have H : (if a0_0 = a1_0 then (if a0_1 = a1_1 then (some true) else (some false)) else (some false)) = some r := h
 clear h
 by_cases c3 : a0_0 = a1_0
 ·rw [if_pos c3] at H
  have c3b0 : (a0_0 == a1_0) = true := beq_iff_eq.mpr c3
  have c3b1 : (a0_0 != a1_0) = false := bne_eq_false_iff_eq.mpr c3
  clear c3
  by_cases c4 : a0_1 = a1_1
  ·rw [if_pos c4] at H
   have c4b0 : (a0_1 == a1_1) = true := beq_iff_eq.mpr c4
   have c4b1 : (a0_1 != a1_1) = false := bne_eq_false_iff_eq.mpr c4
   clear c4
   obtain rfl := Option.some.inj H
   simp only [Option.some.injEq, Prod.mk.injEq] at H
   obtain ⟨rfl⟩ := H
   go_enter Try.func146, Try.ntmps146
   go_wp2_with (first | ((with_reducible refine gate_dst (N := 2) rfl ?_); refine box_event ?hg (N := 2) ?hd (cs := #[.int .i64 a0_0, .int .i64 a0_1]) (t := 32) ?hr ?_; (case hd => rfl); (case hg => rfl); (case hr => first | (go_simp; done) | (go_simp; rfl)); intro gb258 hg w5 hbox hb; have n0_ := Aside0.mk (below_step z3_0 hb); have n1_ := Aside0.mk (hbox); have n2_ := Aside0.mk ((by rw [hg]; exact (below_size z3_0) : w.heap.size ≤ gb258)); have n3_ := Aside0.mk ((by rw [hg]; exact (below_size z3_0) : w.heap.size ≤ gb258)); clear HB; have HB := n0_; have BK258 := n1_; have GW258 := n2_; have GE258 := n3_; clear n0_ n1_ n2_ n3_; clear hb hbox hg) | ((with_reducible refine gate_dst (N := 3) rfl ?_); refine box_event ?hg (N := 3) ?hd (cs := #[.int .i64 a1_0, .int .i64 a1_1]) (t := 32) ?hr ?_; (case hd => rfl); (case hg => rfl); (case hr => first | (go_simp; done) | (go_simp; rfl)); intro gb259 hg w6 hbox hb; have n0_ := Aside0.mk (blk_below (g := gb258) (o := .cells #[.int .i64 a0_0, .int .i64 a0_1] 32 (0, 0)) z3_4 hb); have n1_ := Aside0.mk (below_step z3_3 hb); have n2_ := Aside0.mk (hbox); have n3_ := Aside0.mk ((by rw [hg]; exact (below_size z3_3) : w.heap.size ≤ gb259)); have n4_ := Aside0.mk ((by rw [hg]; exact (below_size z3_3) : w.heap.size ≤ gb259)); have n5_ := Aside0.mk ((by rw [hg]; exact Nat.ne_of_lt (blk_lt (g := gb258) (o := .cells #[.int .i64 a0_0, .int .i64 a0_1] 32 (0, 0)) z3_4) : gb258 ≠ gb259)); have n6_ := Aside0.mk ((by rw [hg]; exact Nat.ne_of_gt (blk_lt (g := gb258) (o := .cells #[.int .i64 a0_0, .int .i64 a0_1] 32 (0, 0)) z3_4) : gb259 ≠ gb258)); clear BK258; clear HB; have BK258 := n0_; have HB := n1_; have BK259 := n2_; have GW259 := n3_; have GE259 := n4_; have NB258_259 := n5_; have NB259_258 := n6_; clear n0_ n1_ n2_ n3_ n4_ n5_ n6_; clear hb hbox hg; have hnb7 := NB258_259.out; have hnc7 := NB259_258.out; have hcz8_0 : w6.cell? ⟨gb258, 0, none⟩ = some (.int .i64 a0_0) := (blk_cell BK258.out 0).trans rfl; have hcz8_1 : w6.cell? ⟨gb258, 1, none⟩ = some (.int .i64 a0_1) := (blk_cell BK258.out 1).trans rfl; have hfz8_0 := blk_frozen BK258.out 0; have hfz8_1 := blk_frozen BK258.out 1; have hcz9_0 : w6.cell? ⟨gb259, 0, none⟩ = some (.int .i64 a1_0) := (blk_cell BK259.out 0).trans rfl; have hcz9_1 : w6.cell? ⟨gb259, 1, none⟩ = some (.int .i64 a1_1) := (blk_cell BK259.out 1).trans rfl; have hfz9_0 := blk_frozen BK259.out 0; have hfz9_1 := blk_frozen BK259.out 1))
   go_ret
   exact ⟨by first | rfl | (simp [errW_none, errW_some] <;> rfl) | (simp [*, errW_none, errW_some] <;> rfl), by repeat (first | (with_reducible first | exact HB.out | apply below_alloc | apply pw_below_drewN | apply below_drew1 | refine below_set ?_ GE258.out | refine below_set ?_ GE259.out) | exact HB.out)⟩
  ·rw [if_neg c4] at H
   have c4b0 : (a0_1 == a1_1) = false := beq_eq_false_iff_ne.mpr c4
   have c4b1 : (a0_1 != a1_1) = true := bne_iff_ne.mpr c4
   obtain rfl := Option.some.inj H
   simp only [Option.some.injEq, Prod.mk.injEq] at H
   obtain ⟨rfl⟩ := H
   go_enter Try.func146, Try.ntmps146
   go_wp2_with (first | ((with_reducible refine gate_dst (N := 2) rfl ?_); refine box_event ?hg (N := 2) ?hd (cs := #[.int .i64 a0_0, .int .i64 a0_1]) (t := 32) ?hr ?_; (case hd => rfl); (case hg => rfl); (case hr => first | (go_simp; done) | (go_simp; rfl)); intro gb258 hg w10 hbox hb; have n0_ := Aside0.mk (below_step z3_0 hb); have n1_ := Aside0.mk (hbox); have n2_ := Aside0.mk ((by rw [hg]; exact (below_size z3_0) : w.heap.size ≤ gb258)); have n3_ := Aside0.mk ((by rw [hg]; exact (below_size z3_0) : w.heap.size ≤ gb258)); clear HB; have HB := n0_; have BK258 := n1_; have GW258 := n2_; have GE258 := n3_; clear n0_ n1_ n2_ n3_; clear hb hbox hg) | ((with_reducible refine gate_dst (N := 3) rfl ?_); refine box_event ?hg (N := 3) ?hd (cs := #[.int .i64 a1_0, .int .i64 a1_1]) (t := 32) ?hr ?_; (case hd => rfl); (case hg => rfl); (case hr => first | (go_simp; done) | (go_simp; rfl)); intro gb259 hg w11 hbox hb; have n0_ := Aside0.mk (blk_below (g := gb258) (o := .cells #[.int .i64 a0_0, .int .i64 a0_1] 32 (0, 0)) z3_4 hb); have n1_ := Aside0.mk (below_step z3_3 hb); have n2_ := Aside0.mk (hbox); have n3_ := Aside0.mk ((by rw [hg]; exact (below_size z3_3) : w.heap.size ≤ gb259)); have n4_ := Aside0.mk ((by rw [hg]; exact (below_size z3_3) : w.heap.size ≤ gb259)); have n5_ := Aside0.mk ((by rw [hg]; exact Nat.ne_of_lt (blk_lt (g := gb258) (o := .cells #[.int .i64 a0_0, .int .i64 a0_1] 32 (0, 0)) z3_4) : gb258 ≠ gb259)); have n6_ := Aside0.mk ((by rw [hg]; exact Nat.ne_of_gt (blk_lt (g := gb258) (o := .cells #[.int .i64 a0_0, .int .i64 a0_1] 32 (0, 0)) z3_4) : gb259 ≠ gb258)); clear BK258; clear HB; have BK258 := n0_; have HB := n1_; have BK259 := n2_; have GW259 := n3_; have GE259 := n4_; have NB258_259 := n5_; have NB259_258 := n6_; clear n0_ n1_ n2_ n3_ n4_ n5_ n6_; clear hb hbox hg; have hnb12 := NB258_259.out; have hnc12 := NB259_258.out; have hcz13_0 : w11.cell? ⟨gb258, 0, none⟩ = some (.int .i64 a0_0) := (blk_cell BK258.out 0).trans rfl; have hcz13_1 : w11.cell? ⟨gb258, 1, none⟩ = some (.int .i64 a0_1) := (blk_cell BK258.out 1).trans rfl; have hfz13_0 := blk_frozen BK258.out 0; have hfz13_1 := blk_frozen BK258.out 1; have hcz14_0 : w11.cell? ⟨gb259, 0, none⟩ = some (.int .i64 a1_0) := (blk_cell BK259.out 0).trans rfl; have hcz14_1 : w11.cell? ⟨gb259, 1, none⟩ = some (.int .i64 a1_1) := (blk_cell BK259.out 1).trans rfl; have hfz14_0 := blk_frozen BK259.out 0; have hfz14_1 := blk_frozen BK259.out 1))
   go_ret
   exact ⟨by first | rfl | (simp [errW_none, errW_some] <;> rfl) | (simp [*, errW_none, errW_some] <;> rfl), by repeat (first | (with_reducible first | exact HB.out | apply below_alloc | apply pw_below_drewN | apply below_drew1 | refine below_set ?_ GE258.out | refine below_set ?_ GE259.out) | exact HB.out)⟩
 ·rw [if_neg c3] at H
  have c3b0 : (a0_0 == a1_0) = false := beq_eq_false_iff_ne.mpr c3
  have c3b1 : (a0_0 != a1_0) = true := bne_iff_ne.mpr c3
  obtain rfl := Option.some.inj H
  simp only [Option.some.injEq, Prod.mk.injEq] at H
  obtain ⟨rfl⟩ := H
  go_enter Try.func146, Try.ntmps146
  go_wp2_with (first | ((with_reducible refine gate_dst (N := 2) rfl ?_); refine box_event ?hg (N := 2) ?hd (cs := #[.int .i64 a0_0, .int .i64 a0_1]) (t := 32) ?hr ?_; (case hd => rfl); (case hg => rfl); (case hr => first | (go_simp; done) | (go_simp; rfl)); intro gb258 hg w15 hbox hb; have n0_ := Aside0.mk (below_step z3_0 hb); have n1_ := Aside0.mk (hbox); have n2_ := Aside0.mk ((by rw [hg]; exact (below_size z3_0) : w.heap.size ≤ gb258)); have n3_ := Aside0.mk ((by rw [hg]; exact (below_size z3_0) : w.heap.size ≤ gb258)); clear HB; have HB := n0_; have BK258 := n1_; have GW258 := n2_; have GE258 := n3_; clear n0_ n1_ n2_ n3_; clear hb hbox hg) | ((with_reducible refine gate_dst (N := 3) rfl ?_); refine box_event ?hg (N := 3) ?hd (cs := #[.int .i64 a1_0, .int .i64 a1_1]) (t := 32) ?hr ?_; (case hd => rfl); (case hg => rfl); (case hr => first | (go_simp; done) | (go_simp; rfl)); intro gb259 hg w16 hbox hb; have n0_ := Aside0.mk (blk_below (g := gb258) (o := .cells #[.int .i64 a0_0, .int .i64 a0_1] 32 (0, 0)) z3_4 hb); have n1_ := Aside0.mk (below_step z3_3 hb); have n2_ := Aside0.mk (hbox); have n3_ := Aside0.mk ((by rw [hg]; exact (below_size z3_3) : w.heap.size ≤ gb259)); have n4_ := Aside0.mk ((by rw [hg]; exact (below_size z3_3) : w.heap.size ≤ gb259)); have n5_ := Aside0.mk ((by rw [hg]; exact Nat.ne_of_lt (blk_lt (g := gb258) (o := .cells #[.int .i64 a0_0, .int .i64 a0_1] 32 (0, 0)) z3_4) : gb258 ≠ gb259)); have n6_ := Aside0.mk ((by rw [hg]; exact Nat.ne_of_gt (blk_lt (g := gb258) (o := .cells #[.int .i64 a0_0, .int .i64 a0_1] 32 (0, 0)) z3_4) : gb259 ≠ gb258)); clear BK258; clear HB; have BK258 := n0_; have HB := n1_; have BK259 := n2_; have GW259 := n3_; have GE259 := n4_; have NB258_259 := n5_; have NB259_258 := n6_; clear n0_ n1_ n2_ n3_ n4_ n5_ n6_; clear hb hbox hg; have hnb17 := NB258_259.out; have hnc17 := NB259_258.out; have hcz18_0 : w16.cell? ⟨gb258, 0, none⟩ = some (.int .i64 a0_0) := (blk_cell BK258.out 0).trans rfl; have hcz18_1 : w16.cell? ⟨gb258, 1, none⟩ = some (.int .i64 a0_1) := (blk_cell BK258.out 1).trans rfl; have hfz18_0 := blk_frozen BK258.out 0; have hfz18_1 := blk_frozen BK258.out 1; have hcz19_0 : w16.cell? ⟨gb259, 0, none⟩ = some (.int .i64 a1_0) := (blk_cell BK259.out 0).trans rfl; have hcz19_1 : w16.cell? ⟨gb259, 1, none⟩ = some (.int .i64 a1_1) := (blk_cell BK259.out 1).trans rfl; have hfz19_0 := blk_frozen BK259.out 0; have hfz19_1 := blk_frozen BK259.out 1))
  go_ret
  exact ⟨by first | rfl | (simp [errW_none, errW_some] <;> rfl) | (simp [*, errW_none, errW_some] <;> rfl), by repeat (first | (with_reducible first | exact HB.out | apply below_alloc | apply pw_below_drewN | apply below_drew1 | refine below_set ?_ GE258.out | refine below_set ?_ GE259.out) | exact HB.out)⟩

end Go.Proofs.Ytgdlbilpfmjeaaa.MFnExactNodeAt
