/- Functions of the program as Lean functions, and the proof that a call comes to just these: machine text of this session's own program (myprint.py). -/
import Derived.Test.YtjfienkbcacijaaMFnExactKidsOfx0
namespace Go.Proofs.Ytjfienkbcacijaa.MFnExactKidsOf
open Go.RowKit Go.Proofs.YtjfienkbcacijaaW.PrintWords Go.Proofs.YtjfienkbcacijaaW.PrintLast Go.Proofs.YtjfienkbcacijaaW.PrintMore
attribute [local go_sem] max2_int min2_int max_two min_two max_three min_three max_four min_four   -- for this text's walks alone
set_option linter.unusedVariables false
set_option linter.unusedSimpArgs false

theorem z2_0 {P : Prop} (h : P := by repeat (first | (with_reducible first | exact HB.out | apply below_alloc | apply pw_below_drewN | apply below_drew1) | exact HB.out)) : P := h
theorem z2_1 {P : Prop} (h : P := by first | (rw [hy_]; with_reducible exact H) | (have H2_ := (Option.bind_some _ _).symm.trans H; rw [hy_]; with_reducible exact H2_) | (have H2_ := (Option.bind_some _ _).symm.trans H; with_reducible exact H2_) | with_reducible exact H | (rw [hy_]; exact H) | exact H) : P := h
theorem z2_2 {P : Prop} (h : P := by repeat (first | (with_reducible first | exact HB.out | apply below_alloc | apply pw_below_drewN | apply below_drew1 | refine below_set ?_ GE115.out) | exact HB.out)) : P := h
theorem z2_3 {P : Prop} (h : P := by repeat (first | (with_reducible first | exact HB.out | apply below_alloc | apply pw_below_drewN | apply below_drew1 | refine below_set ?_ GE142.out | refine below_set ?_ GE143.out | refine below_set ?_ GE144.out) | exact HB.out)) : P := h
theorem z2_4 {P : Prop} (h : P := by apply blk_fin; (focus ((with_reducible repeat (first | apply blk_putQ | refine blk_drewN ?_ _ | refine blk_drew ?_ | refine blk_alloc ?_ _)); exact BK156.out)); first | (simp only [List.setIfInBounds_toArray, List.set_cons_zero, List.set_cons_succ]; done) | rfl) : P := h
theorem z2_5 {P : Prop} (h : P := by repeat (first | (with_reducible first | exact HB.out | apply below_alloc | apply pw_below_drewN | apply below_drew1 | refine below_set ?_ GE154.out | refine below_set ?_ GE155.out | refine below_set ?_ GE156.out) | exact HB.out)) : P := h
theorem z2_6 {P : Prop} (h : P := by (try simp only [List.map_toArray, List.map_cons, List.map_nil]); first | done | rfl | (simp only [List.length_drop, List.length_take]; rfl)) : P := h
theorem z2_7 {P : Prop} (h : P := by first | rfl | (simp [errW_none, errW_some] <;> rfl) | (simp [*, errW_none, errW_some] <;> rfl)) : P := h
theorem z2_8 {P : Prop} (h : P := by (with_reducible repeat (first | refine blk_drewN ?_ _ | refine blk_drew ?_ | refine blk_alloc ?_ _)); refine blk_far ?_ NB154_156.out _; (with_reducible repeat (first | refine blk_drewN ?_ _ | refine blk_drew ?_ | refine blk_alloc ?_ _)); refine blk_far ?_ NB154_156.out _; (with_reducible repeat (first | refine blk_drewN ?_ _ | refine blk_drew ?_ | refine blk_alloc ?_ _)); refine blk_far ?_ NB154_156.out _; (with_reducible repeat (first | refine blk_drewN ?_ _ | refine blk_drew ?_ | refine blk_alloc ?_ _)); refine blk_far ?_ NB154_156.out _; (with_reducible repeat (first | refine blk_drewN ?_ _ | refine blk_drew ?_ | refine blk_alloc ?_ _)); exact BK154.out) : P := h
theorem z2_9 {P : Prop} (h : P := by (with_reducible repeat (first | refine blk_drewN ?_ _ | refine blk_drew ?_ | refine blk_alloc ?_ _)); refine blk_far ?_ NB155_156.out _; (with_reducible repeat (first | refine blk_drewN ?_ _ | refine blk_drew ?_ | refine blk_alloc ?_ _)); refine blk_far ?_ NB155_156.out _; (with_reducible repeat (first | refine blk_drewN ?_ _ | refine blk_drew ?_ | refine blk_alloc ?_ _)); refine blk_far ?_ NB155_156.out _; (with_reducible repeat (first | refine blk_drewN ?_ _ | refine blk_drew ?_ | refine blk_alloc ?_ _)); refine blk_far ?_ NB155_156.out _; (with_reducible repeat (first | refine blk_drewN ?_ _ | refine blk_drew ?_ | refine blk_alloc ?_ _)); exact BK155.out) : P := h
theorem z2_10 {P : Prop} (h : P := by repeat (first | (with_reducible first | exact HB.out | apply below_alloc | apply pw_below_drewN | apply below_drew1 | refine below_set ?_ GE129.out | refine below_set ?_ GE130.out) | exact HB.out)) : P := h
theorem z2_11 {P : Prop} (h : P := by repeat (first | (with_reducible first | exact HB.out | apply below_alloc | apply pw_below_drewN | apply below_drew1 | refine below_set ?_ GE132.out | refine below_set ?_ GE133.out) | exact HB.out)) : P := h
theorem z2_12 {P : Prop} (h : P := by repeat (first | (with_reducible first | exact HB.out | apply below_alloc | apply pw_below_drewN | apply below_drew1 | refine below_set ?_ GE142.out | refine below_set ?_ GE143.out) | exact HB.out)) : P := h
theorem z2_13 {P : Prop} (h : P := by repeat (first | (with_reducible first | exact HB.out | apply below_alloc | apply pw_below_drewN | apply below_drew1 | refine below_set ?_ GE151.out | refine below_set ?_ GE152.out) | exact HB.out)) : P := h
theorem z2_14 {P : Prop} (h : P := by repeat (first | (with_reducible first | exact HB.out | apply below_alloc | apply pw_below_drewN | apply below_drew1 | refine below_set ?_ GE154.out | refine below_set ?_ GE155.out) | exact HB.out)) : P := h
theorem z2_15 {P : Prop} (h : P := by (with_reducible repeat (first | refine blk_drewN ?_ _ | refine blk_drew ?_ | refine blk_alloc ?_ _)); refine blk_far ?_ NB155_156.out _; (with_reducible repeat (first | refine blk_drewN ?_ _ | refine blk_drew ?_ | refine blk_alloc ?_ _)); refine blk_far ?_ NB155_156.out _; (with_reducible repeat (first | refine blk_drewN ?_ _ | refine blk_drew ?_ | refine blk_alloc ?_ _)); exact BK155.out) : P := h
theorem z2_16 {P : Prop} (h : P := by repeat (first | (with_reducible first | exact HB.out | apply below_alloc | apply pw_below_drewN | apply below_drew1 | refine below_set ?_ GE129.out) | exact HB.out)) : P := h
theorem z2_17 {P : Prop} (h : P := by repeat (first | (with_reducible first | exact HB.out | apply below_alloc | apply pw_below_drewN | apply below_drew1 | refine below_set ?_ GE132.out) | exact HB.out)) : P := h
theorem z2_18 {P : Prop} (h : P := by repeat (first | (with_reducible first | exact HB.out | apply below_alloc | apply pw_below_drewN | apply below_drew1 | refine below_set ?_ GE142.out) | exact HB.out)) : P := h
theorem z2_19 {P : Prop} (h : P := by repeat (first | (with_reducible first | exact HB.out | apply below_alloc | apply pw_below_drewN | apply below_drew1 | refine below_set ?_ GE151.out) | exact HB.out)) : P := h
theorem z2_20 {P : Prop} (h : P := by repeat (first | (with_reducible first | exact HB.out | apply below_alloc | apply pw_below_drewN | apply below_drew1 | refine below_set ?_ GE154.out) | exact HB.out)) : P := h
theorem z2_21 {P : Prop} (h : P := by (with_reducible repeat (first | refine blk_drewN ?_ _ | refine blk_drew ?_ | refine blk_alloc ?_ _)); with_reducible exact BK155.out) : P := h
theorem z2_22 {P : Prop} (h : P := by (with_reducible repeat (first | refine blk_drewN ?_ _ | refine blk_drew ?_ | refine blk_alloc ?_ _)); with_reducible exact BK156.out) : P := h
/-! ### spec_KidsOf: function 30 -/
def spec_KidsOf.l0 : Nat → Int → List Int → Int → List (S69) → Option (List Int)
 | 0, _, _, _, _ => none
 | k + 1, x1, x5, x6, x116000 => if x6 < (x116000.length : Int) then (if 0 ≤ x6 then (if ((rd_T69 x116000 x6).f1) = x1 then (if x5.length < 17592186044416 then (spec_KidsOf.l0 k x1 (x5 ++ [(rd_T69 x116000 x6).f0]) (wrap64 (x6 + 1)) x116000) else (none)) else (spec_KidsOf.l0 k x1 x5 (wrap64 (x6 + 1)) x116000)) else (none)) else (some x5)
def spec_KidsOf.f (k : Nat) (l0_0 : List (S69)) (a1 : Int) : Option (List Int) := spec_KidsOf.l0 k a1 (([] : List Int)) 0 l0_0
theorem spec_KidsOf.mono_l : ∀ k, (∀ y0 y1 y2 y3, LeO (spec_KidsOf.l0 k y0 y1 y2 y3) (spec_KidsOf.l0 (k + 1) y0 y1 y2 y3))
 | 0 => fun _ _ _ _ r h => by simp [spec_KidsOf.l0] at h
 | k + 1 => by
  have ih0 := spec_KidsOf.mono_l k
  ·intro y0 y1 y2 y3
   unfold spec_KidsOf.l0
   repeat' first
   | (with_reducible exact ih0 _ _ _ _)
   | (with_reducible exact LeO.refl _)
   | (with_reducible exact LeO.none _)
   | (with_reducible refine LeO.ite ?_ ?_)
   | (with_reducible refine LeO.bind ?_ (fun _ => ?_))
theorem spec_KidsOf.mono : ∀ a0 a1 k, LeO (spec_KidsOf.f k a0 a1) (spec_KidsOf.f (k + 1) a0 a1) := by
 intro a0 a1 k
 have ih0 := spec_KidsOf.mono_l k
 unfold spec_KidsOf.f
 repeat' first
   | (with_reducible exact ih0 _ _ _ _)
   | (with_reducible exact LeO.refl _)
   | (with_reducible exact LeO.none _)
   | (with_reducible refine LeO.ite ?_ ?_)
   | (with_reducible refine LeO.bind ?_ (fun _ => ?_))
set_option maxHeartbeats 8000000 in
set_option maxRecDepth 100000 in
theorem spec_KidsOf.calls (k : Nat) (A0_0 : Option Addr) (c0_0 : Nat) (l0_0 : List (S69)) (a1 : Int) (r : List Int) (w : World) (hr0_0 : Kd.C k69 w A0_0 l0_0.length l0_0) (hc0_0 : l0_0.length ≤ c0_0) (h : spec_KidsOf.f k l0_0 a1 = some r) :
  Calls Try.prog 30 #[.agg #[.slice A0_0 l0_0.length c0_0], .int .i64 a1] w fun e w' => ∃ v0_ : Value, e = .returned (v0_) ∧ Kd.R (Kd.int .i64) 3 w' w.heap.size (fun _ => True) v0_ r ∧ Below w.heap.size w w' := by
 have hu53 := Try.underlying53
 have HR0_0 := mk0 hr0_0
 have HC0_0 := mk0 hc0_0
 clear hr0_0 hc0_0
 have HB := mk0 (Below.refl w.heap.size w)
 have H : (spec_KidsOf.l0 k a1 (([] : List Int)) 0 l0_0) = some r := h
 clear h
 obtain ⟨y116, hy_⟩ : ∃ y_ : List Int, y_ = (([] : List Int)) := ⟨_, rfl⟩
 replace H : (spec_KidsOf.l0 k a1 y116 0 l0_0) = some r := z2_1
 have Ny116 := mk0 hy_
 clear hy_
 have H' := mk0 H
 clear H
 go_enter Try.func30, Try.ntmps30
 go_wp2_with (first | ((with_reducible refine gate_dst (N := 2) rfl ?_); refine boxz (cs := #[.slice A0_0 l0_0.length c0_0]) (t := 53) rfl ?_; intro gb115 hg w3 hbox hb; have n0_ := mk0 (below_step z2_0 hb); have n1_ := mk0 (hbox); have GW115 := mk0 (ge_go (a := w.heap.size) hg (below_size z2_0)); have GE115 := GW115; clear HB; have HB := n0_; have BK115 := n1_; clear n0_ n1_ ; clear hb hbox hg) | ((with_reducible refine gate_dst (N := 7) rfl ?_); refine Kd.R_lit (Kd.int .i64) _ 3 ?hg (N := 7) ?hd (xs := ([] : List Int)) (inner := []) (ok := fun _ => True) (okp := fun _ => True) ?hr ?hp (fun _ hk => hk) trivial (Below.refl _ _) (Nat.le_refl _) (by simp) ?_; (case hd => rfl); (case hg => rfl); (case hr => first | (go_simp; done) | (go_simp; rfl)); (case hp => exact (Reps.none _ _)); intro v117 w4 ho5 hb hg_ hnew_; clear hg_ hnew_; (first | rw [← Ny116.out] at ho5 | (simp only [Int.reduceToNat] at ho5; rw [← Ny116.out] at ho5)); have n0_ := mk0 (Kd.R_lower ho5 (below_size z2_2)); have n1_ := mk0 (blk_belowB BK115 (pkb BK115) hb); have n2_ := mk0 (below_step z2_2 hb); clear BK115 HB; have HO118 := n0_; have BK115 := n1_; have HB := n2_; clear n0_ n1_ n2_ hb ho5))
 go_loopg [5, 6] k (fun kq v5 v6 w' => ∃ (x5_1 : List Int) (x6_1 : Int), v6 = .int .i64 x6_1 ∧ Aside0 (spec_KidsOf.l0 kq a1 x5_1 x6_1 l0_0 = some r) ∧ Aside0 (kq ≤ k) ∧ Aside0 (Kd.R (Kd.int .i64) 3 w' w.heap.size (fun _ => True) v5 x5_1) ∧ Aside0 (w'.heap[gb115]? = some (.cells #[(.slice A0_0 l0_0.length c0_0)] 53 (0, 0))) ∧ Aside0 (Below w.heap.size w w'))
 case atStart => exact ⟨(y116), (0), rs0, H', ⟨Nat.le_refl _⟩, ⟨pkR HO118⟩, ⟨pkb BK115⟩, ⟨z2_2⟩⟩
 case round =>
  clear H'
  try clear p2
  try clear c3
  obtain ⟨x5_1, x6_1, rfl, HA, HK1, HO_5, BK115, HB⟩ := hrel
  cases gk with
  | zero => exact absurd HA.out (by simp [spec_KidsOf.l0])
  | succ k1 =>
   have H := HA.out; clear HA
   simp only [spec_KidsOf.l0] at H
   by_cases c6 : x6_1 < (l0_0.length : Int)
   rotate_left
   ·rw [if_neg c6] at H
    have c6b0 := decide_eq_false c6
    clear c6
    obtain rfl := Option.some.inj H
    simp only [Option.some.injEq, Prod.mk.injEq] at H
    obtain ⟨rfl⟩ := H
    obtain ⟨_, _⟩ := be_1 BK115.out
    go_wp2
    go_ret
    exact ⟨_, z2_7, (pkR HO_5), z2_2⟩
   rw [if_pos c6] at H
   have c6b0 := decide_eq_true c6
   clear c6
   by_cases c7 : 0 ≤ x6_1
   rotate_left
   ·rw [if_neg c7] at H
    exact absurd H (by simp)
   rw [if_pos c7] at H
   have c7b0 := decide_eq_true c7
   clear c7
   by_cases c8 : ((rd_T69 l0_0 x6_1).f1) = a1
   rotate_left
   ·rw [if_neg c8] at H
    have c8b0 : (((rd_T69 l0_0 x6_1).f1) == a1) = false := beq_eq_false_iff_ne.mpr c8
    have c8b1 : (((rd_T69 l0_0 x6_1).f1) != a1) = true := bne_iff_ne.mpr c8
    have H' := mk0 H
    clear H
    obtain ⟨_, _⟩ := be_1 BK115.out
    have p119 : 0 ≤ (x6_1 : Int) := of_decide_eq_true (by first | (with_reducible assumption) | assumption)
    have q119 : x6_1 < (l0_0.length : Int) := of_decide_eq_true (by first | (with_reducible assumption) | assumption)
    obtain ⟨ad119, A119_9, c119_9, A119_10, c119_10, A119_13, c119_13, A119_29, c119_29, A119_30, c119_30, e119, hx119_0, hx119_1, hx119_2, hx119_3, hx119_4, hx119_5, hx119_6, hx119_7, hx119_8, hx119_9, hx119_10, hx119_11, hx119_12, hx119_13, hx119_14, hx119_15, hx119_16, hx119_17, hx119_18, hx119_19, hx119_20, hx119_21, hx119_22, hx119_23, hx119_24, hx119_25, hx119_26, hx119_27, hx119_28, hx119_29, hx119_30, hl119_9, hi119_9, hl119_10, hi119_10, hl119_13, hi119_13, hl119_29, hi119_29, hl119_30, hi119_30⟩ := at_T69 HR0_0.out x6_1 p119 q119
    have hM119 := lie_zero hx119_0 (lie_n hx119_1 (lie_n hx119_2 (lie_n hx119_3 (lie_n hx119_4 (lie_n hx119_5 (lie_n hx119_6 (lie_n hx119_7 (lie_n hx119_8 (lie_n hx119_9 (lie_n hx119_10 (lie_n hx119_11 (lie_n hx119_12 (lie_n hx119_13 (lie_n hx119_14 (lie_n hx119_15 (lie_n hx119_16 (lie_n hx119_17 (lie_n hx119_18 (lie_n hx119_19 (lie_n hx119_20 (lie_n hx119_21 (lie_n hx119_22 (lie_n hx119_23 (lie_n hx119_24 (lie_n hx119_25 (lie_n hx119_26 (lie_n hx119_27 (lie_n hx119_28 (lie_n hx119_29 (lie_n hx119_30 (lie_nil _ _ _)))))))))))))))))))))))))))))))
    cases e119
    replace hx119_0 := cell_go HB hx119_0
    replace hx119_1 := cell_go HB hx119_1
    replace hx119_2 := cell_go HB hx119_2
    replace hx119_3 := cell_go HB hx119_3
    replace hx119_4 := cell_go HB hx119_4
    replace hx119_5 := cell_go HB hx119_5
    replace hx119_6 := cell_go HB hx119_6
    replace hx119_7 := cell_go HB hx119_7
    replace hx119_8 := cell_go HB hx119_8
    replace hx119_9 := cell_go HB hx119_9
    replace hx119_10 := cell_go HB hx119_10
    replace hx119_11 := cell_go HB hx119_11
    replace hx119_12 := cell_go HB hx119_12
    replace hx119_13 := cell_go HB hx119_13
    replace hx119_14 := cell_go HB hx119_14
    replace hx119_15 := cell_go HB hx119_15
    replace hx119_16 := cell_go HB hx119_16
    replace hx119_17 := cell_go HB hx119_17
    replace hx119_18 := cell_go HB hx119_18
    replace hx119_19 := cell_go HB hx119_19
    replace hx119_20 := cell_go HB hx119_20
    replace hx119_21 := cell_go HB hx119_21
    replace hx119_22 := cell_go HB hx119_22
    replace hx119_23 := cell_go HB hx119_23
    replace hx119_24 := cell_go HB hx119_24
    replace hx119_25 := cell_go HB hx119_25
    replace hx119_26 := cell_go HB hx119_26
    replace hx119_27 := cell_go HB hx119_27
    replace hx119_28 := cell_go HB hx119_28
    replace hx119_29 := cell_go HB hx119_29
    replace hx119_30 := cell_go HB hx119_30
    have HR119_9 := mk0 hi119_9
    have HC119_9 := mk0 hl119_9
    clear hi119_9 hl119_9
    have HR119_10 := mk0 hi119_10
    have HC119_10 := mk0 hl119_10
    clear hi119_10 hl119_10
    have HR119_13 := mk0 hi119_13
    have HC119_13 := mk0 hl119_13
    clear hi119_13 hl119_13
    have HR119_29 := mk0 hi119_29
    have HC119_29 := mk0 hl119_29
    clear hi119_29 hl119_29
    have HR119_30 := mk0 hi119_30
    have HC119_30 := mk0 hl119_30
    clear hi119_30 hl119_30
    replace p119 := eq_true p119
    replace q119 := eq_true q119
    go_wp2_with (first | ((with_reducible refine gate_load (t := 69) rfl ?_); refine load_lie (t := 69) rfl rfl hM119 HB (by with_reducible rfl) rfl Try.underlying69 rfl (show (Try.prog.info? 69).map (·.size) = some 31 by kernel_rfl) rfl ?_) | ((with_reducible refine gate_load (t := 69) rfl ?_); refine load_lie0 (t := 69) rfl rfl hM119 (by with_reducible rfl) rfl Try.underlying69 rfl (show (Try.prog.info? 69).map (·.size) = some 31 by kernel_rfl) rfl ?_))
    go_roundg k1
    case measure => have := HK1.out; omega
    case rel => exact ⟨(x5_1), (wrap64 (x6_1 + 1)), rs0, H', ⟨(by have := HK1.out; omega)⟩, ⟨pkR HO_5⟩, ⟨pkb BK115⟩, ⟨z2_2⟩⟩
   rw [if_pos c8] at H
   have c8b0 : (((rd_T69 l0_0 x6_1).f1) == a1) = true := beq_iff_eq.mpr c8
   have c8b1 : (((rd_T69 l0_0 x6_1).f1) != a1) = false := bne_eq_false_iff_eq.mpr c8
   clear c8
   by_cases c9 : x5_1.length < 17592186044416
   rotate_left
   ·rw [if_neg c9] at H
    exact absurd H (by simp)
   rw [if_pos c9] at H
   have LMc9 := mk0 c9
   clear c9
   obtain ⟨y121, hy_⟩ : ∃ y_ : List Int, y_ = (x5_1 ++ [(rd_T69 l0_0 x6_1).f0]) := ⟨_, rfl⟩
   replace H : (spec_KidsOf.l0 k1 a1 y121 (wrap64 (x6_1 + 1)) l0_0) = some r := z2_1
   have Ny121 := mk0 hy_
   clear hy_
   have H' := mk0 H
   clear H
   obtain ⟨_, _⟩ := be_1 BK115.out
   have p119 : 0 ≤ (x6_1 : Int) := of_decide_eq_true (by first | (with_reducible assumption) | assumption)
   have q119 : x6_1 < (l0_0.length : Int) := of_decide_eq_true (by first | (with_reducible assumption) | assumption)
   obtain ⟨ad119, A119_9, c119_9, A119_10, c119_10, A119_13, c119_13, A119_29, c119_29, A119_30, c119_30, e119, hx119_0, hx119_1, hx119_2, hx119_3, hx119_4, hx119_5, hx119_6, hx119_7, hx119_8, hx119_9, hx119_10, hx119_11, hx119_12, hx119_13, hx119_14, hx119_15, hx119_16, hx119_17, hx119_18, hx119_19, hx119_20, hx119_21, hx119_22, hx119_23, hx119_24, hx119_25, hx119_26, hx119_27, hx119_28, hx119_29, hx119_30, hl119_9, hi119_9, hl119_10, hi119_10, hl119_13, hi119_13, hl119_29, hi119_29, hl119_30, hi119_30⟩ := at_T69 HR0_0.out x6_1 p119 q119
   have hM119 := lie_zero hx119_0 (lie_n hx119_1 (lie_n hx119_2 (lie_n hx119_3 (lie_n hx119_4 (lie_n hx119_5 (lie_n hx119_6 (lie_n hx119_7 (lie_n hx119_8 (lie_n hx119_9 (lie_n hx119_10 (lie_n hx119_11 (lie_n hx119_12 (lie_n hx119_13 (lie_n hx119_14 (lie_n hx119_15 (lie_n hx119_16 (lie_n hx119_17 (lie_n hx119_18 (lie_n hx119_19 (lie_n hx119_20 (lie_n hx119_21 (lie_n hx119_22 (lie_n hx119_23 (lie_n hx119_24 (lie_n hx119_25 (lie_n hx119_26 (lie_n hx119_27 (lie_n hx119_28 (lie_n hx119_29 (lie_n hx119_30 (lie_nil _ _ _)))))))))))))))))))))))))))))))
   cases e119
   replace hx119_0 := cell_go HB hx119_0
   replace hx119_1 := cell_go HB hx119_1
   replace hx119_2 := cell_go HB hx119_2
   replace hx119_3 := cell_go HB hx119_3
   replace hx119_4 := cell_go HB hx119_4
   replace hx119_5 := cell_go HB hx119_5
   replace hx119_6 := cell_go HB hx119_6
   replace hx119_7 := cell_go HB hx119_7
   replace hx119_8 := cell_go HB hx119_8
   replace hx119_9 := cell_go HB hx119_9
   replace hx119_10 := cell_go HB hx119_10
   replace hx119_11 := cell_go HB hx119_11
   replace hx119_12 := cell_go HB hx119_12
   replace hx119_13 := cell_go HB hx119_13
   replace hx119_14 := cell_go HB hx119_14
   replace hx119_15 := cell_go HB hx119_15
   replace hx119_16 := cell_go HB hx119_16
   replace hx119_17 := cell_go HB hx119_17
   replace hx119_18 := cell_go HB hx119_18
   replace hx119_19 := cell_go HB hx119_19
   replace hx119_20 := cell_go HB hx119_20
   replace hx119_21 := cell_go HB hx119_21
   replace hx119_22 := cell_go HB hx119_22
   replace hx119_23 := cell_go HB hx119_23
   replace hx119_24 := cell_go HB hx119_24
   replace hx119_25 := cell_go HB hx119_25
   replace hx119_26 := cell_go HB hx119_26
   replace hx119_27 := cell_go HB hx119_27
   replace hx119_28 := cell_go HB hx119_28
   replace hx119_29 := cell_go HB hx119_29
   replace hx119_30 := cell_go HB hx119_30
   have HR119_9 := mk0 hi119_9
   have HC119_9 := mk0 hl119_9
   clear hi119_9 hl119_9
   have HR119_10 := mk0 hi119_10
   have HC119_10 := mk0 hl119_10
   clear hi119_10 hl119_10
   have HR119_13 := mk0 hi119_13
   have HC119_13 := mk0 hl119_13
   clear hi119_13 hl119_13
   have HR119_29 := mk0 hi119_29
   have HC119_29 := mk0 hl119_29
   clear hi119_29 hl119_29
   have HR119_30 := mk0 hi119_30
   have HC119_30 := mk0 hl119_30
   clear hi119_30 hl119_30
   replace p119 := eq_true p119
   replace q119 := eq_true q119
   have p120 : 0 ≤ (x6_1 : Int) := of_decide_eq_true (by first | (with_reducible assumption) | assumption)
   have q120 : x6_1 < (l0_0.length : Int) := of_decide_eq_true (by first | (with_reducible assumption) | assumption)
   obtain ⟨ad120, A120_9, c120_9, A120_10, c120_10, A120_13, c120_13, A120_29, c120_29, A120_30, c120_30, e120, hx120_0, hx120_1, hx120_2, hx120_3, hx120_4, hx120_5, hx120_6, hx120_7, hx120_8, hx120_9, hx120_10, hx120_11, hx120_12, hx120_13, hx120_14, hx120_15, hx120_16, hx120_17, hx120_18, hx120_19, hx120_20, hx120_21, hx120_22, hx120_23, hx120_24, hx120_25, hx120_26, hx120_27, hx120_28, hx120_29, hx120_30, hl120_9, hi120_9, hl120_10, hi120_10, hl120_13, hi120_13, hl120_29, hi120_29, hl120_30, hi120_30⟩ := at_T69 HR0_0.out x6_1 p120 q120
   have hM120 := lie_zero hx120_0 (lie_n hx120_1 (lie_n hx120_2 (lie_n hx120_3 (lie_n hx120_4 (lie_n hx120_5 (lie_n hx120_6 (lie_n hx120_7 (lie_n hx120_8 (lie_n hx120_9 (lie_n hx120_10 (lie_n hx120_11 (lie_n hx120_12 (lie_n hx120_13 (lie_n hx120_14 (lie_n hx120_15 (lie_n hx120_16 (lie_n hx120_17 (lie_n hx120_18 (lie_n hx120_19 (lie_n hx120_20 (lie_n hx120_21 (lie_n hx120_22 (lie_n hx120_23 (lie_n hx120_24 (lie_n hx120_25 (lie_n hx120_26 (lie_n hx120_27 (lie_n hx120_28 (lie_n hx120_29 (lie_n hx120_30 (lie_nil _ _ _)))))))))))))))))))))))))))))))
   obtain rfl : ad119 = ad120 := (by injection e120)
   replace hx120_0 := cell_go HB hx120_0
   replace hx120_1 := cell_go HB hx120_1
   replace hx120_2 := cell_go HB hx120_2
   replace hx120_3 := cell_go HB hx120_3
   replace hx120_4 := cell_go HB hx120_4
   replace hx120_5 := cell_go HB hx120_5
   replace hx120_6 := cell_go HB hx120_6
   replace hx120_7 := cell_go HB hx120_7
   replace hx120_8 := cell_go HB hx120_8
   replace hx120_9 := cell_go HB hx120_9
   replace hx120_10 := cell_go HB hx120_10
   replace hx120_11 := cell_go HB hx120_11
   replace hx120_12 := cell_go HB hx120_12
   replace hx120_13 := cell_go HB hx120_13
   replace hx120_14 := cell_go HB hx120_14
   replace hx120_15 := cell_go HB hx120_15
   replace hx120_16 := cell_go HB hx120_16
   replace hx120_17 := cell_go HB hx120_17
   replace hx120_18 := cell_go HB hx120_18
   replace hx120_19 := cell_go HB hx120_19
   replace hx120_20 := cell_go HB hx120_20
   replace hx120_21 := cell_go HB hx120_21
   replace hx120_22 := cell_go HB hx120_22
   replace hx120_23 := cell_go HB hx120_23
   replace hx120_24 := cell_go HB hx120_24
   replace hx120_25 := cell_go HB hx120_25
   replace hx120_26 := cell_go HB hx120_26
   replace hx120_27 := cell_go HB hx120_27
   replace hx120_28 := cell_go HB hx120_28
   replace hx120_29 := cell_go HB hx120_29
   replace hx120_30 := cell_go HB hx120_30
   have HR120_9 := mk0 hi120_9
   have HC120_9 := mk0 hl120_9
   clear hi120_9 hl120_9
   have HR120_10 := mk0 hi120_10
   have HC120_10 := mk0 hl120_10
   clear hi120_10 hl120_10
   have HR120_13 := mk0 hi120_13
   have HC120_13 := mk0 hl120_13
   clear hi120_13 hl120_13
   have HR120_29 := mk0 hi120_29
   have HC120_29 := mk0 hl120_29
   clear hi120_29 hl120_29
   have HR120_30 := mk0 hi120_30
   have HC120_30 := mk0 hl120_30
   clear hi120_30 hl120_30
   replace p120 := eq_true p120
   replace q120 := eq_true q120
   have ea_ := Option.some.inj (hx119_9.symm.trans hx120_9)
   injection ea_ with ea_ en_ ec_
   subst ea_; subst ec_; clear en_
   have ea_ := Option.some.inj (hx119_10.symm.trans hx120_10)
   injection ea_ with ea_ en_ ec_
   subst ea_; subst ec_; clear en_
   have ea_ := Option.some.inj (hx119_13.symm.trans hx120_13)
   injection ea_ with ea_ en_ ec_
   subst ea_; subst ec_; clear en_
   have ea_ := Option.some.inj (hx119_29.symm.trans hx120_29)
   injection ea_ with ea_ en_ ec_
   subst ea_; subst ec_; clear en_
   have ea_ := Option.some.inj (hx119_30.symm.trans hx120_30)
   injection ea_ with ea_ en_ ec_
   subst ea_; subst ec_; clear en_
   go_wp2_with (first | ((with_reducible refine gate_load (t := 69) rfl ?_); refine load_lie (t := 69) rfl rfl hM119 HB (by with_reducible rfl) rfl Try.underlying69 rfl (show (Try.prog.info? 69).map (·.size) = some 31 by kernel_rfl) rfl ?_) | ((with_reducible refine gate_load (t := 69) rfl ?_); refine load_lie0 (t := 69) rfl rfl hM119 (by with_reducible rfl) rfl Try.underlying69 rfl (show (Try.prog.info? 69).map (·.size) = some 31 by kernel_rfl) rfl ?_) | ((with_reducible refine gate_load (t := 69) rfl ?_); refine load_lie (t := 69) rfl rfl hM120 HB (by with_reducible rfl) rfl Try.underlying69 rfl (show (Try.prog.info? 69).map (·.size) = some 31 by kernel_rfl) rfl ?_) | ((with_reducible refine gate_load (t := 69) rfl ?_); refine load_lie0 (t := 69) rfl rfl hM120 (by with_reducible rfl) rfl Try.underlying69 rfl (show (Try.prog.info? 69).map (·.size) = some 31 by kernel_rfl) rfl ?_) | ((with_reducible refine gate_builtin (b := .append) (xs := #[.tmp 23, .tmp 30]) rfl ?_); at_builtin; refine Kd.R_append (Kd.int .i64) (w0 := w) w.heap.size rfl (.tmp 23) (.tmp 30) 24 3 (.int .i64 0) 8 rfl Try.underlying24 info3 rfl (by decide) (by omega) u5 x5_1 ((rd_T69 l0_0 x6_1).f0) [.int .i64 ((rd_T69 l0_0 x6_1).f0)] (fun _ => True) (fun _ => False) rfl rfl ?aP (fun _ hk => hk.elim) ?aF ?aO ?aB ?aS ?aL ?_; (case aP => exact rfl); (case aB => exact z2_2); (case aF => exact (fun _ _ => trivial)); (case aO => exact (pkR HO_5)); (case aS => exact (below_size z2_2)); (case aL => have := LMc9.out; omega); intro v122 w11 ho hb hg hat; rw [← Ny121.out] at ho; have n0_ := mk0 (blk_grown (g := gb115) (o := .cells #[.slice (some ad119) l0_0.length c0_0] 53 (0, 0)) (pkb BK115) hg (Kd.R_ne HO_5.out BK115.out (by decide))); have n1_ := mk0 (hb); have n2_ := mk0 (ho); clear BK115 HB HO_5; have BK115 := n0_; have HB := n1_; have HO123 := n2_; clear n0_ n1_ n2_ ho hb hg hat))
   go_roundg k1
   case measure => have := HK1.out; omega
   case rel => exact ⟨(y121), (wrap64 (x6_1 + 1)), rs0, H', ⟨(by have := HK1.out; omega)⟩, ⟨pkR HO123⟩, ⟨pkb BK115⟩, ⟨z2_2⟩⟩

/-! ### laws_toIntS: function 21 -/
def laws_toIntS.l0 : Nat → List Int → List Int → Int → Option (List Int)
 | 0, _, _, _ => none
 | k + 1, x0, x3, x4 => if x4 < (x0.length : Int) then (if 0 ≤ x4 then (if x4 < (x3.length : Int) then (laws_toIntS.l0 k x0 (x3.set (x4 : Int).toNat (rd x0 x4)) (wrap64 (x4 + 1))) else (none)) else (none)) else (some x3)
def laws_toIntS.f (k : Nat) (l0 : List Int) : Option (List Int) := if 0 ≤ (l0.length : Int) then (if ((l0.length : Int) : Int).toNat ≤ 35184372088832 then (laws_toIntS.l0 k l0 (List.replicate ((l0.length : Int) : Int).toNat 0) 0) else (none)) else (none)
theorem laws_toIntS.mono_l : ∀ k, (∀ y0 y1 y2, LeO (laws_toIntS.l0 k y0 y1 y2) (laws_toIntS.l0 (k + 1) y0 y1 y2))
 | 0 => fun _ _ _ r h => by simp [laws_toIntS.l0] at h
 | k + 1 => by
  have ih0 := laws_toIntS.mono_l k
  ·intro y0 y1 y2
   unfold laws_toIntS.l0
   repeat' first
   | (with_reducible exact ih0 _ _ _)
   | (with_reducible exact LeO.refl _)
   | (with_reducible exact LeO.none _)
   | (with_reducible refine LeO.ite ?_ ?_)
   | (with_reducible refine LeO.bind ?_ (fun _ => ?_))
theorem laws_toIntS.mono : ∀ a0 k, LeO (laws_toIntS.f k a0) (laws_toIntS.f (k + 1) a0) := by
 intro a0 k
 have ih0 := laws_toIntS.mono_l k
 unfold laws_toIntS.f
 repeat' first
   | (with_reducible exact ih0 _ _ _)
   | (with_reducible exact LeO.refl _)
   | (with_reducible exact LeO.none _)
   | (with_reducible refine LeO.ite ?_ ?_)
   | (with_reducible refine LeO.bind ?_ (fun _ => ?_))
set_option maxHeartbeats 8000000 in
set_option maxRecDepth 100000 in
theorem laws_toIntS.calls (k : Nat) (A0 : Option Addr) (c0 : Nat) (l0 : List Int) (r : List Int) (w : World) (hr0 : Kd.C (Kd.int .i64) w A0 l0.length l0) (hc0 : l0.length ≤ c0) (h : laws_toIntS.f k l0 = some r) :
  Calls Try.prog 21 #[.slice A0 l0.length c0] w fun e w' => ∃ v0_ : Value, e = .returned (v0_) ∧ Kd.R (Kd.int .i64) 3 w' w.heap.size (fun _ => True) v0_ r ∧ Below w.heap.size w w' := by
 have HR0 := mk0 hr0
 have HC0 := mk0 hc0
 clear hr0 hc0
 have HB := mk0 (Below.refl w.heap.size w)
 have H : (if 0 ≤ (l0.length : Int) then (if ((l0.length : Int) : Int).toNat ≤ 35184372088832 then (laws_toIntS.l0 k l0 (List.replicate ((l0.length : Int) : Int).toNat 0) 0) else (none)) else (none)) = some r := h
 clear h
 by_cases c2 : 0 ≤ (l0.length : Int)
 rotate_left
 ·rw [if_neg c2] at H
  exact absurd H (by simp)
 rw [if_pos c2] at H
 have c2b0 := eq_true c2
 have c2b1 := decide_eq_true c2
 clear c2
 by_cases c3 : ((l0.length : Int) : Int).toNat ≤ 35184372088832
 rotate_left
 ·rw [if_neg c3] at H
  exact absurd H (by simp)
 rw [if_pos c3] at H
 have c3b0 := eq_true c3
 have c3b1 := decide_eq_true c3
 clear c3
 obtain ⟨y124, hy_⟩ : ∃ y_ : List Int, y_ = (List.replicate ((l0.length : Int) : Int).toNat 0) := ⟨_, rfl⟩
 replace H : (laws_toIntS.l0 k l0 y124 0) = some r := z2_1
 have Ny124 := mk0 hy_
 clear hy_
 have H' := mk0 H
 clear H
 go_enter Try.func21, Try.ntmps21
 go_wp2_with (first | ((with_reducible refine gate_dst (N := 7) rfl ?_); refine Kd.R_make (Kd.int .i64) _ 3 rfl (N := 7) rfl 24 _ _ rfl (l0.length : Int) rfl rfl Try.underlying24 (.int .i64 0) 8 info3 rfl (by decide) (by omega) 0 (ok := fun _ => True) (okp := fun _ => True) rfl (fun _ hk => hk) trivial (of_decide_eq_true (by first | (with_reducible assumption) | assumption)) (Nat.le_trans (Nat.mul_le_mul_right _ (of_decide_eq_true (by first | (with_reducible assumption) | assumption) : (l0.length : Int).toNat ≤ 35184372088832)) (by omega)) (Below.refl _ _) (Nat.le_refl _) ?_; intro v125 w4 ho5 hb hg_ hnew_; clear hg_ hnew_; (first | rw [← Ny124.out] at ho5 | (simp only [Int.reduceToNat] at ho5; rw [← Ny124.out] at ho5)); have n0_ := mk0 (Kd.R_lower ho5 (below_size z2_0)); have n1_ := mk0 (below_step z2_0 hb); clear HB; have HO126 := n0_; have HB := n1_; clear n0_ n1_ hb ho5))
 go_loopg [4] k (fun kq v4 w' => ∃ (x3_1 : List Int) (x4_1 : Int), v4 = .int .i64 x4_1 ∧ Aside0 (laws_toIntS.l0 kq l0 x3_1 x4_1 = some r) ∧ Aside0 (kq ≤ k) ∧ Aside0 (Kd.R (Kd.int .i64) 3 w' w.heap.size (fun _ => True) v125 x3_1) ∧ Aside0 (Below w.heap.size w w'))
 case atStart => exact ⟨(y124), (0), rs0, H', ⟨Nat.le_refl _⟩, ⟨pkR HO126⟩, ⟨z2_0⟩⟩
 case round =>
  clear H'
  try clear c2
  try clear c2b0
  try clear c2b1
  try clear p2
  try clear c3
  try clear c3b0
  try clear c3b1
  obtain ⟨x3_1, x4_1, rfl, HA, HK1, HO_3, HB⟩ := hrel
  cases gk with
  | zero => exact absurd HA.out (by simp [laws_toIntS.l0])
  | succ k1 =>
   have H := HA.out; clear HA
   simp only [laws_toIntS.l0] at H
   by_cases c6 : x4_1 < (l0.length : Int)
   rotate_left
   ·rw [if_neg c6] at H
    have c6b0 := decide_eq_false c6
    clear c6
    obtain rfl := Option.some.inj H
    simp only [Option.some.injEq, Prod.mk.injEq] at H
    obtain ⟨rfl⟩ := H
    go_wp2
    go_ret
    exact ⟨_, z2_7, (pkR HO_3), z2_0⟩
   rw [if_pos c6] at H
   have c6b0 := decide_eq_true c6
   clear c6
   by_cases c7 : 0 ≤ x4_1
   rotate_left
   ·rw [if_neg c7] at H
    exact absurd H (by simp)
   rw [if_pos c7] at H
   have c7b0 := decide_eq_true c7
   clear c7
   by_cases c8 : x4_1 < (x3_1.length : Int)
   rotate_left
   ·rw [if_neg c8] at H
    exact absurd H (by simp)
   rw [if_pos c8] at H
   have c8b0 := decide_eq_true c8
   clear c8
   obtain ⟨y128, hy_⟩ : ∃ y_ : List Int, y_ = (x3_1.set (x4_1 : Int).toNat (rd l0 x4_1)) := ⟨_, rfl⟩
   replace H : (laws_toIntS.l0 k1 l0 y128 (wrap64 (x4_1 + 1))) = some r := z2_1
   have Ny128 := mk0 hy_
   clear hy_
   have H' := mk0 H
   clear H
   have p127 : 0 ≤ (x4_1 : Int) := of_decide_eq_true (by first | (with_reducible assumption) | assumption)
   have q127 : x4_1 < (l0.length : Int) := of_decide_eq_true (by first | (with_reducible assumption) | assumption)
   obtain ⟨ad127, e127, hx127_0⟩ := Kd.at_int HR0.out x4_1 p127 q127
   cases e127
   replace hx127_0 := cell_go HB hx127_0
   replace p127 := eq_true p127
   replace q127 := eq_true q127
   have p9 : 0 ≤ (x4_1 : Int) := of_decide_eq_true (by first | (with_reducible assumption) | assumption)
   have q9 : (x4_1 : Int) < ((x3_1.length : Int) : Int) := of_decide_eq_true (by first | (with_reducible assumption) | assumption)
   obtain ⟨go9, co9, eo9, gb9, gl9, cl9, HG9⟩ := Kd.R_form HO_3.out (by omega)
   (first | cases eo9 | (injection eo9 with ea_ en_ ec_; (first | subst ea_ | (injection ea_ with ea_; subst ea_)); subst ec_; clear en_))
   have GB9 := mk0 gb9
   have GG9 := mk0 HG9
   clear gb9 gl9 HG9
   obtain ⟨hx9_0, hf9_0⟩ := Kd.R_celln 0 HO_3.out (x4_1 : Int) p9 q9
   replace p9 := eq_true p9
   replace q9 := eq_true q9
   have HP10 := Kd.R_putg HO_3.out (x4_1 : Int) (rd l0 x4_1)
   go_wp2_with (first | ((with_reducible refine gate_store (t := 3) (p := 20) rfl ?_); refine store_event (t := 3) (p := 20) (v := ?vo_w11) (w1 := (wr.setCell ⟨go9, (x4_1 : Int).toNat, none⟩ (.int .i64 (rd l0 x4_1)))) ?hg ?ho ?hn ?hr ?_; (case ho => rfl); (case hg => rfl); (case hn => rfl); (case hr => first | (go_simp; done) | (go_simp; rfl) | (obtain ⟨Aq_, cq_, eq_⟩ := Kd.R_slice HO_3.out; subst eq_; first | (go_simp; done) | (go_simp; rfl))); intro w11 hw; have hg : wr.grownBy w11 (some go9) := (by rw [hw]; exact HP10.2); have hp_ : Kd.R (Kd.int .i64) 3 w11 w.heap.size (fun _ => True) (.slice (some ⟨go9, 0, none⟩) x3_1.length co9) y128 := (by rw [hw, Ny128.out]; exact HP10.1); clear HP10; have n0_ := mk0 (hp_); have n1_ := mk0 ((by rw [hw]; exact below_set (HB.out) GB9.out : Below w.heap.size w w11)); clear HO_3 HB; have HO_3 := n0_; have HB := n1_; clear n0_ n1_ hg hw hp_))
   go_roundg k1
   case measure => have := HK1.out; omega
   case rel => exact ⟨(y128), (wrap64 (x4_1 + 1)), rs0, H', ⟨(by have := HK1.out; omega)⟩, ⟨pkR HO_3⟩, ⟨z2_0⟩⟩

/-! ### laws_toMat: function 101 -/
def laws_toMat.f (a0_0 : Int) (a0_1 : Int) (a0_2 : Int) (a0_3 : Int) (a0_4 : Int) (a0_5 : Int) : Option (Int × Int × Int × Int × Int × Int) := some (a0_0, a0_1, a0_2, a0_3, a0_4, a0_5)
set_option maxHeartbeats 8000000 in
set_option maxRecDepth 100000 in
theorem laws_toMat.calls (a0_0 : Int) (a0_1 : Int) (a0_2 : Int) (a0_3 : Int) (a0_4 : Int) (a0_5 : Int) (r1 : Int) (r2 : Int) (r3 : Int) (r4 : Int) (r5 : Int) (r6 : Int) (w : World) (h : laws_toMat.f a0_0 a0_1 a0_2 a0_3 a0_4 a0_5 = some (r1, r2, r3, r4, r5, r6)) :
  Calls Try.prog 101 #[.agg #[.int .i64 a0_0, .int .i64 a0_1, .int .i64 a0_2, .int .i64 a0_3, .int .i64 a0_4, .int .i64 a0_5]] w fun e w' => e = .returned (.agg #[.int .i64 r1, .int .i64 r2, .int .i64 r3, .int .i64 r4, .int .i64 r5, .int .i64 r6]) ∧ Below w.heap.size w w' := by
 have hu111 := Try.underlying111
 have hu61 := Try.underlying61
 have HB := mk0 (Below.refl w.heap.size w)
 have H : (some (a0_0, a0_1, a0_2, a0_3, a0_4, a0_5)) = some (r1, r2, r3, r4, r5, r6) := h
 clear h
 simp only [Option.some.injEq, Prod.mk.injEq] at H
 obtain ⟨rfl, rfl, rfl, rfl, rfl, rfl⟩ := H
 go_enter Try.func101, Try.ntmps101
 go_wp2_with (first | ((with_reducible refine gate_dst (N := 1) rfl ?_); refine boxz (cs := #[.int .i64 a0_0, .int .i64 a0_1, .int .i64 a0_2, .int .i64 a0_3, .int .i64 a0_4, .int .i64 a0_5]) (t := 111) rfl ?_; intro gb129 hg w2 hbox hb; have n0_ := mk0 (below_step z2_0 hb); have n1_ := mk0 (hbox); have GW129 := mk0 (ge_go (a := w.heap.size) hg (below_size z2_0)); have GE129 := GW129; clear HB; have HB := n0_; have BK129 := n1_; clear n0_ n1_ ; clear hb hbox hg) | ((with_reducible refine gate_dst (N := 2) rfl ?_); refine boxz (cs := #[.int .i64 0, .int .i64 0, .int .i64 0, .int .i64 0, .int .i64 0, .int .i64 0]) (t := 61) rfl ?_; intro gb130 hg w3 hbox hb; have n0_ := mk0 (blk_belowB BK129 (pkb BK129) hb); have n1_ := mk0 (below_step z2_16 hb); have n2_ := mk0 (hbox); have GW130 := mk0 (ge_go (a := w.heap.size) hg (below_size z2_16)); have GE130 := GW130; have NB129_130 := mk0 (nb_lt hg (blk_ltB BK129 (pkb BK129))); have NB130_129 := mk0 (nb_gt hg (blk_ltB BK129 (pkb BK129))); clear BK129 HB; have BK129 := n0_; have HB := n1_; have BK130 := n2_; clear n0_ n1_ n2_ ; clear hb hbox hg) | ((with_reducible refine gate_dst (N := 3) rfl ?_); refine boxz (cs := #[.int .i64 0, .int .i64 0, .int .i64 0, .int .i64 0, .int .i64 0, .int .i64 0]) (t := 61) rfl ?_; intro gb131 hg w4 hbox hb; have n0_ := mk0 (blk_belowB BK129 (pkb BK129) hb); have n1_ := mk0 (blk_belowB BK130 (pkb BK130) hb); have n2_ := mk0 (below_step z2_10 hb); have n3_ := mk0 (hbox); have GW131 := mk0 (ge_go (a := w.heap.size) hg (below_size z2_10)); have GE131 := GW131; have NB129_131 := mk0 (nb_lt hg (blk_ltB BK129 (pkb BK129))); have NB131_129 := mk0 (nb_gt hg (blk_ltB BK129 (pkb BK129))); have NB130_131 := mk0 (nb_lt hg (blk_ltB BK130 (pkb BK130))); have NB131_130 := mk0 (nb_gt hg (blk_ltB BK130 (pkb BK130))); clear BK129 BK130 HB; have BK129 := n0_; have BK130 := n1_; have HB := n2_; have BK131 := n3_; clear n0_ n1_ n2_ n3_ ; clear hb hbox hg; have hnb5 := NB129_130.out; have hnc5 := NB130_129.out; have hnb6 := NB129_131.out; have hnc6 := NB131_129.out; obtain ⟨_, _, _, _, _, _, _, _, _, _, _, _⟩ := be_6 BK129.out; have hnb8 := NB131_130.out; have hnc8 := NB130_131.out; obtain ⟨_, _, _, _, _, _, _, _, _, _, _, _⟩ := be_6 BK131.out; obtain ⟨_, _, _, _, _, _, _, _, _, _, _, _⟩ := be_6 BK130.out))
 refine bodyPost_ret (results_cell_row rfl _ _ gb130 61 #[.int .i64 a0_0, .int .i64 a0_1, .int .i64 a0_2, .int .i64 a0_3, .int .i64 a0_4, .int .i64 a0_5] (0, 0) _ rfl (by apply blk_fin; (focus ((with_reducible repeat (first | apply blk_putQ | refine blk_farQ NB130_131.out ?_ | refine blk_drewN ?_ _ | refine blk_drew ?_ | refine blk_alloc ?_ _)); exact BK130.out)); first | (simp only [List.setIfInBounds_toArray, List.set_cons_zero, List.set_cons_succ]; done) | rfl) Try.underlying61 rfl (by kernel_rfl)) rfl ?_
 exact ⟨z2_7, (by repeat (first | (with_reducible first | exact HB.out | apply below_alloc | apply pw_below_drewN | apply below_drew1 | refine below_set ?_ GE129.out | refine below_set ?_ GE130.out | refine below_set ?_ GE131.out) | exact HB.out))⟩

/-! ### laws_toPoint: function 63 -/
def laws_toPoint.f (a0_0 : Int) (a0_1 : Int) : Option (Int × Int) := some (a0_0, a0_1)
set_option maxHeartbeats 8000000 in
set_option maxRecDepth 100000 in
theorem laws_toPoint.calls (a0_0 : Int) (a0_1 : Int) (r1 : Int) (r2 : Int) (w : World) (h : laws_toPoint.f a0_0 a0_1 = some (r1, r2)) :
  Calls Try.prog 63 #[.agg #[.int .i64 a0_0, .int .i64 a0_1]] w fun e w' => e = .returned (.agg #[.int .i64 r1, .int .i64 r2]) ∧ Below w.heap.size w w' := by
 have hu89 := Try.underlying89
 have hu29 := Try.underlying29
 have HB := mk0 (Below.refl w.heap.size w)
 have H : (some (a0_0, a0_1)) = some (r1, r2) := h
 clear h
 simp only [Option.some.injEq, Prod.mk.injEq] at H
 obtain ⟨rfl, rfl⟩ := H
 go_enter Try.func63, Try.ntmps63
 go_wp2_with (first | ((with_reducible refine gate_dst (N := 1) rfl ?_); refine boxz (cs := #[.int .i64 a0_0, .int .i64 a0_1]) (t := 89) rfl ?_; intro gb132 hg w2 hbox hb; have n0_ := mk0 (below_step z2_0 hb); have n1_ := mk0 (hbox); have GW132 := mk0 (ge_go (a := w.heap.size) hg (below_size z2_0)); have GE132 := GW132; clear HB; have HB := n0_; have BK132 := n1_; clear n0_ n1_ ; clear hb hbox hg) | ((with_reducible refine gate_dst (N := 2) rfl ?_); refine boxz (cs := #[.int .i64 0, .int .i64 0]) (t := 29) rfl ?_; intro gb133 hg w3 hbox hb; have n0_ := mk0 (blk_belowB BK132 (pkb BK132) hb); have n1_ := mk0 (below_step z2_17 hb); have n2_ := mk0 (hbox); have GW133 := mk0 (ge_go (a := w.heap.size) hg (below_size z2_17)); have GE133 := GW133; have NB132_133 := mk0 (nb_lt hg (blk_ltB BK132 (pkb BK132))); have NB133_132 := mk0 (nb_gt hg (blk_ltB BK132 (pkb BK132))); clear BK132 HB; have BK132 := n0_; have HB := n1_; have BK133 := n2_; clear n0_ n1_ n2_ ; clear hb hbox hg) | ((with_reducible refine gate_dst (N := 3) rfl ?_); refine boxz (cs := #[.int .i64 0, .int .i64 0]) (t := 29) rfl ?_; intro gb134 hg w4 hbox hb; have n0_ := mk0 (blk_belowB BK132 (pkb BK132) hb); have n1_ := mk0 (blk_belowB BK133 (pkb BK133) hb); have n2_ := mk0 (below_step z2_11 hb); have n3_ := mk0 (hbox); have GW134 := mk0 (ge_go (a := w.heap.size) hg (below_size z2_11)); have GE134 := GW134; have NB132_134 := mk0 (nb_lt hg (blk_ltB BK132 (pkb BK132))); have NB134_132 := mk0 (nb_gt hg (blk_ltB BK132 (pkb BK132))); have NB133_134 := mk0 (nb_lt hg (blk_ltB BK133 (pkb BK133))); have NB134_133 := mk0 (nb_gt hg (blk_ltB BK133 (pkb BK133))); clear BK132 BK133 HB; have BK132 := n0_; have BK133 := n1_; have HB := n2_; have BK134 := n3_; clear n0_ n1_ n2_ n3_ ; clear hb hbox hg; have hnb5 := NB132_133.out; have hnc5 := NB133_132.out; have hnb6 := NB132_134.out; have hnc6 := NB134_132.out; obtain ⟨_, _, _, _⟩ := be_2 BK132.out; have hnb8 := NB134_133.out; have hnc8 := NB133_134.out; obtain ⟨_, _, _, _⟩ := be_2 BK134.out; obtain ⟨_, _, _, _⟩ := be_2 BK133.out))
 refine bodyPost_ret (results_cell_row rfl _ _ gb133 29 #[.int .i64 a0_0, .int .i64 a0_1] (0, 0) _ rfl (by apply blk_fin; (focus ((with_reducible repeat (first | apply blk_putQ | refine blk_farQ NB133_134.out ?_ | refine blk_drewN ?_ _ | refine blk_drew ?_ | refine blk_alloc ?_ _)); exact BK133.out)); first | (simp only [List.setIfInBounds_toArray, List.set_cons_zero, List.set_cons_succ]; done) | rfl) Try.underlying29 rfl (by kernel_rfl)) rfl ?_
 exact ⟨z2_7, (by repeat (first | (with_reducible first | exact HB.out | apply below_alloc | apply pw_below_drewN | apply below_drew1 | refine below_set ?_ GE132.out | refine below_set ?_ GE133.out | refine below_set ?_ GE134.out) | exact HB.out))⟩

/-! ### laws_toPointS: function 20 -/
def laws_toPointS.l0 : Nat → List (S89) → List (S29) → Int → Option ((List (S29)))
 | 0, _, _, _ => none
 | k + 1, x0, x3, x4 => if x4 < (x0.length : Int) then (if 0 ≤ x4 then ((laws_toPoint.f ((rd_T89 x0 x4).f0) ((rd_T89 x0 x4).f1)).bind fun bt139 => (if x4 < (x3.length : Int) then (laws_toPointS.l0 k x0 (x3.set (x4 : Int).toNat (⟨bt139.1, bt139.2⟩ : S29)) (wrap64 (x4 + 1))) else (none))) else (none)) else (some x3)
def laws_toPointS.f (k : Nat) (l0 : List (S89)) : Option ((List (S29))) := if 0 ≤ (l0.length : Int) then (if ((l0.length : Int) : Int).toNat ≤ 17592186044416 then (laws_toPointS.l0 k l0 (List.replicate ((l0.length : Int) : Int).toNat z29) 0) else (none)) else (none)
theorem laws_toPointS.mono_l : ∀ k, (∀ y0 y1 y2, LeO (laws_toPointS.l0 k y0 y1 y2) (laws_toPointS.l0 (k + 1) y0 y1 y2))
 | 0 => fun _ _ _ r h => by simp [laws_toPointS.l0] at h
 | k + 1 => by
  have ih0 := laws_toPointS.mono_l k
  ·intro y0 y1 y2
   unfold laws_toPointS.l0
   repeat' first
   | (with_reducible exact ih0 _ _ _)
   | (with_reducible exact LeO.refl _)
   | (with_reducible exact LeO.none _)
   | (with_reducible refine LeO.ite ?_ ?_)
   | (with_reducible refine LeO.bind ?_ (fun _ => ?_))
theorem laws_toPointS.mono : ∀ a0 k, LeO (laws_toPointS.f k a0) (laws_toPointS.f (k + 1) a0) := by
 intro a0 k
 have ih0 := laws_toPointS.mono_l k
 unfold laws_toPointS.f
 repeat' first
   | (with_reducible exact ih0 _ _ _)
   | (with_reducible exact LeO.refl _)
   | (with_reducible exact LeO.none _)
   | (with_reducible refine LeO.ite ?_ ?_)
   | (with_reducible refine LeO.bind ?_ (fun _ => ?_))
set_option maxHeartbeats 8000000 in
set_option maxRecDepth 100000 in
theorem laws_toPointS.calls (k : Nat) (A0 : Option Addr) (c0 : Nat) (l0 : List (S89)) (r : List (S29)) (w : World) (hr0 : Kd.C k89 w A0 l0.length l0) (hc0 : l0.length ≤ c0) (h : laws_toPointS.f k l0 = some r) :
  Calls Try.prog 20 #[.slice A0 l0.length c0] w fun e w' => ∃ v0_ : Value, e = .returned (v0_) ∧ Kd.R k29 29 w' w.heap.size (fun _ => True) v0_ r ∧ Below w.heap.size w w' := by
 have hu89 := Try.underlying89
 have hu29 := Try.underlying29
 have HR0 := mk0 hr0
 have HC0 := mk0 hc0
 clear hr0 hc0
 have HB := mk0 (Below.refl w.heap.size w)
 have H : (if 0 ≤ (l0.length : Int) then (if ((l0.length : Int) : Int).toNat ≤ 17592186044416 then (laws_toPointS.l0 k l0 (List.replicate ((l0.length : Int) : Int).toNat z29) 0) else (none)) else (none)) = some r := h
 clear h
 by_cases c2 : 0 ≤ (l0.length : Int)
 rotate_left
 ·rw [if_neg c2] at H
  exact absurd H (by simp)
 rw [if_pos c2] at H
 have c2b0 := eq_true c2
 have c2b1 := decide_eq_true c2
 clear c2
 by_cases c3 : ((l0.length : Int) : Int).toNat ≤ 17592186044416
 rotate_left
 ·rw [if_neg c3] at H
  exact absurd H (by simp)
 rw [if_pos c3] at H
 have c3b0 := eq_true c3
 have c3b1 := decide_eq_true c3
 clear c3
 obtain ⟨y135, hy_⟩ : ∃ y_ : List (S29), y_ = (List.replicate ((l0.length : Int) : Int).toNat z29) := ⟨_, rfl⟩
 replace H : (laws_toPointS.l0 k l0 y135 0) = some r := z2_1
 have Ny135 := mk0 hy_
 clear hy_
 have H' := mk0 H
 clear H
 go_enter Try.func20, Try.ntmps20
 go_wp2_with (first | ((with_reducible refine gate_dst (N := 7) rfl ?_); refine Kd.R_make k29 _ 29 rfl (N := 7) rfl 30 _ _ rfl (l0.length : Int) rfl rfl Try.underlying30 (.agg #[(.int .i64 0), (.int .i64 0)]) 16 info29 rfl (by decide) (by omega) z29 (ok := fun _ => True) (okp := fun _ => True) (k29_mkM _ _ _ z29 ) (fun _ hk => hk) trivial (of_decide_eq_true (by first | (with_reducible assumption) | assumption)) (Nat.le_trans (Nat.mul_le_mul_right _ (of_decide_eq_true (by first | (with_reducible assumption) | assumption) : (l0.length : Int).toNat ≤ 17592186044416)) (by omega)) (Below.refl _ _) (Nat.le_refl _) ?_; intro v136 w4 ho5 hb hg_ hnew_; clear hg_ hnew_; (first | rw [← Ny135.out] at ho5 | (simp only [Int.reduceToNat] at ho5; rw [← Ny135.out] at ho5)); have n0_ := mk0 (Kd.R_lower ho5 (below_size z2_0)); have n1_ := mk0 (below_step z2_0 hb); clear HB; have HO137 := n0_; have HB := n1_; clear n0_ n1_ hb ho5))
 go_loopg [4] k (fun kq v4 w' => ∃ (x3_1 : List (S29)) (x4_1 : Int), v4 = .int .i64 x4_1 ∧ Aside0 (laws_toPointS.l0 kq l0 x3_1 x4_1 = some r) ∧ Aside0 (kq ≤ k) ∧ Aside0 (Kd.R k29 29 w' w.heap.size (fun _ => True) v136 x3_1) ∧ Aside0 (Below w.heap.size w w'))
 case atStart => exact ⟨(y135), (0), rs0, H', ⟨Nat.le_refl _⟩, ⟨pkR HO137⟩, ⟨z2_0⟩⟩
 case round =>
  clear H'
  try clear c2
  try clear c2b0
  try clear c2b1
  try clear p2
  try clear c3
  try clear c3b0
  try clear c3b1
  obtain ⟨x3_1, x4_1, rfl, HA, HK1, HO_3, HB⟩ := hrel
  cases gk with
  | zero => exact absurd HA.out (by simp [laws_toPointS.l0])
  | succ k1 =>
   have H := HA.out; clear HA
   simp only [laws_toPointS.l0] at H
   by_cases c6 : x4_1 < (l0.length : Int)
   rotate_left
   ·rw [if_neg c6] at H
    have c6b0 := decide_eq_false c6
    clear c6
    obtain rfl := Option.some.inj H
    simp only [Option.some.injEq, Prod.mk.injEq] at H
    obtain ⟨rfl⟩ := H
    go_wp2
    go_ret
    exact ⟨_, z2_7, (pkR HO_3), z2_0⟩
   rw [if_pos c6] at H
   have c6b0 := decide_eq_true c6
   clear c6
   by_cases c7 : 0 ≤ x4_1
   rotate_left
   ·rw [if_neg c7] at H
    exact absurd H (by simp)
   rw [if_pos c7] at H
   have c7b0 := decide_eq_true c7
   clear c7
   replace H := Option.bind_eq_some_iff.mp H
   obtain ⟨⟨t139, t140⟩, A80, H⟩ := H
   try dsimp only at H
   have A8 := mk0 A80
   clear A80
   by_cases c9 : x4_1 < (x3_1.length : Int)
   rotate_left
   ·rw [if_neg c9] at H
    exact absurd H (by simp)
   rw [if_pos c9] at H
   have c9b0 := decide_eq_true c9
   clear c9
   obtain ⟨y141, hy_⟩ : ∃ y_ : List (S29), y_ = (x3_1.set (x4_1 : Int).toNat (⟨t139, t140⟩ : S29)) := ⟨_, rfl⟩
   replace H : (laws_toPointS.l0 k1 l0 y141 (wrap64 (x4_1 + 1))) = some r := z2_1
   have Ny141 := mk0 hy_
   clear hy_
   have H' := mk0 H
   clear H
   have p138 : 0 ≤ (x4_1 : Int) := of_decide_eq_true (by first | (with_reducible assumption) | assumption)
   have q138 : x4_1 < (l0.length : Int) := of_decide_eq_true (by first | (with_reducible assumption) | assumption)
   obtain ⟨ad138, e138, hx138_0, hx138_1⟩ := at_T89 HR0.out x4_1 p138 q138
   cases e138
   replace hx138_0 := cell_go HB hx138_0
   replace hx138_1 := cell_go HB hx138_1
   replace p138 := eq_true p138
   replace q138 := eq_true q138
   go_wp2_with (first | ((with_reducible refine gate_callee (f := 63) rfl ?_); refine goesL_ (some 20) rfl rfl Try.func63 (by kernel_rfl) rfl #[.agg #[.int .i64 ((rd_T89 l0 x4_1).f0), .int .i64 ((rd_T89 l0 x4_1).f1)]] rfl z2_6 ?_; (with_reducible refine (laws_toPoint.calls ((rd_T89 l0 x4_1).f0) ((rd_T89 l0 x4_1).f1) t139 t140 _ A8.out).mono ?_); rintro e w11 ⟨rfl, hb⟩; refine ⟨_, rfl, ?_⟩; have n0_ := mk0 (Kd.R_below (pkR HO_3) hb); have n1_ := mk0 (below_step z2_0 hb); clear HO_3 HB; have HO_3 := n0_; have HB := n1_; clear n0_ n1_; (try clear hb); (try clear hk); have p10 : 0 ≤ (x4_1 : Int) := of_decide_eq_true (by first | (with_reducible assumption) | assumption); have q10 : (x4_1 : Int) < ((x3_1.length : Int) : Int) := of_decide_eq_true (by first | (with_reducible assumption) | assumption); obtain ⟨go10, co10, eo10, gb10, gl10, cl10, HG10⟩ := Kd.R_form HO_3.out (by omega); (first | cases eo10 | (injection eo10 with ea_ en_ ec_; (first | subst ea_ | (injection ea_ with ea_; subst ea_)); subst ec_; clear en_)); have GB10 := mk0 gb10; have GG10 := mk0 HG10; clear gb10 gl10 HG10; obtain ⟨ce10, hcl10, hM10, hcc10, hfr10⟩ := Kd.R_elem HO_3.out z29 (x4_1 : Int) p10 q10; obtain rfl := k29_openM hM10; have hx10_0 : w11.cell? ⟨go10, (x4_1 : Int).toNat * 2, none⟩ = some (.int .i64 ((rd_T29 x3_1 x4_1).f0)) := hcc10 0 _ rfl; have hx10_1 : w11.cell? ⟨go10, (x4_1 : Int).toNat * 2 + 1, none⟩ = some (.int .i64 ((rd_T29 x3_1 x4_1).f1)) := hcc10 1 _ rfl; have hf10_0 : w11.frozen? ⟨go10, (x4_1 : Int).toNat * 2, none⟩ = false := hfr10 0; have hf10_1 : w11.frozen? ⟨go10, (x4_1 : Int).toNat * 2 + 1, none⟩ = false := hfr10 1; clear hcl10 hcc10 hfr10; (try clear hM10); replace p10 := eq_true p10; replace q10 := eq_true q10; have HX12 := mk0 (show Kd.R k29 29 w11 w.heap.size (fun _ => True) (.slice (some ⟨go10, 0, none⟩) x3_1.length co10) x3_1 from (pkR HO_3)); obtain ⟨ce12, hcl12, hM12, hcc12, hfr12⟩ := Kd.R_elem HX12.out z29 (x4_1 : Int) (of_decide_eq_true (by first | (with_reducible assumption) | assumption)) (by have h_ : (x4_1 : Int) < ((x3_1.length : Int) : Int) := of_decide_eq_true (by first | (with_reducible assumption) | assumption); first | exact h_ | (have e_ := (Kd.R_reads' HO_3.out).1; omega) | simpa using h_); obtain rfl := k29_openM hM12; have HP12 := Kd.R_seg HX12.out (x4_1 : Int) (of_decide_eq_true (by first | (with_reducible assumption) | assumption)) (by have h_ : (x4_1 : Int) < ((x3_1.length : Int) : Int) := of_decide_eq_true (by first | (with_reducible assumption) | assumption); first | exact h_ | (have e_ := (Kd.R_reads' HO_3.out).1; omega) | simpa using h_) (seg := [.int .i64 t139, .int .i64 t140]) (j := 0) hcl12 hcc12 (show 2 ≤ 2 from by decide) (x' := (⟨t139, t140⟩ : S29)) (k29_mkM _ _ _ (⟨t139, t140⟩ : S29) ) (fun _ hk => hk); have hx12_0 := hcc12 0 _ rfl; (try simp only [show (k29).sz = 2 from rfl, Nat.mul_one, Nat.add_zero] at hx12_0); have hf12_0 := hfr12 0; (try simp only [show (k29).sz = 2 from rfl, Nat.mul_one, Nat.add_zero] at hf12_0); have hx12_1 := hcc12 1 _ rfl; (try simp only [show (k29).sz = 2 from rfl, Nat.mul_one, Nat.add_zero] at hx12_1); have hf12_1 := hfr12 1; (try simp only [show (k29).sz = 2 from rfl, Nat.mul_one, Nat.add_zero] at hf12_1); clear hcl12 hcc12 hfr12; (try clear hM12)) | ((with_reducible refine gate_store (t := 29) (p := 21) rfl ?_); refine store_event (t := 29) (p := 21) (v := ?vo_w13) (w1 := ((w11.setCell ⟨go10, (x4_1 : Int).toNat * 2, none⟩ (.int .i64 t139)).setCell ⟨go10, (x4_1 : Int).toNat * 2 + 1, none⟩ (.int .i64 t140))) ?hg ?ho ?hn ?hr ?_; (case ho => rfl); (case hg => rfl); (case hn => rfl); (case hr => first | (go_simp; done) | (go_simp; rfl) | (obtain ⟨Aq_, cq_, eq_⟩ := Kd.R_slice HO_3.out; subst eq_; first | (go_simp; done) | (go_simp; rfl))); intro w13 hw; have hg : w11.grownBy w13 (some go10) := (by rw [hw]; exact HP12.2); have hp_ : Kd.R k29 29 w13 w.heap.size (fun _ => True) (.slice (some ⟨go10, 0, none⟩) x3_1.length co10) y141 := (by rw [hw, Ny141.out]; exact HP12.1); clear HP12; have n0_ := mk0 (hp_); have n1_ := mk0 ((by rw [hw]; exact below_set (below_set (HB.out) GB10.out) GB10.out : Below w.heap.size w w13)); clear HO_3 HB; have HO_3 := n0_; have HB := n1_; clear n0_ n1_ hg hw hp_))
   go_roundg k1
   case measure => have := HK1.out; omega
   case rel => exact ⟨(y141), (wrap64 (x4_1 + 1)), rs0, H', ⟨(by have := HK1.out; omega)⟩, ⟨pkR HO_3⟩, ⟨z2_0⟩⟩

/-! ### laws_toPath: function 102 -/
def laws_toPath.f (k : Nat) (l0_0 : List Int) (l0_1 : List (S89)) : Option (List Int × (List (S29))) := (laws_toIntS.f k l0_0).bind fun t145 => ((laws_toPointS.f k l0_1).bind fun t148 => (some (t145, t148)))
theorem laws_toPath.mono : ∀ a0 a1 k, LeO (laws_toPath.f k a0 a1) (laws_toPath.f (k + 1) a0 a1) := by
 intro a0 a1 k
 unfold laws_toPath.f
 repeat' first
   | (with_reducible exact laws_toIntS.mono _ _)
   | (with_reducible exact laws_toPointS.mono _ _)
   | (with_reducible exact LeO.refl _)
   | (with_reducible exact LeO.none _)
   | (with_reducible refine LeO.ite ?_ ?_)
   | (with_reducible refine LeO.bind ?_ (fun _ => ?_))
set_option maxHeartbeats 8000000 in
set_option maxRecDepth 100000 in
theorem laws_toPath.calls (k : Nat) (A0_0 : Option Addr) (c0_0 : Nat) (l0_0 : List Int) (A0_1 : Option Addr) (c0_1 : Nat) (l0_1 : List (S89)) (r1 : List Int) (r2 : List (S29)) (w : World) (hr0_0 : Kd.C (Kd.int .i64) w A0_0 l0_0.length l0_0) (hc0_0 : l0_0.length ≤ c0_0) (hr0_1 : Kd.C k89 w A0_1 l0_1.length l0_1) (hc0_1 : l0_1.length ≤ c0_1) (h : laws_toPath.f k l0_0 l0_1 = some (r1, r2)) :
  Calls Try.prog 102 #[.agg #[.slice A0_0 l0_0.length c0_0, .slice A0_1 l0_1.length c0_1]] w fun e w' => ∃ v0_ v1_ : Value, e = .returned (.agg #[v0_, v1_]) ∧ Kd.R (Kd.int .i64) 3 w' w.heap.size (fun _ => True) v0_ r1 ∧ Kd.R k29 29 w' w.heap.size (fun _ => True) v1_ r2 ∧ Below w.heap.size w w' := by
 have hu113 := Try.underlying113
 have hu63 := Try.underlying63
 have HR0_0 := mk0 hr0_0
 have HC0_0 := mk0 hc0_0
 clear hr0_0 hc0_0
 have HR0_1 := mk0 hr0_1
 have HC0_1 := mk0 hc0_1
 clear hr0_1 hc0_1
 have HB := mk0 (Below.refl w.heap.size w)
 have H : ((laws_toIntS.f k l0_0).bind fun t145 => ((laws_toPointS.f k l0_1).bind fun t148 => (some (t145, t148)))) = some (r1, r2) := h
 clear h
 replace H := Option.bind_eq_some_iff.mp H
 obtain ⟨t145, A20, H⟩ := H
 try dsimp only at H
 have A2 := mk0 A20
 clear A20
 replace H := Option.bind_eq_some_iff.mp H
 obtain ⟨t148, A30, H⟩ := H
 try dsimp only at H
 have A3 := mk0 A30
 clear A30
 simp only [Option.some.injEq, Prod.mk.injEq] at H
 obtain ⟨rfl, rfl⟩ := H
 go_enter Try.func102, Try.ntmps102
 go_wp2_with (first | ((with_reducible refine gate_dst (N := 1) rfl ?_); refine boxz (cs := #[.slice A0_0 l0_0.length c0_0, .slice A0_1 l0_1.length c0_1]) (t := 113) rfl ?_; intro gb142 hg w4 hbox hb; have n0_ := mk0 (below_step z2_0 hb); have n1_ := mk0 (hbox); have GW142 := mk0 (ge_go (a := w.heap.size) hg (below_size z2_0)); have GE142 := GW142; clear HB; have HB := n0_; have BK142 := n1_; clear n0_ n1_ ; clear hb hbox hg) | ((with_reducible refine gate_dst (N := 2) rfl ?_); refine boxz (cs := #[.slice none 0 0, .slice none 0 0]) (t := 63) rfl ?_; intro gb143 hg w5 hbox hb; have n0_ := mk0 (blk_belowB BK142 (pkb BK142) hb); have n1_ := mk0 (below_step z2_18 hb); have n2_ := mk0 (hbox); have GW143 := mk0 (ge_go (a := w.heap.size) hg (below_size z2_18)); have GE143 := GW143; have NB142_143 := mk0 (nb_lt hg (blk_ltB BK142 (pkb BK142))); have NB143_142 := mk0 (nb_gt hg (blk_ltB BK142 (pkb BK142))); clear BK142 HB; have BK142 := n0_; have HB := n1_; have BK143 := n2_; clear n0_ n1_ n2_ ; clear hb hbox hg) | ((with_reducible refine gate_dst (N := 3) rfl ?_); refine boxz (cs := #[.slice none 0 0, .slice none 0 0]) (t := 63) rfl ?_; intro gb144 hg w6 hbox hb; have n0_ := mk0 (blk_belowB BK142 (pkb BK142) hb); have n1_ := mk0 (blk_belowB BK143 (pkb BK143) hb); have n2_ := mk0 (below_step z2_12 hb); have n3_ := mk0 (hbox); have GW144 := mk0 (ge_go (a := w.heap.size) hg (below_size z2_12)); have GE144 := GW144; have NB142_144 := mk0 (nb_lt hg (blk_ltB BK142 (pkb BK142))); have NB144_142 := mk0 (nb_gt hg (blk_ltB BK142 (pkb BK142))); have NB143_144 := mk0 (nb_lt hg (blk_ltB BK143 (pkb BK143))); have NB144_143 := mk0 (nb_gt hg (blk_ltB BK143 (pkb BK143))); clear BK142 BK143 HB; have BK142 := n0_; have BK143 := n1_; have HB := n2_; have BK144 := n3_; clear n0_ n1_ n2_ n3_ ; clear hb hbox hg; have hnb7 := NB142_143.out; have hnc7 := NB143_142.out; have hnb8 := NB142_144.out; have hnc8 := NB144_142.out; obtain ⟨_, _, _, _⟩ := be_2 BK142.out) | ((with_reducible refine gate_callee (f := 21) rfl ?_); refine goesL_ (some 6) rfl rfl Try.func21 (by kernel_rfl) rfl #[.slice A0_0 l0_0.length c0_0] rfl z2_6 ?_; (with_reducible refine (laws_toIntS.calls k _ _ l0_0 t145 _ ?side1 ?side2 A2.out).mono ?_); (case side1 => repeat (first | exact (Kd.C_below HR0_0.out HB.out) | (with_reducible refine Kd.C_alloc ?_ _) | (with_reducible refine Kd.C_drewN ?_ _) | (with_reducible refine Kd.C_drew ?_))); (case side2 => exact HC0_0.out); rintro e w10 ⟨v146, rfl, ho0, hb⟩; refine ⟨_, rfl, ?_⟩; have n0_ := mk0 (Kd.R_lower ho0 (below_size z2_3)); have n1_ := mk0 (blk_belowB BK142 (pkb BK142) hb); have n2_ := mk0 (blk_belowB BK143 (pkb BK143) hb); have n3_ := mk0 (blk_belowB BK144 (pkb BK144) hb); have n4_ := mk0 (below_step z2_3 hb); clear BK142 BK143 BK144 HB; have HO147 := n0_; have BK142 := n1_; have BK143 := n2_; have BK144 := n3_; have HB := n4_; clear n0_ n1_ n2_ n3_ n4_; (try clear hb); (try clear hk); (try clear ho0); obtain ⟨Ao11, co11, eo11⟩ := Kd.R_slice HO147.out; subst eo11; have hnb12 := NB144_143.out; have hnc12 := NB143_144.out; obtain ⟨_, _, _, _⟩ := be_2 BK144.out; obtain ⟨_, _, _, _⟩ := be_2 BK142.out) | ((with_reducible refine gate_callee (f := 20) rfl ?_); refine goesL_ (some 10) rfl rfl Try.func20 (by kernel_rfl) rfl #[.slice A0_1 l0_1.length c0_1] rfl z2_6 ?_; (with_reducible refine (laws_toPointS.calls k _ _ l0_1 t148 _ ?side1 ?side2 A3.out).mono ?_); (case side1 => exact Kd.C_below HR0_1.out z2_3); (case side2 => exact HC0_1.out); rintro e w15 ⟨v149, rfl, ho0, hb⟩; refine ⟨_, rfl, ?_⟩; have n0_ := mk0 (Kd.R_below (by (with_reducible repeat (first | apply Kd.R_alloc | apply Kd.R_drewN | apply Kd.R_drew)); exact (Kd.R_mono (Kd.R_far (p := ⟨gb144, 0, none⟩) (Kd.R_types HO147.out BK144.out (by decide)) (fun _ hk => hk.2) (.slice Ao11 t145.length co11)) (fun _ h_ => h_.1))) hb); have n1_ := mk0 (Kd.R_lower ho0 (below_size z2_3)); have n2_ := mk0 (blk_belowB BK142 (by (with_reducible repeat (first | refine blk_drewN ?_ _ | refine blk_drew ?_ | refine blk_alloc ?_ _)); refine blk_far ?_ NB142_144.out _; (with_reducible repeat (first | refine blk_drewN ?_ _ | refine blk_drew ?_ | refine blk_alloc ?_ _)); exact BK142.out) hb); have n3_ := mk0 (blk_belowB BK143 (by (with_reducible repeat (first | refine blk_drewN ?_ _ | refine blk_drew ?_ | refine blk_alloc ?_ _)); refine blk_far ?_ NB143_144.out _; (with_reducible repeat (first | refine blk_drewN ?_ _ | refine blk_drew ?_ | refine blk_alloc ?_ _)); exact BK143.out) hb); have n4_ := mk0 (blk_below (g := gb144) (o := .cells #[.slice Ao11 t145.length co11, .slice none 0 0] 63 (0, 0)) (by apply blk_fin; (focus ((with_reducible repeat (first | apply blk_putQ | refine blk_drewN ?_ _ | refine blk_drew ?_ | refine blk_alloc ?_ _)); exact BK144.out)); first | (simp only [List.setIfInBounds_toArray, List.set_cons_zero, List.set_cons_succ]; done) | rfl) hb); have n5_ := mk0 (below_step z2_3 hb); clear HO147 BK142 BK143 BK144 HB; have HO147 := n0_; have HO150 := n1_; have BK142 := n2_; have BK143 := n3_; have BK144 := n4_; have HB := n5_; clear n0_ n1_ n2_ n3_ n4_ n5_; (try clear hb); (try clear hk); (try clear ho0); obtain ⟨Ao16, co16, eo16⟩ := Kd.R_slice HO150.out; subst eo16; obtain ⟨_, _, _, _⟩ := be_2 BK144.out; obtain ⟨_, _, _, _⟩ := be_2 BK143.out))
 refine bodyPost_ret (results_cell_row rfl _ _ gb143 63 #[.slice Ao11 t145.length co11, .slice Ao16 t148.length co16] (0, 0) _ rfl (by apply blk_fin; (focus ((with_reducible repeat (first | apply blk_putQ | refine blk_farQ NB143_144.out ?_ | refine blk_drewN ?_ _ | refine blk_drew ?_ | refine blk_alloc ?_ _)); exact BK143.out)); first | (simp only [List.setIfInBounds_toArray, List.set_cons_zero, List.set_cons_succ]; done) | rfl) Try.underlying63 rfl (by kernel_rfl)) rfl ?_
 exact ⟨_, _, z2_7, (by (with_reducible repeat (first | apply Kd.R_alloc | apply Kd.R_drewN | apply Kd.R_drew)); exact Kd.R_mono (Kd.R_far (p := ⟨gb143, 1, none⟩) (Kd.R_far (p := ⟨gb143, 0, none⟩) (Kd.R_far (p := ⟨gb144, 1, none⟩) (Kd.R_types (Kd.R_types HO147.out BK144.out (by decide)) BK143.out (by decide)) (fun _ hk => hk.1.2) (.slice Ao16 t148.length co16)) (fun _ hk => hk.2) (.slice Ao11 t145.length co11)) (fun _ hk => hk.2) (.slice Ao16 t148.length co16)) (fun _ hk => trivial)), (by (with_reducible repeat (first | apply Kd.R_alloc | apply Kd.R_drewN | apply Kd.R_drew)); exact Kd.R_mono (Kd.R_far (p := ⟨gb143, 1, none⟩) (Kd.R_far (p := ⟨gb143, 0, none⟩) (Kd.R_far (p := ⟨gb144, 1, none⟩) (Kd.R_types (Kd.R_types HO150.out BK144.out (by decide)) BK143.out (by decide)) (fun _ hk => hk.1.2) (.slice Ao16 t148.length co16)) (fun _ hk => hk.2) (.slice Ao11 t145.length co11)) (fun _ hk => hk.2) (.slice Ao16 t148.length co16)) (fun _ hk => trivial)), z2_3⟩

/-! ### laws_toColor: function 113 -/
def laws_toColor.f (a0_0 : Int) (a0_1 : Int) (a0_2 : Int) (a0_3 : Int) : Option (Int × Int × Int × Int) := some (a0_0, a0_1, a0_2, a0_3)
set_option maxHeartbeats 8000000 in
set_option maxRecDepth 100000 in
theorem laws_toColor.calls (a0_0 : Int) (a0_1 : Int) (a0_2 : Int) (a0_3 : Int) (r1 : Int) (r2 : Int) (r3 : Int) (r4 : Int) (w : World) (h : laws_toColor.f a0_0 a0_1 a0_2 a0_3 = some (r1, r2, r3, r4)) :
  Calls Try.prog 113 #[.agg #[.int .i64 a0_0, .int .i64 a0_1, .int .i64 a0_2, .int .i64 a0_3]] w fun e w' => e = .returned (.agg #[.int .i64 r1, .int .i64 r2, .int .i64 r3, .int .i64 r4]) ∧ Below w.heap.size w w' := by
 have hu114 := Try.underlying114
 have hu65 := Try.underlying65
 have HB := mk0 (Below.refl w.heap.size w)
 have H : (some (a0_0, a0_1, a0_2, a0_3)) = some (r1, r2, r3, r4) := h
 clear h
 simp only [Option.some.injEq, Prod.mk.injEq] at H
 obtain ⟨rfl, rfl, rfl, rfl⟩ := H
 go_enter Try.func113, Try.ntmps113
 go_wp2_with (first | ((with_reducible refine gate_dst (N := 1) rfl ?_); refine boxz (cs := #[.int .i64 a0_0, .int .i64 a0_1, .int .i64 a0_2, .int .i64 a0_3]) (t := 114) rfl ?_; intro gb151 hg w2 hbox hb; have n0_ := mk0 (below_step z2_0 hb); have n1_ := mk0 (hbox); have GW151 := mk0 (ge_go (a := w.heap.size) hg (below_size z2_0)); have GE151 := GW151; clear HB; have HB := n0_; have BK151 := n1_; clear n0_ n1_ ; clear hb hbox hg) | ((with_reducible refine gate_dst (N := 2) rfl ?_); refine boxz (cs := #[.int .i64 0, .int .i64 0, .int .i64 0, .int .i64 0]) (t := 65) rfl ?_; intro gb152 hg w3 hbox hb; have n0_ := mk0 (blk_belowB BK151 (pkb BK151) hb); have n1_ := mk0 (below_step z2_19 hb); have n2_ := mk0 (hbox); have GW152 := mk0 (ge_go (a := w.heap.size) hg (below_size z2_19)); have GE152 := GW152; have NB151_152 := mk0 (nb_lt hg (blk_ltB BK151 (pkb BK151))); have NB152_151 := mk0 (nb_gt hg (blk_ltB BK151 (pkb BK151))); clear BK151 HB; have BK151 := n0_; have HB := n1_; have BK152 := n2_; clear n0_ n1_ n2_ ; clear hb hbox hg) | ((with_reducible refine gate_dst (N := 3) rfl ?_); refine boxz (cs := #[.int .i64 0, .int .i64 0, .int .i64 0, .int .i64 0]) (t := 65) rfl ?_; intro gb153 hg w4 hbox hb; have n0_ := mk0 (blk_belowB BK151 (pkb BK151) hb); have n1_ := mk0 (blk_belowB BK152 (pkb BK152) hb); have n2_ := mk0 (below_step z2_13 hb); have n3_ := mk0 (hbox); have GW153 := mk0 (ge_go (a := w.heap.size) hg (below_size z2_13)); have GE153 := GW153; have NB151_153 := mk0 (nb_lt hg (blk_ltB BK151 (pkb BK151))); have NB153_151 := mk0 (nb_gt hg (blk_ltB BK151 (pkb BK151))); have NB152_153 := mk0 (nb_lt hg (blk_ltB BK152 (pkb BK152))); have NB153_152 := mk0 (nb_gt hg (blk_ltB BK152 (pkb BK152))); clear BK151 BK152 HB; have BK151 := n0_; have BK152 := n1_; have HB := n2_; have BK153 := n3_; clear n0_ n1_ n2_ n3_ ; clear hb hbox hg; have hnb5 := NB151_152.out; have hnc5 := NB152_151.out; have hnb6 := NB151_153.out; have hnc6 := NB153_151.out; obtain ⟨_, _, _, _, _, _, _, _⟩ := be_4 BK151.out; have hnb8 := NB153_152.out; have hnc8 := NB152_153.out; obtain ⟨_, _, _, _, _, _, _, _⟩ := be_4 BK153.out; obtain ⟨_, _, _, _, _, _, _, _⟩ := be_4 BK152.out))
 refine bodyPost_ret (results_cell_row rfl _ _ gb152 65 #[.int .i64 a0_0, .int .i64 a0_1, .int .i64 a0_2, .int .i64 a0_3] (0, 0) _ rfl (by apply blk_fin; (focus ((with_reducible repeat (first | apply blk_putQ | refine blk_farQ NB152_153.out ?_ | refine blk_drewN ?_ _ | refine blk_drew ?_ | refine blk_alloc ?_ _)); exact BK152.out)); first | (simp only [List.setIfInBounds_toArray, List.set_cons_zero, List.set_cons_succ]; done) | rfl) Try.underlying65 rfl (by kernel_rfl)) rfl ?_
 exact ⟨z2_7, (by repeat (first | (with_reducible first | exact HB.out | apply below_alloc | apply pw_below_drewN | apply below_drew1 | refine below_set ?_ GE151.out | refine below_set ?_ GE152.out | refine below_set ?_ GE153.out) | exact HB.out))⟩

/-! ### laws_toPaint: function 103 -/
def laws_toPaint.f (a0_0 : Int) (a0_1 : Int) (a0_2 : Int) (a0_3 : Int) (a0_4 : Int) (a0_5 : Int) (a0_6 : Int) (a0_7 : Int) (a0_8 : Int) (a0_9 : Int) (a0_10 : Int) (a0_11 : Int) (a0_12 : Int) : Option (Int × Int × Int × Int × Int × Int × Int × Int × Int × Int × Int × Int × Int) := (laws_toColor.f a0_1 a0_2 a0_3 a0_4).bind fun bt157 => ((laws_toColor.f a0_5 a0_6 a0_7 a0_8).bind fun bt161 => ((laws_toPoint.f a0_9 a0_10).bind fun bt165 => ((laws_toPoint.f a0_11 a0_12).bind fun bt167 => (some (a0_0, bt157.1, bt157.2.1, bt157.2.2.1, bt157.2.2.2, bt161.1, bt161.2.1, bt161.2.2.1, bt161.2.2.2, bt165.1, bt165.2, bt167.1, bt167.2)))))
set_option maxHeartbeats 8000000 in
set_option maxRecDepth 100000 in
theorem laws_toPaint.calls (a0_0 : Int) (a0_1 : Int) (a0_2 : Int) (a0_3 : Int) (a0_4 : Int) (a0_5 : Int) (a0_6 : Int) (a0_7 : Int) (a0_8 : Int) (a0_9 : Int) (a0_10 : Int) (a0_11 : Int) (a0_12 : Int) (r1 : Int) (r2 : Int) (r3 : Int) (r4 : Int) (r5 : Int) (r6 : Int) (r7 : Int) (r8 : Int) (r9 : Int) (r10 : Int) (r11 : Int) (r12 : Int) (r13 : Int) (w : World) (h : laws_toPaint.f a0_0 a0_1 a0_2 a0_3 a0_4 a0_5 a0_6 a0_7 a0_8 a0_9 a0_10 a0_11 a0_12 = some (r1, r2, r3, r4, r5, r6, r7, r8, r9, r10, r11, r12, r13)) :
  Calls Try.prog 103 #[.agg #[.int .i64 a0_0, .int .i64 a0_1, .int .i64 a0_2, .int .i64 a0_3, .int .i64 a0_4, .int .i64 a0_5, .int .i64 a0_6, .int .i64 a0_7, .int .i64 a0_8, .int .i64 a0_9, .int .i64 a0_10, .int .i64 a0_11, .int .i64 a0_12]] w fun e w' => e = .returned (.agg #[.int .i64 r1, .int .i64 r2, .int .i64 r3, .int .i64 r4, .int .i64 r5, .int .i64 r6, .int .i64 r7, .int .i64 r8, .int .i64 r9, .int .i64 r10, .int .i64 r11, .int .i64 r12, .int .i64 r13]) ∧ Below w.heap.size w w' := by
 have hu116 := Try.underlying116
 have hu67 := Try.underlying67
 have hu114 := Try.underlying114
 have hu65 := Try.underlying65
 have hu89 := Try.underlying89
 have hu29 := Try.underlying29
 have HB := mk0 (Below.refl w.heap.size w)
 have H : ((laws_toColor.f a0_1 a0_2 a0_3 a0_4).bind fun bt157 => ((laws_toColor.f a0_5 a0_6 a0_7 a0_8).bind fun bt161 => ((laws_toPoint.f a0_9 a0_10).bind fun bt165 => ((laws_toPoint.f a0_11 a0_12).bind fun bt167 => (some (a0_0, bt157.1, bt157.2.1, bt157.2.2.1, bt157.2.2.2, bt161.1, bt161.2.1, bt161.2.2.1, bt161.2.2.2, bt165.1, bt165.2, bt167.1, bt167.2)))))) = some (r1, r2, r3, r4, r5, r6, r7, r8, r9, r10, r11, r12, r13) := h
 clear h
 replace H := Option.bind_eq_some_iff.mp H
 obtain ⟨⟨t157, t158, t159, t160⟩, A20, H⟩ := H
 try dsimp only at H
 have A2 := mk0 A20
 clear A20
 replace H := Option.bind_eq_some_iff.mp H
 obtain ⟨⟨t161, t162, t163, t164⟩, A30, H⟩ := H
 try dsimp only at H
 have A3 := mk0 A30
 clear A30
 replace H := Option.bind_eq_some_iff.mp H
 obtain ⟨⟨t165, t166⟩, A40, H⟩ := H
 try dsimp only at H
 have A4 := mk0 A40
 clear A40
 replace H := Option.bind_eq_some_iff.mp H
 obtain ⟨⟨t167, t168⟩, A50, H⟩ := H
 try dsimp only at H
 have A5 := mk0 A50
 clear A50
 simp only [Option.some.injEq, Prod.mk.injEq] at H
 obtain ⟨rfl, rfl, rfl, rfl, rfl, rfl, rfl, rfl, rfl, rfl, rfl, rfl, rfl⟩ := H
 go_enter Try.func103, Try.ntmps103
 go_wp2_with (first | ((with_reducible refine gate_dst (N := 1) rfl ?_); refine boxz (cs := #[.int .i64 a0_0, .int .i64 a0_1, .int .i64 a0_2, .int .i64 a0_3, .int .i64 a0_4, .int .i64 a0_5, .int .i64 a0_6, .int .i64 a0_7, .int .i64 a0_8, .int .i64 a0_9, .int .i64 a0_10, .int .i64 a0_11, .int .i64 a0_12]) (t := 116) rfl ?_; intro gb154 hg w6 hbox hb; have n0_ := mk0 (below_step z2_0 hb); have n1_ := mk0 (hbox); have GW154 := mk0 (ge_go (a := w.heap.size) hg (below_size z2_0)); have GE154 := GW154; clear HB; have HB := n0_; have BK154 := n1_; clear n0_ n1_ ; clear hb hbox hg) | ((with_reducible refine gate_dst (N := 2) rfl ?_); refine boxz (cs := #[.int .i64 0, .int .i64 0, .int .i64 0, .int .i64 0, .int .i64 0, .int .i64 0, .int .i64 0, .int .i64 0, .int .i64 0, .int .i64 0, .int .i64 0, .int .i64 0, .int .i64 0]) (t := 67) rfl ?_; intro gb155 hg w7 hbox hb; have n0_ := mk0 (blk_belowB BK154 (pkb BK154) hb); have n1_ := mk0 (below_step z2_20 hb); have n2_ := mk0 (hbox); have GW155 := mk0 (ge_go (a := w.heap.size) hg (below_size z2_20)); have GE155 := GW155; have NB154_155 := mk0 (nb_lt hg (blk_ltB BK154 (pkb BK154))); have NB155_154 := mk0 (nb_gt hg (blk_ltB BK154 (pkb BK154))); clear BK154 HB; have BK154 := n0_; have HB := n1_; have BK155 := n2_; clear n0_ n1_ n2_ ; clear hb hbox hg) | ((with_reducible refine gate_dst (N := 3) rfl ?_); refine boxz (cs := #[.int .i64 0, .int .i64 0, .int .i64 0, .int .i64 0, .int .i64 0, .int .i64 0, .int .i64 0, .int .i64 0, .int .i64 0, .int .i64 0, .int .i64 0, .int .i64 0, .int .i64 0]) (t := 67) rfl ?_; intro gb156 hg w8 hbox hb; have n0_ := mk0 (blk_belowB BK154 (pkb BK154) hb); have n1_ := mk0 (blk_belowB BK155 (pkb BK155) hb); have n2_ := mk0 (below_step z2_14 hb); have n3_ := mk0 (hbox); have GW156 := mk0 (ge_go (a := w.heap.size) hg (below_size z2_14)); have GE156 := GW156; have NB154_156 := mk0 (nb_lt hg (blk_ltB BK154 (pkb BK154))); have NB156_154 := mk0 (nb_gt hg (blk_ltB BK154 (pkb BK154))); have NB155_156 := mk0 (nb_lt hg (blk_ltB BK155 (pkb BK155))); have NB156_155 := mk0 (nb_gt hg (blk_ltB BK155 (pkb BK155))); clear BK154 BK155 HB; have BK154 := n0_; have BK155 := n1_; have HB := n2_; have BK156 := n3_; clear n0_ n1_ n2_ n3_ ; clear hb hbox hg; have hnb9 := NB154_155.out; have hnc9 := NB155_154.out; have hnb10 := NB154_156.out; have hnc10 := NB156_154.out; obtain ⟨_, _, _, _, _, _, _, _, _, _, _, _, _, _, _, _, _, _, _, _, _, _, _, _, _, _⟩ := be_13 BK154.out; have hnb12 := NB156_155.out; have hnc12 := NB155_156.out; obtain ⟨_, _, _, _, _, _, _, _, _, _, _, _, _, _, _, _, _, _, _, _, _, _, _, _, _, _⟩ := be_13 BK156.out) | ((with_reducible refine gate_callee (f := 113) rfl ?_); refine goesL_ (some 9) rfl rfl Try.func113 (by kernel_rfl) rfl #[.agg #[.int .i64 a0_1, .int .i64 a0_2, .int .i64 a0_3, .int .i64 a0_4]] rfl z2_6 ?_; (with_reducible refine (laws_toColor.calls a0_1 a0_2 a0_3 a0_4 t157 t158 t159 t160 _ A2.out).mono ?_); rintro e w14 ⟨rfl, hb⟩; refine ⟨_, rfl, ?_⟩; have n0_ := mk0 (blk_belowB BK154 (by (with_reducible repeat (first | refine blk_drewN ?_ _ | refine blk_drew ?_ | refine blk_alloc ?_ _)); refine blk_far ?_ NB154_156.out _; (with_reducible repeat (first | refine blk_drewN ?_ _ | refine blk_drew ?_ | refine blk_alloc ?_ _)); exact BK154.out) hb); have n1_ := mk0 (blk_belowB BK155 (by (with_reducible repeat (first | refine blk_drewN ?_ _ | refine blk_drew ?_ | refine blk_alloc ?_ _)); refine blk_far ?_ NB155_156.out _; (with_reducible repeat (first | refine blk_drewN ?_ _ | refine blk_drew ?_ | refine blk_alloc ?_ _)); exact BK155.out) hb); have n2_ := mk0 (blk_below (g := gb156) (o := .cells #[.int .i64 a0_0, .int .i64 0, .int .i64 0, .int .i64 0, .int .i64 0, .int .i64 0, .int .i64 0, .int .i64 0, .int .i64 0, .int .i64 0, .int .i64 0, .int .i64 0, .int .i64 0] 67 (0, 0)) z2_4 hb); have n3_ := mk0 (below_step z2_5 hb); clear BK154 BK155 BK156 HB; have BK154 := n0_; have BK155 := n1_; have BK156 := n2_; have HB := n3_; clear n0_ n1_ n2_ n3_; (try clear hb); obtain ⟨_, _, _, _, _, _, _, _, _, _, _, _, _, _, _, _, _, _, _, _, _, _, _, _, _, _⟩ := be_13 BK156.out; obtain ⟨_, _, _, _, _, _, _, _, _, _, _, _, _, _, _, _, _, _, _, _, _, _, _, _, _, _⟩ := be_13 BK154.out) | ((with_reducible refine gate_callee (f := 113) rfl ?_); refine goesL_ (some 13) rfl rfl Try.func113 (by kernel_rfl) rfl #[.agg #[.int .i64 a0_5, .int .i64 a0_6, .int .i64 a0_7, .int .i64 a0_8]] rfl z2_6 ?_; (with_reducible refine (laws_toColor.calls a0_5 a0_6 a0_7 a0_8 t161 t162 t163 t164 _ A3.out).mono ?_); rintro e w17 ⟨rfl, hb⟩; refine ⟨_, rfl, ?_⟩; have n0_ := mk0 (blk_belowB BK154 z2_8 hb); have n1_ := mk0 (blk_belowB BK155 z2_9 hb); have n2_ := mk0 (blk_below (g := gb156) (o := .cells #[.int .i64 a0_0, .int .i64 t157, .int .i64 t158, .int .i64 t159, .int .i64 t160, .int .i64 0, .int .i64 0, .int .i64 0, .int .i64 0, .int .i64 0, .int .i64 0, .int .i64 0, .int .i64 0] 67 (0, 0)) z2_4 hb); have n3_ := mk0 (below_step z2_5 hb); clear BK154 BK155 BK156 HB; have BK154 := n0_; have BK155 := n1_; have BK156 := n2_; have HB := n3_; clear n0_ n1_ n2_ n3_; (try clear hb); obtain ⟨_, _, _, _, _, _, _, _, _, _, _, _, _, _, _, _, _, _, _, _, _, _, _, _, _, _⟩ := be_13 BK156.out; obtain ⟨_, _, _, _, _, _, _, _, _, _, _, _, _, _, _, _, _, _, _, _, _, _, _, _, _, _⟩ := be_13 BK154.out) | ((with_reducible refine gate_callee (f := 63) rfl ?_); refine goesL_ (some 17) rfl rfl Try.func63 (by kernel_rfl) rfl #[.agg #[.int .i64 a0_9, .int .i64 a0_10]] rfl z2_6 ?_; (with_reducible refine (laws_toPoint.calls a0_9 a0_10 t165 t166 _ A4.out).mono ?_); rintro e w20 ⟨rfl, hb⟩; refine ⟨_, rfl, ?_⟩; have n0_ := mk0 (blk_belowB BK154 z2_8 hb); have n1_ := mk0 (blk_belowB BK155 z2_9 hb); have n2_ := mk0 (blk_below (g := gb156) (o := .cells #[.int .i64 a0_0, .int .i64 t157, .int .i64 t158, .int .i64 t159, .int .i64 t160, .int .i64 t161, .int .i64 t162, .int .i64 t163, .int .i64 t164, .int .i64 0, .int .i64 0, .int .i64 0, .int .i64 0] 67 (0, 0)) z2_4 hb); have n3_ := mk0 (below_step z2_5 hb); clear BK154 BK155 BK156 HB; have BK154 := n0_; have BK155 := n1_; have BK156 := n2_; have HB := n3_; clear n0_ n1_ n2_ n3_; (try clear hb); obtain ⟨_, _, _, _, _, _, _, _, _, _, _, _, _, _, _, _, _, _, _, _, _, _, _, _, _, _⟩ := be_13 BK156.out; obtain ⟨_, _, _, _, _, _, _, _, _, _, _, _, _, _, _, _, _, _, _, _, _, _, _, _, _, _⟩ := be_13 BK154.out) | ((with_reducible refine gate_callee (f := 63) rfl ?_); refine goesL_ (some 21) rfl rfl Try.func63 (by kernel_rfl) rfl #[.agg #[.int .i64 a0_11, .int .i64 a0_12]] rfl z2_6 ?_; (with_reducible refine (laws_toPoint.calls a0_11 a0_12 t167 t168 _ A5.out).mono ?_); rintro e w23 ⟨rfl, hb⟩; refine ⟨_, rfl, ?_⟩; have n0_ := mk0 (blk_belowB BK154 (by (with_reducible repeat (first | refine blk_drewN ?_ _ | refine blk_drew ?_ | refine blk_alloc ?_ _)); refine blk_far ?_ NB154_156.out _; (with_reducible repeat (first | refine blk_drewN ?_ _ | refine blk_drew ?_ | refine blk_alloc ?_ _)); refine blk_far ?_ NB154_156.out _; (with_reducible repeat (first | refine blk_drewN ?_ _ | refine blk_drew ?_ | refine blk_alloc ?_ _)); exact BK154.out) hb); have n1_ := mk0 (blk_belowB BK155 z2_15 hb); have n2_ := mk0 (blk_below (g := gb156) (o := .cells #[.int .i64 a0_0, .int .i64 t157, .int .i64 t158, .int .i64 t159, .int .i64 t160, .int .i64 t161, .int .i64 t162, .int .i64 t163, .int .i64 t164, .int .i64 t165, .int .i64 t166, .int .i64 0, .int .i64 0] 67 (0, 0)) z2_4 hb); have n3_ := mk0 (below_step z2_5 hb); clear BK154 BK155 BK156 HB; have BK154 := n0_; have BK155 := n1_; have BK156 := n2_; have HB := n3_; clear n0_ n1_ n2_ n3_; (try clear hb); obtain ⟨_, _, _, _, _, _, _, _, _, _, _, _, _, _, _, _, _, _, _, _, _, _, _, _, _, _⟩ := be_13 BK156.out; obtain ⟨_, _, _, _, _, _, _, _, _, _, _, _, _, _, _, _, _, _, _, _, _, _, _, _, _, _⟩ := be_13 BK155.out) | ((with_reducible refine gate_load (t := 67) rfl ?_); refine load_event (t := 67) rfl rfl (p := ⟨gb156, 0, none⟩) rfl [.int .i64 a0_0, .int .i64 t157, .int .i64 t158, .int .i64 t159, .int .i64 t160, .int .i64 t161, .int .i64 t162, .int .i64 t163, .int .i64 t164, .int .i64 t165, .int .i64 t166, .int .i64 t167, .int .i64 t168] _ (lie_of_blk (cs := #[.int .i64 a0_0, .int .i64 t157, .int .i64 t158, .int .i64 t159, .int .i64 t160, .int .i64 t161, .int .i64 t162, .int .i64 t163, .int .i64 t164, .int .i64 t165, .int .i64 t166, .int .i64 t167, .int .i64 t168]) (t := 67) z2_4) Try.underlying67 rfl (show (Try.prog.info? 67).map (·.size) = some 13 by kernel_rfl) ?_) | ((with_reducible refine gate_store (t := 67) (p := 2) rfl ?_); refine wstore_event rfl (t := 67) rfl (g := gb155) rfl #[.int .i64 a0_0, .int .i64 t157, .int .i64 t158, .int .i64 t159, .int .i64 t160, .int .i64 t161, .int .i64 t162, .int .i64 t163, .int .i64 t164, .int .i64 t165, .int .i64 t166, .int .i64 t167, .int .i64 t168] rfl (cs := #[.int .i64 0, .int .i64 0, .int .i64 0, .int .i64 0, .int .i64 0, .int .i64 0, .int .i64 0, .int .i64 0, .int .i64 0, .int .i64 0, .int .i64 0, .int .i64 0, .int .i64 0]) z2_15 rfl (show (Try.prog.info? 67).map (·.size) = some 13 by kernel_rfl) rfl ?_; simp only [World.setCells, Nat.reduceAdd]) | ((with_reducible refine gate_load (t := 67) rfl ?_); refine load_blk (t := 67) rfl rfl BK155 rfl z2_21 Try.underlying67 rfl (show (Try.prog.info? 67).map (·.size) = some 13 by kernel_rfl) rfl ?_) | ((with_reducible refine gate_store (t := 67) rfl ?_); refine wstore_blk (t := 67) rfl rfl BK155 rfl rfl z2_21 rfl (show (Try.prog.info? 67).map (·.size) = some 13 by kernel_rfl) rfl ?_; simp only [World.setCells, Nat.reduceAdd]) | ((with_reducible refine gate_load (t := 67) rfl ?_); refine load_blk (t := 67) rfl rfl BK156 rfl z2_22 Try.underlying67 rfl (show (Try.prog.info? 67).map (·.size) = some 13 by kernel_rfl) rfl ?_) | ((with_reducible refine gate_store (t := 67) rfl ?_); refine wstore_blk (t := 67) rfl rfl BK156 rfl rfl z2_22 rfl (show (Try.prog.info? 67).map (·.size) = some 13 by kernel_rfl) rfl ?_; simp only [World.setCells, Nat.reduceAdd]))
 refine bodyPost_ret (results_cell_row rfl _ _ gb155 67 #[.int .i64 a0_0, .int .i64 t157, .int .i64 t158, .int .i64 t159, .int .i64 t160, .int .i64 t161, .int .i64 t162, .int .i64 t163, .int .i64 t164, .int .i64 t165, .int .i64 t166, .int .i64 t167, .int .i64 t168] (0, 0) _ rfl (by apply blk_fin; (focus ((with_reducible repeat (first | apply blk_putQ | refine blk_farQ NB155_156.out ?_ | refine blk_drewN ?_ _ | refine blk_drew ?_ | refine blk_alloc ?_ _)); exact BK155.out)); first | (simp only [List.setIfInBounds_toArray, List.set_cons_zero, List.set_cons_succ]; done) | rfl) Try.underlying67 rfl (by kernel_rfl)) rfl ?_
 exact ⟨z2_7, z2_5⟩

end Go.Proofs.Ytjfienkbcacijaa.MFnExactKidsOf
