/- Functions of the program as Lean functions, and the proof that a call comes to just these: machine text of this session's own program (myprint.py). -/
import Derived.Test.YtgdlbilpfmjeaaaMFnExactDepthOfx0
namespace Go.Proofs.Ytgdlbilpfmjeaaa.MFnExactDepthOf
open Go.RowKit Go.Proofs.YtgdlbilpfmjeaaaW.PrintWords Go.Proofs.YtgdlbilpfmjeaaaW.PrintLast Go.Proofs.YtgdlbilpfmjeaaaW.PrintMore
attribute [local go_sem] max2_int min2_int max_two min_two max_three min_three max_four min_four   -- for this text's walks alone
set_option linter.unusedVariables false
set_option linter.unusedSimpArgs false

theorem z5_0 {P : Prop} (h : P := by repeat (first | (with_reducible first | exact HB.out | apply below_alloc | apply pw_below_drewN | apply below_drew1) | exact HB.out)) : P := h
theorem z5_1 {P : Prop} (h : P := by (try simp only [List.map_toArray, List.map_cons, List.map_nil]); first | done | rfl | (simp only [List.length_drop, List.length_take]; rfl)) : P := h
theorem z5_2 {P : Prop} (h : P := by (with_reducible repeat (first | refine blk_drewN ?_ _ | refine blk_drew ?_ | refine blk_alloc ?_ _)); exact BK288.out) : P := h
theorem z5_3 {P : Prop} (h : P := by repeat (first | (with_reducible first | exact HB.out | apply below_alloc | apply pw_below_drewN | apply below_drew1 | refine below_set ?_ GE288.out) | exact HB.out)) : P := h
theorem z5_4 {P : Prop} (h : P := by repeat (first | (with_reducible first | exact HB.out | apply below_alloc | apply pw_below_drewN | apply below_drew1 | refine below_set ?_ GE291.out) | exact HB.out)) : P := h
theorem z5_5 {P : Prop} (h : P := by repeat (first | (with_reducible first | exact HB.out | apply below_alloc | apply pw_below_drewN | apply below_drew1 | refine below_set ?_ GE1.out) | exact HB.out)) : P := h
theorem z5_6 {P : Prop} (h : P := by (with_reducible repeat (first | refine blk_drewN ?_ _ | refine blk_drew ?_ | refine blk_alloc ?_ _)); exact BK291.out) : P := h
theorem z5_7 {P : Prop} (h : P := by (with_reducible repeat (first | refine blk_drewN ?_ _ | refine blk_drew ?_ | refine blk_alloc ?_ _)); exact BK1.out) : P := h
theorem z5_8 {P : Prop} (h : P := by repeat (first | (with_reducible first | exact HB.out | apply below_alloc | apply pw_below_drewN | apply below_drew1 | refine below_set ?_ GE282.out) | exact HB.out)) : P := h
theorem z5_9 {P : Prop} (h : P := by repeat (first | (with_reducible first | exact HB.out | apply below_alloc | apply pw_below_drewN | apply below_drew1 | refine below_set ?_ GE2.out) | exact HB.out)) : P := h
theorem z5_10 {P : Prop} (h : P := by (with_reducible repeat (first | refine blk_drewN ?_ _ | refine blk_drew ?_ | refine blk_alloc ?_ _)); exact BK282.out) : P := h
theorem z5_11 {P : Prop} (h : P := by (with_reducible repeat (first | refine blk_drewN ?_ _ | refine blk_drew ?_ | refine blk_alloc ?_ _)); exact BK2.out) : P := h
/-! ### spec_NodeAt: function 49 -/
def spec_NodeAt.l0 : Nat → Int → Int → List (S96) → Option (Int)
 | 0, _, _, _ => none
 | k + 1, x1, x5, x281000 => if x5 < (x281000.length : Int) then (if 0 ≤ x5 then (if ((rd_T96 x281000 x5).f0) = x1 then (some x5) else (spec_NodeAt.l0 k x1 (wrap64 (x5 + 1)) x281000)) else (none)) else (some (-1))
def spec_NodeAt.f (k : Nat) (l0_0 : List (S96)) (a1 : Int) : Option (Int) := spec_NodeAt.l0 k a1 0 l0_0
theorem spec_NodeAt.mono_l : ∀ k, (∀ y0 y1 y2, LeO (spec_NodeAt.l0 k y0 y1 y2) (spec_NodeAt.l0 (k + 1) y0 y1 y2))
 | 0 => fun _ _ _ r h => by simp [spec_NodeAt.l0] at h
 | k + 1 => by
  have ih0 := spec_NodeAt.mono_l k
  ·intro y0 y1 y2
   unfold spec_NodeAt.l0
   repeat' first
   | (with_reducible exact ih0 _ _ _)
   | (with_reducible exact LeO.refl _)
   | (with_reducible exact LeO.none _)
   | (with_reducible refine LeO.ite ?_ ?_)
   | (with_reducible refine LeO.bind ?_ (fun _ => ?_))
   | exact ih0 _ _ _
   | exact LeO.none _
   | refine LeO.ite ?_ ?_
   | refine LeO.bind ?_ (fun _ => ?_)
theorem spec_NodeAt.mono : ∀ a0 a1 k, LeO (spec_NodeAt.f k a0 a1) (spec_NodeAt.f (k + 1) a0 a1) := by
 intro a0 a1 k
 have ih0 := spec_NodeAt.mono_l k
 unfold spec_NodeAt.f
 repeat' first
   | (with_reducible exact ih0 _ _ _)
   | (with_reducible exact LeO.refl _)
   | (with_reducible exact LeO.none _)
   | (with_reducible refine LeO.ite ?_ ?_)
   | (with_reducible refine LeO.bind ?_ (fun _ => ?_))
   | exact ih0 _ _ _
   | exact LeO.none _
   | refine LeO.ite ?_ ?_
   | refine LeO.bind ?_ (fun _ => ?_)
set_option maxHeartbeats 8000000 in
set_option maxRecDepth 100000 in
theorem spec_NodeAt.calls (k : Nat) (A0_0 : Option Addr) (c0_0 : Nat) (l0_0 : List (S96)) (a1 : Int) (r : Int) (w : World) (hr0_0 : Kd.C k96 w A0_0 l0_0.length l0_0) (hc0_0 : l0_0.length ≤ c0_0) (h : spec_NodeAt.f k l0_0 a1 = some r) :
  Calls Try.prog 49 #[.agg #[.slice A0_0 l0_0.length c0_0], .int .i64 a1] w fun e w' => e = .returned (.int .i64 r) ∧ Below w.heap.size w w' := by
 have hu77 := Try.underlying77
 have HR0_0 := Aside0.mk hr0_0
 have HC0_0 := Aside0.mk hc0_0
 clear hr0_0 hc0_0
 have HB := Aside0.mk (Below.refl w.heap.size w)
 have H : (spec_NodeAt.l0 k a1 0 l0_0) = some r := h
 clear h
 have H' := Aside0.mk H
 clear H
 go_enter Try.func49, Try.ntmps49
 go_wp2_with (first | ((with_reducible refine gate_dst (N := 2) rfl ?_); refine box_event ?hg (N := 2) ?hd (cs := #[.slice A0_0 l0_0.length c0_0]) (t := 77) ?hr ?_; (case hd => rfl); (case hg => rfl); (case hr => first | (go_simp; done) | (go_simp; rfl)); intro gb280 hg w3 hbox hb; have n0_ := Aside0.mk (below_step z5_0 hb); have n1_ := Aside0.mk (hbox); have n2_ := Aside0.mk ((by rw [hg]; exact (below_size z5_0) : w.heap.size ≤ gb280)); have n3_ := Aside0.mk ((by rw [hg]; exact (below_size z5_0) : w.heap.size ≤ gb280)); clear HB; have HB := n0_; have BK280 := n1_; have GW280 := n2_; have GE280 := n3_; clear n0_ n1_ n2_ n3_; clear hb hbox hg))
 go_loopg [5] k (fun kq v5 w' => ∃ (x5_1 : Int), v5 = .int .i64 x5_1 ∧ Aside0 (spec_NodeAt.l0 kq a1 x5_1 l0_0 = some r) ∧ Aside0 (kq ≤ k) ∧ Aside0 (w'.heap[gb280]? = some (.cells #[(.slice A0_0 l0_0.length c0_0)] 77 (0, 0))) ∧ Aside0 (Below w.heap.size w w'))
 case atStart => exact ⟨(0), (by first | rfl | (simp; done) | (simp [*]; done)), H', ⟨Nat.le_refl _⟩, ⟨by (with_reducible repeat (first | refine blk_drewN ?_ _ | refine blk_drew ?_ | refine blk_alloc ?_ _)); exact BK280.out⟩, ⟨by repeat (first | (with_reducible first | exact HB.out | apply below_alloc | apply pw_below_drewN | apply below_drew1 | refine below_set ?_ GE280.out) | exact HB.out)⟩⟩
 case round =>
  clear H'
  try clear p2
  obtain ⟨x5_1, rfl, HA, HK1, BK280, HB⟩ := hrel
  cases gk with
  | zero => exact absurd HA.out (by simp [spec_NodeAt.l0])
  | succ k1 =>
   have H := HA.out; clear HA
   simp only [spec_NodeAt.l0] at H
   by_cases c4 : x5_1 < (l0_0.length : Int)
   ·rw [if_pos c4] at H
    have c4b0 : decide (x5_1 < (l0_0.length : Int)) = true := decide_eq_true c4
    clear c4
    by_cases c5 : 0 ≤ x5_1
    ·rw [if_pos c5] at H
     have c5b0 : decide (0 ≤ x5_1) = true := decide_eq_true c5
     clear c5
     by_cases c6 : ((rd_T96 l0_0 x5_1).f0) = a1
     ·rw [if_pos c6] at H
      have c6b0 : (((rd_T96 l0_0 x5_1).f0) == a1) = true := beq_iff_eq.mpr c6
      have c6b1 : (((rd_T96 l0_0 x5_1).f0) != a1) = false := bne_eq_false_iff_eq.mpr c6
      clear c6
      obtain rfl := Option.some.inj H
      simp only [Option.some.injEq, Prod.mk.injEq] at H
      obtain ⟨rfl⟩ := H
      have hcz7_0 : wr.cell? ⟨gb280, 0, none⟩ = some (.slice A0_0 l0_0.length c0_0) := (blk_cell BK280.out 0).trans rfl
      have hfz7_0 := blk_frozen BK280.out 0
      have p281 : 0 ≤ (x5_1 : Int) := of_decide_eq_true (by first | (with_reducible assumption) | assumption)
      have q281 : x5_1 < (l0_0.length : Int) := of_decide_eq_true (by first | (with_reducible assumption) | assumption)
      obtain ⟨ad281, A281_9, c281_9, A281_10, c281_10, A281_13, c281_13, A281_29, c281_29, A281_30, c281_30, e281, hx281_0, hx281_1, hx281_2, hx281_3, hx281_4, hx281_5, hx281_6, hx281_7, hx281_8, hx281_9, hx281_10, hx281_11, hx281_12, hx281_13, hx281_14, hx281_15, hx281_16, hx281_17, hx281_18, hx281_19, hx281_20, hx281_21, hx281_22, hx281_23, hx281_24, hx281_25, hx281_26, hx281_27, hx281_28, hx281_29, hx281_30, hl281_9, hi281_9, hl281_10, hi281_10, hl281_13, hi281_13, hl281_29, hi281_29, hl281_30, hi281_30⟩ := at_T96 HR0_0.out x5_1 p281 q281
      cases e281
      replace hx281_0 := (HB.out.cell (World.block_lt_of_cell? w _ hx281_0)).trans hx281_0
      replace hx281_1 := (HB.out.cell (World.block_lt_of_cell? w _ hx281_1)).trans hx281_1
      replace hx281_2 := (HB.out.cell (World.block_lt_of_cell? w _ hx281_2)).trans hx281_2
      replace hx281_3 := (HB.out.cell (World.block_lt_of_cell? w _ hx281_3)).trans hx281_3
      replace hx281_4 := (HB.out.cell (World.block_lt_of_cell? w _ hx281_4)).trans hx281_4
      replace hx281_5 := (HB.out.cell (World.block_lt_of_cell? w _ hx281_5)).trans hx281_5
      replace hx281_6 := (HB.out.cell (World.block_lt_of_cell? w _ hx281_6)).trans hx281_6
      replace hx281_7 := (HB.out.cell (World.block_lt_of_cell? w _ hx281_7)).trans hx281_7
      replace hx281_8 := (HB.out.cell (World.block_lt_of_cell? w _ hx281_8)).trans hx281_8
      replace hx281_9 := (HB.out.cell (World.block_lt_of_cell? w _ hx281_9)).trans hx281_9
      replace hx281_10 := (HB.out.cell (World.block_lt_of_cell? w _ hx281_10)).trans hx281_10
      replace hx281_11 := (HB.out.cell (World.block_lt_of_cell? w _ hx281_11)).trans hx281_11
      replace hx281_12 := (HB.out.cell (World.block_lt_of_cell? w _ hx281_12)).trans hx281_12
      replace hx281_13 := (HB.out.cell (World.block_lt_of_cell? w _ hx281_13)).trans hx281_13
      replace hx281_14 := (HB.out.cell (World.block_lt_of_cell? w _ hx281_14)).trans hx281_14
      replace hx281_15 := (HB.out.cell (World.block_lt_of_cell? w _ hx281_15)).trans hx281_15
      replace hx281_16 := (HB.out.cell (World.block_lt_of_cell? w _ hx281_16)).trans hx281_16
      replace hx281_17 := (HB.out.cell (World.block_lt_of_cell? w _ hx281_17)).trans hx281_17
      replace hx281_18 := (HB.out.cell (World.block_lt_of_cell? w _ hx281_18)).trans hx281_18
      replace hx281_19 := (HB.out.cell (World.block_lt_of_cell? w _ hx281_19)).trans hx281_19
      replace hx281_20 := (HB.out.cell (World.block_lt_of_cell? w _ hx281_20)).trans hx281_20
      replace hx281_21 := (HB.out.cell (World.block_lt_of_cell? w _ hx281_21)).trans hx281_21
      replace hx281_22 := (HB.out.cell (World.block_lt_of_cell? w _ hx281_22)).trans hx281_22
      replace hx281_23 := (HB.out.cell (World.block_lt_of_cell? w _ hx281_23)).trans hx281_23
      replace hx281_24 := (HB.out.cell (World.block_lt_of_cell? w _ hx281_24)).trans hx281_24
      replace hx281_25 := (HB.out.cell (World.block_lt_of_cell? w _ hx281_25)).trans hx281_25
      replace hx281_26 := (HB.out.cell (World.block_lt_of_cell? w _ hx281_26)).trans hx281_26
      replace hx281_27 := (HB.out.cell (World.block_lt_of_cell? w _ hx281_27)).trans hx281_27
      replace hx281_28 := (HB.out.cell (World.block_lt_of_cell? w _ hx281_28)).trans hx281_28
      replace hx281_29 := (HB.out.cell (World.block_lt_of_cell? w _ hx281_29)).trans hx281_29
      replace hx281_30 := (HB.out.cell (World.block_lt_of_cell? w _ hx281_30)).trans hx281_30
      have HR281_9 := Aside0.mk hi281_9
      have HC281_9 := Aside0.mk hl281_9
      clear hi281_9 hl281_9
      have HR281_10 := Aside0.mk hi281_10
      have HC281_10 := Aside0.mk hl281_10
      clear hi281_10 hl281_10
      have HR281_13 := Aside0.mk hi281_13
      have HC281_13 := Aside0.mk hl281_13
      clear hi281_13 hl281_13
      have HR281_29 := Aside0.mk hi281_29
      have HC281_29 := Aside0.mk hl281_29
      clear hi281_29 hl281_29
      have HR281_30 := Aside0.mk hi281_30
      have HC281_30 := Aside0.mk hl281_30
      clear hi281_30 hl281_30
      replace p281 := eq_true p281
      replace q281 := eq_true q281
      go_wp2_with (first | ((with_reducible refine gate_load (t := 96) rfl ?_); refine load_event (t := 96) rfl rfl (p := ad281.add (x5_1.toNat * 31)) rfl [.int .i64 (rd_T96 l0_0 x5_1).f0, .int .i64 (rd_T96 l0_0 x5_1).f1, .bool (rd_T96 l0_0 x5_1).f2, .int .i64 (rd_T96 l0_0 x5_1).f3.f0, .int .i64 (rd_T96 l0_0 x5_1).f3.f1, .int .i64 (rd_T96 l0_0 x5_1).f3.f2, .int .i64 (rd_T96 l0_0 x5_1).f3.f3, .int .i64 (rd_T96 l0_0 x5_1).f3.f4, .int .i64 (rd_T96 l0_0 x5_1).f3.f5, .slice A281_9 (rd_T96 l0_0 x5_1).f4.f0.length c281_9, .slice A281_10 (rd_T96 l0_0 x5_1).f4.f1.length c281_10, .bool (rd_T96 l0_0 x5_1).f5, .int .i64 (rd_T96 l0_0 x5_1).f6, .slice A281_13 (rd_T96 l0_0 x5_1).f7.length c281_13, .int .i64 (rd_T96 l0_0 x5_1).f8.f0, .int .i64 (rd_T96 l0_0 x5_1).f8.f1.f0, .int .i64 (rd_T96 l0_0 x5_1).f8.f1.f1, .int .i64 (rd_T96 l0_0 x5_1).f8.f1.f2, .int .i64 (rd_T96 l0_0 x5_1).f8.f1.f3, .int .i64 (rd_T96 l0_0 x5_1).f8.f2.f0, .int .i64 (rd_T96 l0_0 x5_1).f8.f2.f1, .int .i64 (rd_T96 l0_0 x5_1).f8.f2.f2, .int .i64 (rd_T96 l0_0 x5_1).f8.f2.f3, .int .i64 (rd_T96 l0_0 x5_1).f8.f3.f0, .int .i64 (rd_T96 l0_0 x5_1).f8.f3.f1, .int .i64 (rd_T96 l0_0 x5_1).f8.f4.f0, .int .i64 (rd_T96 l0_0 x5_1).f8.f4.f1, .int .i64 (rd_T96 l0_0 x5_1).f9, .int .i64 (rd_T96 l0_0 x5_1).f10, .slice A281_29 (rd_T96 l0_0 x5_1).f11.f0.length c281_29, .slice A281_30 (rd_T96 l0_0 x5_1).f11.f1.length c281_30] _ (lie_cons (by first | exact hx281_0 | simpa using hx281_0) (lie_cons (by first | exact hx281_1 | simpa using hx281_1) (lie_cons (by first | exact hx281_2 | simpa using hx281_2) (lie_cons (by first | exact hx281_3 | simpa using hx281_3) (lie_cons (by first | exact hx281_4 | simpa using hx281_4) (lie_cons (by first | exact hx281_5 | simpa using hx281_5) (lie_cons (by first | exact hx281_6 | simpa using hx281_6) (lie_cons (by first | exact hx281_7 | simpa using hx281_7) (lie_cons (by first | exact hx281_8 | simpa using hx281_8) (lie_cons (by first | exact hx281_9 | simpa using hx281_9) (lie_cons (by first | exact hx281_10 | simpa using hx281_10) (lie_cons (by first | exact hx281_11 | simpa using hx281_11) (lie_cons (by first | exact hx281_12 | simpa using hx281_12) (lie_cons (by first | exact hx281_13 | simpa using hx281_13) (lie_cons (by first | exact hx281_14 | simpa using hx281_14) (lie_cons (by first | exact hx281_15 | simpa using hx281_15) (lie_cons (by first | exact hx281_16 | simpa using hx281_16) (lie_cons (by first | exact hx281_17 | simpa using hx281_17) (lie_cons (by first | exact hx281_18 | simpa using hx281_18) (lie_cons (by first | exact hx281_19 | simpa using hx281_19) (lie_cons (by first | exact hx281_20 | simpa using hx281_20) (lie_cons (by first | exact hx281_21 | simpa using hx281_21) (lie_cons (by first | exact hx281_22 | simpa using hx281_22) (lie_cons (by first | exact hx281_23 | simpa using hx281_23) (lie_cons (by first | exact hx281_24 | simpa using hx281_24) (lie_cons (by first | exact hx281_25 | simpa using hx281_25) (lie_cons (by first | exact hx281_26 | simpa using hx281_26) (lie_cons (by first | exact hx281_27 | simpa using hx281_27) (lie_cons (by first | exact hx281_28 | simpa using hx281_28) (lie_cons (by first | exact hx281_29 | simpa using hx281_29) (lie_cons (by first | exact hx281_30 | simpa using hx281_30) (lie_nil _ _ _)))))))))))))))))))))))))))))))) Try.underlying96 rfl (show (Try.prog.info? 96).map (·.size) = some 31 by kernel_rfl) ?_))
      go_ret
      exact ⟨by first | rfl | (simp [errW_none, errW_some] <;> rfl) | (simp [*, errW_none, errW_some] <;> rfl), by repeat (first | (with_reducible first | exact HB.out | apply below_alloc | apply pw_below_drewN | apply below_drew1 | refine below_set ?_ GE280.out) | exact HB.out)⟩
     ·rw [if_neg c6] at H
      have c6b0 : (((rd_T96 l0_0 x5_1).f0) == a1) = false := beq_eq_false_iff_ne.mpr c6
      have c6b1 : (((rd_T96 l0_0 x5_1).f0) != a1) = true := bne_iff_ne.mpr c6
      have H' := Aside0.mk H
      clear H
      have hcz8_0 : wr.cell? ⟨gb280, 0, none⟩ = some (.slice A0_0 l0_0.length c0_0) := (blk_cell BK280.out 0).trans rfl
      have hfz8_0 := blk_frozen BK280.out 0
      have p281 : 0 ≤ (x5_1 : Int) := of_decide_eq_true (by first | (with_reducible assumption) | assumption)
      have q281 : x5_1 < (l0_0.length : Int) := of_decide_eq_true (by first | (with_reducible assumption) | assumption)
      obtain ⟨ad281, A281_9, c281_9, A281_10, c281_10, A281_13, c281_13, A281_29, c281_29, A281_30, c281_30, e281, hx281_0, hx281_1, hx281_2, hx281_3, hx281_4, hx281_5, hx281_6, hx281_7, hx281_8, hx281_9, hx281_10, hx281_11, hx281_12, hx281_13, hx281_14, hx281_15, hx281_16, hx281_17, hx281_18, hx281_19, hx281_20, hx281_21, hx281_22, hx281_23, hx281_24, hx281_25, hx281_26, hx281_27, hx281_28, hx281_29, hx281_30, hl281_9, hi281_9, hl281_10, hi281_10, hl281_13, hi281_13, hl281_29, hi281_29, hl281_30, hi281_30⟩ := at_T96 HR0_0.out x5_1 p281 q281
      cases e281
      replace hx281_0 := (HB.out.cell (World.block_lt_of_cell? w _ hx281_0)).trans hx281_0
      replace hx281_1 := (HB.out.cell (World.block_lt_of_cell? w _ hx281_1)).trans hx281_1
      replace hx281_2 := (HB.out.cell (World.block_lt_of_cell? w _ hx281_2)).trans hx281_2
      replace hx281_3 := (HB.out.cell (World.block_lt_of_cell? w _ hx281_3)).trans hx281_3
      replace hx281_4 := (HB.out.cell (World.block_lt_of_cell? w _ hx281_4)).trans hx281_4
      replace hx281_5 := (HB.out.cell (World.block_lt_of_cell? w _ hx281_5)).trans hx281_5
      replace hx281_6 := (HB.out.cell (World.block_lt_of_cell? w _ hx281_6)).trans hx281_6
      replace hx281_7 := (HB.out.cell (World.block_lt_of_cell? w _ hx281_7)).trans hx281_7
      replace hx281_8 := (HB.out.cell (World.block_lt_of_cell? w _ hx281_8)).trans hx281_8
      replace hx281_9 := (HB.out.cell (World.block_lt_of_cell? w _ hx281_9)).trans hx281_9
      replace hx281_10 := (HB.out.cell (World.block_lt_of_cell? w _ hx281_10)).trans hx281_10
      replace hx281_11 := (HB.out.cell (World.block_lt_of_cell? w _ hx281_11)).trans hx281_11
      replace hx281_12 := (HB.out.cell (World.block_lt_of_cell? w _ hx281_12)).trans hx281_12
      replace hx281_13 := (HB.out.cell (World.block_lt_of_cell? w _ hx281_13)).trans hx281_13
      replace hx281_14 := (HB.out.cell (World.block_lt_of_cell? w _ hx281_14)).trans hx281_14
      replace hx281_15 := (HB.out.cell (World.block_lt_of_cell? w _ hx281_15)).trans hx281_15
      replace hx281_16 := (HB.out.cell (World.block_lt_of_cell? w _ hx281_16)).trans hx281_16
      replace hx281_17 := (HB.out.cell (World.block_lt_of_cell? w _ hx281_17)).trans hx281_17
      replace hx281_18 := (HB.out.cell (World.block_lt_of_cell? w _ hx281_18)).trans hx281_18
      replace hx281_19 := (HB.out.cell (World.block_lt_of_cell? w _ hx281_19)).trans hx281_19
      replace hx281_20 := (HB.out.cell (World.block_lt_of_cell? w _ hx281_20)).trans hx281_20
      replace hx281_21 := (HB.out.cell (World.block_lt_of_cell? w _ hx281_21)).trans hx281_21
      replace hx281_22 := (HB.out.cell (World.block_lt_of_cell? w _ hx281_22)).trans hx281_22
      replace hx281_23 := (HB.out.cell (World.block_lt_of_cell? w _ hx281_23)).trans hx281_23
      replace hx281_24 := (HB.out.cell (World.block_lt_of_cell? w _ hx281_24)).trans hx281_24
      replace hx281_25 := (HB.out.cell (World.block_lt_of_cell? w _ hx281_25)).trans hx281_25
      replace hx281_26 := (HB.out.cell (World.block_lt_of_cell? w _ hx281_26)).trans hx281_26
      replace hx281_27 := (HB.out.cell (World.block_lt_of_cell? w _ hx281_27)).trans hx281_27
      replace hx281_28 := (HB.out.cell (World.block_lt_of_cell? w _ hx281_28)).trans hx281_28
      replace hx281_29 := (HB.out.cell (World.block_lt_of_cell? w _ hx281_29)).trans hx281_29
      replace hx281_30 := (HB.out.cell (World.block_lt_of_cell? w _ hx281_30)).trans hx281_30
      have HR281_9 := Aside0.mk hi281_9
      have HC281_9 := Aside0.mk hl281_9
      clear hi281_9 hl281_9
      have HR281_10 := Aside0.mk hi281_10
      have HC281_10 := Aside0.mk hl281_10
      clear hi281_10 hl281_10
      have HR281_13 := Aside0.mk hi281_13
      have HC281_13 := Aside0.mk hl281_13
      clear hi281_13 hl281_13
      have HR281_29 := Aside0.mk hi281_29
      have HC281_29 := Aside0.mk hl281_29
      clear hi281_29 hl281_29
      have HR281_30 := Aside0.mk hi281_30
      have HC281_30 := Aside0.mk hl281_30
      clear hi281_30 hl281_30
      replace p281 := eq_true p281
      replace q281 := eq_true q281
      go_wp2_with (first | ((with_reducible refine gate_load (t := 96) rfl ?_); refine load_event (t := 96) rfl rfl (p := ad281.add (x5_1.toNat * 31)) rfl [.int .i64 (rd_T96 l0_0 x5_1).f0, .int .i64 (rd_T96 l0_0 x5_1).f1, .bool (rd_T96 l0_0 x5_1).f2, .int .i64 (rd_T96 l0_0 x5_1).f3.f0, .int .i64 (rd_T96 l0_0 x5_1).f3.f1, .int .i64 (rd_T96 l0_0 x5_1).f3.f2, .int .i64 (rd_T96 l0_0 x5_1).f3.f3, .int .i64 (rd_T96 l0_0 x5_1).f3.f4, .int .i64 (rd_T96 l0_0 x5_1).f3.f5, .slice A281_9 (rd_T96 l0_0 x5_1).f4.f0.length c281_9, .slice A281_10 (rd_T96 l0_0 x5_1).f4.f1.length c281_10, .bool (rd_T96 l0_0 x5_1).f5, .int .i64 (rd_T96 l0_0 x5_1).f6, .slice A281_13 (rd_T96 l0_0 x5_1).f7.length c281_13, .int .i64 (rd_T96 l0_0 x5_1).f8.f0, .int .i64 (rd_T96 l0_0 x5_1).f8.f1.f0, .int .i64 (rd_T96 l0_0 x5_1).f8.f1.f1, .int .i64 (rd_T96 l0_0 x5_1).f8.f1.f2, .int .i64 (rd_T96 l0_0 x5_1).f8.f1.f3, .int .i64 (rd_T96 l0_0 x5_1).f8.f2.f0, .int .i64 (rd_T96 l0_0 x5_1).f8.f2.f1, .int .i64 (rd_T96 l0_0 x5_1).f8.f2.f2, .int .i64 (rd_T96 l0_0 x5_1).f8.f2.f3, .int .i64 (rd_T96 l0_0 x5_1).f8.f3.f0, .int .i64 (rd_T96 l0_0 x5_1).f8.f3.f1, .int .i64 (rd_T96 l0_0 x5_1).f8.f4.f0, .int .i64 (rd_T96 l0_0 x5_1).f8.f4.f1, .int .i64 (rd_T96 l0_0 x5_1).f9, .int .i64 (rd_T96 l0_0 x5_1).f10, .slice A281_29 (rd_T96 l0_0 x5_1).f11.f0.length c281_29, .slice A281_30 (rd_T96 l0_0 x5_1).f11.f1.length c281_30] _ (lie_cons (by first | exact hx281_0 | simpa using hx281_0) (lie_cons (by first | exact hx281_1 | simpa using hx281_1) (lie_cons (by first | exact hx281_2 | simpa using hx281_2) (lie_cons (by first | exact hx281_3 | simpa using hx281_3) (lie_cons (by first | exact hx281_4 | simpa using hx281_4) (lie_cons (by first | exact hx281_5 | simpa using hx281_5) (lie_cons (by first | exact hx281_6 | simpa using hx281_6) (lie_cons (by first | exact hx281_7 | simpa using hx281_7) (lie_cons (by first | exact hx281_8 | simpa using hx281_8) (lie_cons (by first | exact hx281_9 | simpa using hx281_9) (lie_cons (by first | exact hx281_10 | simpa using hx281_10) (lie_cons (by first | exact hx281_11 | simpa using hx281_11) (lie_cons (by first | exact hx281_12 | simpa using hx281_12) (lie_cons (by first | exact hx281_13 | simpa using hx281_13) (lie_cons (by first | exact hx281_14 | simpa using hx281_14) (lie_cons (by first | exact hx281_15 | simpa using hx281_15) (lie_cons (by first | exact hx281_16 | simpa using hx281_16) (lie_cons (by first | exact hx281_17 | simpa using hx281_17) (lie_cons (by first | exact hx281_18 | simpa using hx281_18) (lie_cons (by first | exact hx281_19 | simpa using hx281_19) (lie_cons (by first | exact hx281_20 | simpa using hx281_20) (lie_cons (by first | exact hx281_21 | simpa using hx281_21) (lie_cons (by first | exact hx281_22 | simpa using hx281_22) (lie_cons (by first | exact hx281_23 | simpa using hx281_23) (lie_cons (by first | exact hx281_24 | simpa using hx281_24) (lie_cons (by first | exact hx281_25 | simpa using hx281_25) (lie_cons (by first | exact hx281_26 | simpa using hx281_26) (lie_cons (by first | exact hx281_27 | simpa using hx281_27) (lie_cons (by first | exact hx281_28 | simpa using hx281_28) (lie_cons (by first | exact hx281_29 | simpa using hx281_29) (lie_cons (by first | exact hx281_30 | simpa using hx281_30) (lie_nil _ _ _)))))))))))))))))))))))))))))))) Try.underlying96 rfl (show (Try.prog.info? 96).map (·.size) = some 31 by kernel_rfl) ?_))
      go_roundg k1
      case measure => have := HK1.out; omega
      case rel => exact ⟨(wrap64 (x5_1 + 1)), (by first | rfl | (simp; done) | (simp [*]; done)), H', ⟨by have := HK1.out; omega⟩, ⟨by (with_reducible repeat (first | refine blk_drewN ?_ _ | refine blk_drew ?_ | refine blk_alloc ?_ _)); exact BK280.out⟩, ⟨by repeat (first | (with_reducible first | exact HB.out | apply below_alloc | apply pw_below_drewN | apply below_drew1 | refine below_set ?_ GE280.out) | exact HB.out)⟩⟩
    ·rw [if_neg c5] at H
     exact absurd H (by simp)
   ·rw [if_neg c4] at H
    have c4b0 : decide (x5_1 < (l0_0.length : Int)) = false := decide_eq_false c4
    clear c4
    obtain rfl := Option.some.inj H
    simp only [Option.some.injEq, Prod.mk.injEq] at H
    obtain ⟨rfl⟩ := H
    have hcz9_0 : wr.cell? ⟨gb280, 0, none⟩ = some (.slice A0_0 l0_0.length c0_0) := (blk_cell BK280.out 0).trans rfl
    have hfz9_0 := blk_frozen BK280.out 0
    go_wp2
    go_ret
    exact ⟨by first | rfl | (simp [errW_none, errW_some] <;> rfl) | (simp [*, errW_none, errW_some] <;> rfl), by repeat (first | (with_reducible first | exact HB.out | apply below_alloc | apply pw_below_drewN | apply below_drew1 | refine below_set ?_ GE280.out) | exact HB.out)⟩

/-! ### spec_DepthOf: function 53 -/
def spec_DepthOf.l0 : Nat → Int → Int → Int → List (S96) → Option (Int)
 | 0, _, _, _, _ => none
 | k + 1, x1, x5, x6, x283000 => if x6 ≤ 8 then (if x1 = 0 then (some x5) else ((spec_NodeAt.f k x283000 x1).bind fun t283 => (if t283 < 0 then (some 0) else (if 0 ≤ t283 then (if t283 < (x283000.length : Int) then (spec_DepthOf.l0 k ((rd_T96 x283000 t283).f1) (wrap64 (x5 + 1)) (wrap64 (x6 + 1)) x283000) else (none)) else (none))))) else (some 0)
def spec_DepthOf.f (k : Nat) (l0_0 : List (S96)) (a1 : Int) : Option (Int) := spec_DepthOf.l0 k a1 0 0 l0_0
theorem spec_DepthOf.mono_l : ∀ k, (∀ y0 y1 y2 y3, LeO (spec_DepthOf.l0 k y0 y1 y2 y3) (spec_DepthOf.l0 (k + 1) y0 y1 y2 y3))
 | 0 => fun _ _ _ _ r h => by simp [spec_DepthOf.l0] at h
 | k + 1 => by
  have ih0 := spec_DepthOf.mono_l k
  ·intro y0 y1 y2 y3
   unfold spec_DepthOf.l0
   repeat' first
   | (with_reducible exact ih0 _ _ _ _)
   | (with_reducible exact spec_NodeAt.mono _ _ _)
   | (with_reducible exact LeO.refl _)
   | (with_reducible exact LeO.none _)
   | (with_reducible refine LeO.ite ?_ ?_)
   | (with_reducible refine LeO.bind ?_ (fun _ => ?_))
   | exact ih0 _ _ _ _
   | exact spec_NodeAt.mono _ _ _
   | exact LeO.none _
   | refine LeO.ite ?_ ?_
   | refine LeO.bind ?_ (fun _ => ?_)
theorem spec_DepthOf.mono : ∀ a0 a1 k, LeO (spec_DepthOf.f k a0 a1) (spec_DepthOf.f (k + 1) a0 a1) := by
 intro a0 a1 k
 have ih0 := spec_DepthOf.mono_l k
 unfold spec_DepthOf.f
 repeat' first
   | (with_reducible exact ih0 _ _ _ _)
   | (with_reducible exact spec_NodeAt.mono _ _ _)
   | (with_reducible exact LeO.refl _)
   | (with_reducible exact LeO.none _)
   | (with_reducible refine LeO.ite ?_ ?_)
   | (with_reducible refine LeO.bind ?_ (fun _ => ?_))
   | exact ih0 _ _ _ _
   | exact spec_NodeAt.mono _ _ _
   | exact LeO.none _
   | refine LeO.ite ?_ ?_
   | refine LeO.bind ?_ (fun _ => ?_)
set_option maxHeartbeats 8000000 in
set_option maxRecDepth 100000 in
theorem spec_DepthOf.calls (k : Nat) (A0_0 : Option Addr) (c0_0 : Nat) (l0_0 : List (S96)) (a1 : Int) (r : Int) (w : World) (hr0_0 : Kd.C k96 w A0_0 l0_0.length l0_0) (hc0_0 : l0_0.length ≤ c0_0) (h : spec_DepthOf.f k l0_0 a1 = some r) :
  Calls Try.prog 53 #[.agg #[.slice A0_0 l0_0.length c0_0], .int .i64 a1] w fun e w' => e = .returned (.int .i64 r) ∧ Below w.heap.size w w' := by
 have hu77 := Try.underlying77
 have HR0_0 := Aside0.mk hr0_0
 have HC0_0 := Aside0.mk hc0_0
 clear hr0_0 hc0_0
 have HB := Aside0.mk (Below.refl w.heap.size w)
 have H : (spec_DepthOf.l0 k a1 0 0 l0_0) = some r := h
 clear h
 have H' := Aside0.mk H
 clear H
 go_enter Try.func53, Try.ntmps53
 go_wp2_with (first | ((with_reducible refine gate_dst (N := 2) rfl ?_); refine box_event ?hg (N := 2) ?hd (cs := #[.slice A0_0 l0_0.length c0_0]) (t := 77) ?hr ?_; (case hd => rfl); (case hg => rfl); (case hr => first | (go_simp; done) | (go_simp; rfl)); intro gb282 hg w3 hbox hb; have n0_ := Aside0.mk (below_step z5_0 hb); have n1_ := Aside0.mk (hbox); have n2_ := Aside0.mk ((by rw [hg]; exact (below_size z5_0) : w.heap.size ≤ gb282)); have n3_ := Aside0.mk ((by rw [hg]; exact (below_size z5_0) : w.heap.size ≤ gb282)); clear HB; have HB := n0_; have BK282 := n1_; have GW282 := n2_; have GE282 := n3_; clear n0_ n1_ n2_ n3_; clear hb hbox hg))
 go_loopg [1, 5, 6] k (fun kq v1 v5 v6 w' => ∃ (x1_1 : Int) (x5_1 : Int) (x6_1 : Int), v1 = .int .i64 x1_1 ∧ v5 = .int .i64 x5_1 ∧ v6 = .int .i64 x6_1 ∧ Aside0 (spec_DepthOf.l0 kq x1_1 x5_1 x6_1 l0_0 = some r) ∧ Aside0 (kq ≤ k) ∧ Aside0 (w'.heap[gb282]? = some (.cells #[(.slice A0_0 l0_0.length c0_0)] 77 (0, 0))) ∧ Aside0 (Below w.heap.size w w'))
 case atStart => exact ⟨(a1), (0), (0), (by first | rfl | (simp; done) | (simp [*]; done)), (by first | rfl | (simp; done) | (simp [*]; done)), (by first | rfl | (simp; done) | (simp [*]; done)), H', ⟨Nat.le_refl _⟩, ⟨by (with_reducible repeat (first | refine blk_drewN ?_ _ | refine blk_drew ?_ | refine blk_alloc ?_ _)); exact BK282.out⟩, ⟨by repeat (first | (with_reducible first | exact HB.out | apply below_alloc | apply pw_below_drewN | apply below_drew1 | refine below_set ?_ GE282.out) | exact HB.out)⟩⟩
 case round =>
  clear H'
  try clear p2
  obtain ⟨x1_1, x5_1, x6_1, rfl, rfl, rfl, HA, HK1, BK282, HB⟩ := hrel
  cases gk with
  | zero => exact absurd HA.out (by simp [spec_DepthOf.l0])
  | succ k1 =>
   have H := HA.out; clear HA
   simp only [spec_DepthOf.l0] at H
   by_cases c4 : x6_1 ≤ 8
   ·rw [if_pos c4] at H
    have c4b0 : decide (x6_1 ≤ 8) = true := decide_eq_true c4
    clear c4
    by_cases c5 : x1_1 = 0
    ·rw [if_pos c5] at H
     have c5b0 : (x1_1 == 0) = true := beq_iff_eq.mpr c5
     have c5b1 : (x1_1 != 0) = false := bne_eq_false_iff_eq.mpr c5
     clear c5
     obtain rfl := Option.some.inj H
     simp only [Option.some.injEq, Prod.mk.injEq] at H
     obtain ⟨rfl⟩ := H
     go_wp2
     go_ret
     exact ⟨by first | rfl | (simp [errW_none, errW_some] <;> rfl) | (simp [*, errW_none, errW_some] <;> rfl), by repeat (first | (with_reducible first | exact HB.out | apply below_alloc | apply pw_below_drewN | apply below_drew1 | refine below_set ?_ GE282.out) | exact HB.out)⟩
    ·rw [if_neg c5] at H
     have c5b0 : (x1_1 == 0) = false := beq_eq_false_iff_ne.mpr c5
     have c5b1 : (x1_1 != 0) = true := bne_iff_ne.mpr c5
     replace H := Option.bind_eq_some_iff.mp H
     obtain ⟨t283, A60, H⟩ := H
     replace H : (if t283 < 0 then (some 0) else (if 0 ≤ t283 then (if t283 < (l0_0.length : Int) then (spec_DepthOf.l0 k1 ((rd_T96 l0_0 t283).f1) (wrap64 (x5_1 + 1)) (wrap64 (x6_1 + 1)) l0_0) else (none)) else (none))) = some r := H
     have A6 := Aside0.mk A60
     clear A60
     by_cases c7 : t283 < 0
     ·rw [if_pos c7] at H
      have c7b0 : decide (t283 < 0) = true := decide_eq_true c7
      clear c7
      obtain rfl := Option.some.inj H
      simp only [Option.some.injEq, Prod.mk.injEq] at H
      obtain ⟨rfl⟩ := H
      have hcz8_0 : wr.cell? ⟨gb282, 0, none⟩ = some (.slice A0_0 l0_0.length c0_0) := (blk_cell BK282.out 0).trans rfl
      have hfz8_0 := blk_frozen BK282.out 0
      go_wp2_with (first | ((with_reducible refine gate_callee (f := 49) rfl ?_); refine goesL_ (some 17) rfl rfl Try.func49 (by kernel_rfl) rfl #[.agg #[.slice A0_0 l0_0.length c0_0], .int .i64 x1_1] rfl z5_1 ?_; (with_reducible refine (spec_NodeAt.calls k1 _ _ l0_0 x1_1 t283 _ ?side1 ?side2 A6.out).mono ?_); (case side1 => repeat (first | exact (Kd.C_below HR0_0.out HB.out) | (with_reducible refine Kd.C_alloc ?_ _) | (with_reducible refine Kd.C_drewN ?_ _) | (with_reducible refine Kd.C_drew ?_))); (case side2 => exact HC0_0.out); rintro e w9 ⟨rfl, hb⟩; refine ⟨_, rfl, ?_⟩; have n0_ := Aside0.mk (blk_below (g := gb282) (o := .cells #[.slice A0_0 l0_0.length c0_0] 77 (0, 0)) z5_10 hb); have n1_ := Aside0.mk (below_step z5_8 hb); clear BK282; clear HB; have BK282 := n0_; have HB := n1_; clear n0_ n1_; (try clear hb); (try clear hb2); (try clear hk); (try clear hi)))
      go_ret
      exact ⟨by first | rfl | (simp [errW_none, errW_some] <;> rfl) | (simp [*, errW_none, errW_some] <;> rfl), by repeat (first | (with_reducible first | exact HB.out | apply below_alloc | apply pw_below_drewN | apply below_drew1 | refine below_set ?_ GE282.out) | exact HB.out)⟩
     ·rw [if_neg c7] at H
      have c7b0 : decide (t283 < 0) = false := decide_eq_false c7
      clear c7
      by_cases c10 : 0 ≤ t283
      ·rw [if_pos c10] at H
       have c10b0 : decide (0 ≤ t283) = true := decide_eq_true c10
       clear c10
       by_cases c11 : t283 < (l0_0.length : Int)
       ·rw [if_pos c11] at H
        have c11b0 : decide (t283 < (l0_0.length : Int)) = true := decide_eq_true c11
        clear c11
        have H' := Aside0.mk H
        clear H
        have hcz12_0 : wr.cell? ⟨gb282, 0, none⟩ = some (.slice A0_0 l0_0.length c0_0) := (blk_cell BK282.out 0).trans rfl
        have hfz12_0 := blk_frozen BK282.out 0
        go_wp2_with (first | ((with_reducible refine gate_callee (f := 49) rfl ?_); refine goesL_ (some 17) rfl rfl Try.func49 (by kernel_rfl) rfl #[.agg #[.slice A0_0 l0_0.length c0_0], .int .i64 x1_1] rfl z5_1 ?_; (with_reducible refine (spec_NodeAt.calls k1 _ _ l0_0 x1_1 t283 _ ?side1 ?side2 A6.out).mono ?_); (case side1 => repeat (first | exact (Kd.C_below HR0_0.out HB.out) | (with_reducible refine Kd.C_alloc ?_ _) | (with_reducible refine Kd.C_drewN ?_ _) | (with_reducible refine Kd.C_drew ?_))); (case side2 => exact HC0_0.out); rintro e w13 ⟨rfl, hb⟩; refine ⟨_, rfl, ?_⟩; have n0_ := Aside0.mk (blk_below (g := gb282) (o := .cells #[.slice A0_0 l0_0.length c0_0] 77 (0, 0)) z5_10 hb); have n1_ := Aside0.mk (below_step z5_8 hb); clear BK282; clear HB; have BK282 := n0_; have HB := n1_; clear n0_ n1_; (try clear hb); (try clear hb2); (try clear hk); (try clear hi); have hcz14_0 : w13.cell? ⟨gb282, 0, none⟩ = some (.slice A0_0 l0_0.length c0_0) := (blk_cell BK282.out 0).trans rfl; have hfz14_0 := blk_frozen BK282.out 0; have p284 : 0 ≤ (t283 : Int) := of_decide_eq_true (by first | (with_reducible assumption) | assumption); have q284 : t283 < (l0_0.length : Int) := of_decide_eq_true (by first | (with_reducible assumption) | assumption); obtain ⟨ad284, A284_9, c284_9, A284_10, c284_10, A284_13, c284_13, A284_29, c284_29, A284_30, c284_30, e284, hx284_0, hx284_1, hx284_2, hx284_3, hx284_4, hx284_5, hx284_6, hx284_7, hx284_8, hx284_9, hx284_10, hx284_11, hx284_12, hx284_13, hx284_14, hx284_15, hx284_16, hx284_17, hx284_18, hx284_19, hx284_20, hx284_21, hx284_22, hx284_23, hx284_24, hx284_25, hx284_26, hx284_27, hx284_28, hx284_29, hx284_30, hl284_9, hi284_9, hl284_10, hi284_10, hl284_13, hi284_13, hl284_29, hi284_29, hl284_30, hi284_30⟩ := at_T96 HR0_0.out t283 p284 q284; cases e284; replace hx284_0 := (HB.out.cell (World.block_lt_of_cell? w _ hx284_0)).trans hx284_0; replace hx284_1 := (HB.out.cell (World.block_lt_of_cell? w _ hx284_1)).trans hx284_1; replace hx284_2 := (HB.out.cell (World.block_lt_of_cell? w _ hx284_2)).trans hx284_2; replace hx284_3 := (HB.out.cell (World.block_lt_of_cell? w _ hx284_3)).trans hx284_3; replace hx284_4 := (HB.out.cell (World.block_lt_of_cell? w _ hx284_4)).trans hx284_4; replace hx284_5 := (HB.out.cell (World.block_lt_of_cell? w _ hx284_5)).trans hx284_5; replace hx284_6 := (HB.out.cell (World.block_lt_of_cell? w _ hx284_6)).trans hx284_6; replace hx284_7 := (HB.out.cell (World.block_lt_of_cell? w _ hx284_7)).trans hx284_7; replace hx284_8 := (HB.out.cell (World.block_lt_of_cell? w _ hx284_8)).trans hx284_8; replace hx284_9 := (HB.out.cell (World.block_lt_of_cell? w _ hx284_9)).trans hx284_9; replace hx284_10 := (HB.out.cell (World.block_lt_of_cell? w _ hx284_10)).trans hx284_10; replace hx284_11 := (HB.out.cell (World.block_lt_of_cell? w _ hx284_11)).trans hx284_11; replace hx284_12 := (HB.out.cell (World.block_lt_of_cell? w _ hx284_12)).trans hx284_12; replace hx284_13 := (HB.out.cell (World.block_lt_of_cell? w _ hx284_13)).trans hx284_13; replace hx284_14 := (HB.out.cell (World.block_lt_of_cell? w _ hx284_14)).trans hx284_14; replace hx284_15 := (HB.out.cell (World.block_lt_of_cell? w _ hx284_15)).trans hx284_15; replace hx284_16 := (HB.out.cell (World.block_lt_of_cell? w _ hx284_16)).trans hx284_16; replace hx284_17 := (HB.out.cell (World.block_lt_of_cell? w _ hx284_17)).trans hx284_17; replace hx284_18 := (HB.out.cell (World.block_lt_of_cell? w _ hx284_18)).trans hx284_18; replace hx284_19 := (HB.out.cell (World.block_lt_of_cell? w _ hx284_19)).trans hx284_19; replace hx284_20 := (HB.out.cell (World.block_lt_of_cell? w _ hx284_20)).trans hx284_20; replace hx284_21 := (HB.out.cell (World.block_lt_of_cell? w _ hx284_21)).trans hx284_21; replace hx284_22 := (HB.out.cell (World.block_lt_of_cell? w _ hx284_22)).trans hx284_22; replace hx284_23 := (HB.out.cell (World.block_lt_of_cell? w _ hx284_23)).trans hx284_23; replace hx284_24 := (HB.out.cell (World.block_lt_of_cell? w _ hx284_24)).trans hx284_24; replace hx284_25 := (HB.out.cell (World.block_lt_of_cell? w _ hx284_25)).trans hx284_25; replace hx284_26 := (HB.out.cell (World.block_lt_of_cell? w _ hx284_26)).trans hx284_26; replace hx284_27 := (HB.out.cell (World.block_lt_of_cell? w _ hx284_27)).trans hx284_27; replace hx284_28 := (HB.out.cell (World.block_lt_of_cell? w _ hx284_28)).trans hx284_28; replace hx284_29 := (HB.out.cell (World.block_lt_of_cell? w _ hx284_29)).trans hx284_29; replace hx284_30 := (HB.out.cell (World.block_lt_of_cell? w _ hx284_30)).trans hx284_30; have HR284_9 := Aside0.mk hi284_9; have HC284_9 := Aside0.mk hl284_9; clear hi284_9 hl284_9; have HR284_10 := Aside0.mk hi284_10; have HC284_10 := Aside0.mk hl284_10; clear hi284_10 hl284_10; have HR284_13 := Aside0.mk hi284_13; have HC284_13 := Aside0.mk hl284_13; clear hi284_13 hl284_13; have HR284_29 := Aside0.mk hi284_29; have HC284_29 := Aside0.mk hl284_29; clear hi284_29 hl284_29; have HR284_30 := Aside0.mk hi284_30; have HC284_30 := Aside0.mk hl284_30; clear hi284_30 hl284_30; replace p284 := eq_true p284; replace q284 := eq_true q284))
        go_roundg k1
        case measure => have := HK1.out; omega
        case rel => exact ⟨((rd_T96 l0_0 t283).f1), (wrap64 (x5_1 + 1)), (wrap64 (x6_1 + 1)), (by first | rfl | (simp; done) | (simp [*]; done)), (by first | rfl | (simp; done) | (simp [*]; done)), (by first | rfl | (simp; done) | (simp [*]; done)), H', ⟨by have := HK1.out; omega⟩, ⟨by (with_reducible repeat (first | refine blk_drewN ?_ _ | refine blk_drew ?_ | refine blk_alloc ?_ _)); exact BK282.out⟩, ⟨by repeat (first | (with_reducible first | exact HB.out | apply below_alloc | apply pw_below_drewN | apply below_drew1 | refine below_set ?_ GE282.out) | exact HB.out)⟩⟩
       ·rw [if_neg c11] at H
        exact absurd H (by simp)
      ·rw [if_neg c10] at H
       exact absurd H (by simp)
   ·rw [if_neg c4] at H
    have c4b0 : decide (x6_1 ≤ 8) = false := decide_eq_false c4
    clear c4
    obtain rfl := Option.some.inj H
    simp only [Option.some.injEq, Prod.mk.injEq] at H
    obtain ⟨rfl⟩ := H
    go_wp2
    go_ret
    exact ⟨by first | rfl | (simp [errW_none, errW_some] <;> rfl) | (simp [*, errW_none, errW_some] <;> rfl), by repeat (first | (with_reducible first | exact HB.out | apply below_alloc | apply pw_below_drewN | apply below_drew1 | refine below_set ?_ GE282.out) | exact HB.out)⟩

/-! ### impl_NodeAt_1: function 119 -/
def impl_NodeAt_1.f (a0_0 : Int) (a0_1 : Int) (a0_2 : Bool) (a0_3 : Int) (a0_4 : Int) (a0_5 : Int) (a0_6 : Int) (a0_7 : Int) (a0_8 : Int) (l0_9 : List Int) (l0_10 : List (S32)) (a0_11 : Bool) (a0_12 : Int) (l0_13 : List Int) (a0_14 : Int) (a0_15 : Int) (a0_16 : Int) (a0_17 : Int) (a0_18 : Int) (a0_19 : Int) (a0_20 : Int) (a0_21 : Int) (a0_22 : Int) (a0_23 : Int) (a0_24 : Int) (a0_25 : Int) (a0_26 : Int) (a0_27 : Int) (a0_28 : Int) (l0_29 : List Int) (l0_30 : List (S32)) (a1 : Int) : Option (Bool) := some (a0_0 == a1)
set_option maxHeartbeats 8000000 in
set_option maxRecDepth 100000 in
theorem impl_NodeAt_1.calls (a0_0 : Int) (a0_1 : Int) (a0_2 : Bool) (a0_3 : Int) (a0_4 : Int) (a0_5 : Int) (a0_6 : Int) (a0_7 : Int) (a0_8 : Int) (A0_9 : Option Addr) (c0_9 : Nat) (l0_9 : List Int) (A0_10 : Option Addr) (c0_10 : Nat) (l0_10 : List (S32)) (a0_11 : Bool) (a0_12 : Int) (A0_13 : Option Addr) (c0_13 : Nat) (l0_13 : List Int) (a0_14 : Int) (a0_15 : Int) (a0_16 : Int) (a0_17 : Int) (a0_18 : Int) (a0_19 : Int) (a0_20 : Int) (a0_21 : Int) (a0_22 : Int) (a0_23 : Int) (a0_24 : Int) (a0_25 : Int) (a0_26 : Int) (a0_27 : Int) (a0_28 : Int) (A0_29 : Option Addr) (c0_29 : Nat) (l0_29 : List Int) (A0_30 : Option Addr) (c0_30 : Nat) (l0_30 : List (S32)) (g1 : Nat) (a1 : Int) (r : Bool) (w : World) (hr0_9 : Kd.C (Kd.int .i64) w A0_9 l0_9.length l0_9) (hc0_9 : l0_9.length ≤ c0_9) (hr0_10 : Kd.C k32 w A0_10 l0_10.length l0_10) (hc0_10 : l0_10.length ≤ c0_10) (hr0_13 : Kd.C (Kd.int .i64) w A0_13 l0_13.length l0_13) (hc0_13 : l0_13.length ≤ c0_13) (hr0_29 : Kd.C (Kd.int .i64) w A0_29 l0_29.length l0_29) (hc0_29 : l0_29.length ≤ c0_29) (hr0_30 : Kd.C k32 w A0_30 l0_30.length l0_30) (hc0_30 : l0_30.length ≤ c0_30) (hb1 : w.heap[g1]? = some (.cells #[.int .i64 a1] 3 (0, 0))) (h : impl_NodeAt_1.f a0_0 a0_1 a0_2 a0_3 a0_4 a0_5 a0_6 a0_7 a0_8 l0_9 l0_10 a0_11 a0_12 l0_13 a0_14 a0_15 a0_16 a0_17 a0_18 a0_19 a0_20 a0_21 a0_22 a0_23 a0_24 a0_25 a0_26 a0_27 a0_28 l0_29 l0_30 a1 = some r) :
  Calls Try.prog 119 #[.agg #[.int .i64 a0_0, .int .i64 a0_1, .bool a0_2, .int .i64 a0_3, .int .i64 a0_4, .int .i64 a0_5, .int .i64 a0_6, .int .i64 a0_7, .int .i64 a0_8, .slice A0_9 l0_9.length c0_9, .slice A0_10 l0_10.length c0_10, .bool a0_11, .int .i64 a0_12, .slice A0_13 l0_13.length c0_13, .int .i64 a0_14, .int .i64 a0_15, .int .i64 a0_16, .int .i64 a0_17, .int .i64 a0_18, .int .i64 a0_19, .int .i64 a0_20, .int .i64 a0_21, .int .i64 a0_22, .int .i64 a0_23, .int .i64 a0_24, .int .i64 a0_25, .int .i64 a0_26, .int .i64 a0_27, .int .i64 a0_28, .slice A0_29 l0_29.length c0_29, .slice A0_30 l0_30.length c0_30], .pointer (some ⟨g1, 0, none⟩)] w fun e w' => e = .returned (.bool r) ∧ Below w.heap.size w w' := by
 have hu96 := Try.underlying96
 have HR0_9 := Aside0.mk hr0_9
 have HC0_9 := Aside0.mk hc0_9
 clear hr0_9 hc0_9
 have HR0_10 := Aside0.mk hr0_10
 have HC0_10 := Aside0.mk hc0_10
 clear hr0_10 hc0_10
 have HR0_13 := Aside0.mk hr0_13
 have HC0_13 := Aside0.mk hc0_13
 clear hr0_13 hc0_13
 have HR0_29 := Aside0.mk hr0_29
 have HC0_29 := Aside0.mk hc0_29
 clear hr0_29 hc0_29
 have HR0_30 := Aside0.mk hr0_30
 have HC0_30 := Aside0.mk hc0_30
 clear hr0_30 hc0_30
 have BK1 := Aside0.mk hb1
 clear hb1
 have HB := Aside0.mk (Below.refl w.heap.size w)
 have H : (some (a0_0 == a1)) = some r := h
 clear h
 obtain rfl := Option.some.inj H
 simp only [Option.some.injEq, Prod.mk.injEq] at H
 obtain ⟨rfl⟩ := H
 go_enter Try.func119, Try.ntmps119
 go_wp2_with (first | ((with_reducible refine gate_dst (N := 2) rfl ?_); refine box_event ?hg (N := 2) ?hd (cs := #[.int .i64 a0_0, .int .i64 a0_1, .bool a0_2, .int .i64 a0_3, .int .i64 a0_4, .int .i64 a0_5, .int .i64 a0_6, .int .i64 a0_7, .int .i64 a0_8, .slice A0_9 l0_9.length c0_9, .slice A0_10 l0_10.length c0_10, .bool a0_11, .int .i64 a0_12, .slice A0_13 l0_13.length c0_13, .int .i64 a0_14, .int .i64 a0_15, .int .i64 a0_16, .int .i64 a0_17, .int .i64 a0_18, .int .i64 a0_19, .int .i64 a0_20, .int .i64 a0_21, .int .i64 a0_22, .int .i64 a0_23, .int .i64 a0_24, .int .i64 a0_25, .int .i64 a0_26, .int .i64 a0_27, .int .i64 a0_28, .slice A0_29 l0_29.length c0_29, .slice A0_30 l0_30.length c0_30]) (t := 96) ?hr ?_; (case hd => rfl); (case hg => rfl); (case hr => first | (go_simp; done) | (go_simp; rfl)); intro gb285 hg w3 hbox hb; have n0_ := Aside0.mk (blk_below (g := g1) (o := .cells #[.int .i64 a1] 3 (0, 0)) z5_7 hb); have n1_ := Aside0.mk (below_step z5_5 hb); have n2_ := Aside0.mk (hbox); have n3_ := Aside0.mk ((by rw [hg]; exact (below_size z5_5) : w.heap.size ≤ gb285)); have n4_ := Aside0.mk ((by rw [hg]; exact (below_size z5_5) : w.heap.size ≤ gb285)); have n5_ := Aside0.mk ((by rw [hg]; exact Nat.ne_of_lt (blk_lt (g := g1) (o := .cells #[.int .i64 a1] 3 (0, 0)) z5_7) : g1 ≠ gb285)); have n6_ := Aside0.mk ((by rw [hg]; exact Nat.ne_of_gt (blk_lt (g := g1) (o := .cells #[.int .i64 a1] 3 (0, 0)) z5_7) : gb285 ≠ g1)); clear BK1; clear HB; have BK1 := n0_; have HB := n1_; have BK285 := n2_; have GW285 := n3_; have GE285 := n4_; have NB1_285 := n5_; have NB285_1 := n6_; clear n0_ n1_ n2_ n3_ n4_ n5_ n6_; clear hb hbox hg; have hnb4 := NB285_1.out; have hnc4 := NB1_285.out; have hcz5_0 : w3.cell? ⟨gb285, 0, none⟩ = some (.int .i64 a0_0) := (blk_cell BK285.out 0).trans rfl; have hcz5_1 : w3.cell? ⟨gb285, 1, none⟩ = some (.int .i64 a0_1) := (blk_cell BK285.out 1).trans rfl; have hcz5_2 : w3.cell? ⟨gb285, 2, none⟩ = some (.bool a0_2) := (blk_cell BK285.out 2).trans rfl; have hcz5_3 : w3.cell? ⟨gb285, 3, none⟩ = some (.int .i64 a0_3) := (blk_cell BK285.out 3).trans rfl; have hcz5_4 : w3.cell? ⟨gb285, 4, none⟩ = some (.int .i64 a0_4) := (blk_cell BK285.out 4).trans rfl; have hcz5_5 : w3.cell? ⟨gb285, 5, none⟩ = some (.int .i64 a0_5) := (blk_cell BK285.out 5).trans rfl; have hcz5_6 : w3.cell? ⟨gb285, 6, none⟩ = some (.int .i64 a0_6) := (blk_cell BK285.out 6).trans rfl; have hcz5_7 : w3.cell? ⟨gb285, 7, none⟩ = some (.int .i64 a0_7) := (blk_cell BK285.out 7).trans rfl; have hcz5_8 : w3.cell? ⟨gb285, 8, none⟩ = some (.int .i64 a0_8) := (blk_cell BK285.out 8).trans rfl; have hcz5_9 : w3.cell? ⟨gb285, 9, none⟩ = some (.slice A0_9 l0_9.length c0_9) := (blk_cell BK285.out 9).trans rfl; have hcz5_10 : w3.cell? ⟨gb285, 10, none⟩ = some (.slice A0_10 l0_10.length c0_10) := (blk_cell BK285.out 10).trans rfl; have hcz5_11 : w3.cell? ⟨gb285, 11, none⟩ = some (.bool a0_11) := (blk_cell BK285.out 11).trans rfl; have hcz5_12 : w3.cell? ⟨gb285, 12, none⟩ = some (.int .i64 a0_12) := (blk_cell BK285.out 12).trans rfl; have hcz5_13 : w3.cell? ⟨gb285, 13, none⟩ = some (.slice A0_13 l0_13.length c0_13) := (blk_cell BK285.out 13).trans rfl; have hcz5_14 : w3.cell? ⟨gb285, 14, none⟩ = some (.int .i64 a0_14) := (blk_cell BK285.out 14).trans rfl; have hcz5_15 : w3.cell? ⟨gb285, 15, none⟩ = some (.int .i64 a0_15) := (blk_cell BK285.out 15).trans rfl; have hcz5_16 : w3.cell? ⟨gb285, 16, none⟩ = some (.int .i64 a0_16) := (blk_cell BK285.out 16).trans rfl; have hcz5_17 : w3.cell? ⟨gb285, 17, none⟩ = some (.int .i64 a0_17) := (blk_cell BK285.out 17).trans rfl; have hcz5_18 : w3.cell? ⟨gb285, 18, none⟩ = some (.int .i64 a0_18) := (blk_cell BK285.out 18).trans rfl; have hcz5_19 : w3.cell? ⟨gb285, 19, none⟩ = some (.int .i64 a0_19) := (blk_cell BK285.out 19).trans rfl; have hcz5_20 : w3.cell? ⟨gb285, 20, none⟩ = some (.int .i64 a0_20) := (blk_cell BK285.out 20).trans rfl; have hcz5_21 : w3.cell? ⟨gb285, 21, none⟩ = some (.int .i64 a0_21) := (blk_cell BK285.out 21).trans rfl; have hcz5_22 : w3.cell? ⟨gb285, 22, none⟩ = some (.int .i64 a0_22) := (blk_cell BK285.out 22).trans rfl; have hcz5_23 : w3.cell? ⟨gb285, 23, none⟩ = some (.int .i64 a0_23) := (blk_cell BK285.out 23).trans rfl; have hcz5_24 : w3.cell? ⟨gb285, 24, none⟩ = some (.int .i64 a0_24) := (blk_cell BK285.out 24).trans rfl; have hcz5_25 : w3.cell? ⟨gb285, 25, none⟩ = some (.int .i64 a0_25) := (blk_cell BK285.out 25).trans rfl; have hcz5_26 : w3.cell? ⟨gb285, 26, none⟩ = some (.int .i64 a0_26) := (blk_cell BK285.out 26).trans rfl; have hcz5_27 : w3.cell? ⟨gb285, 27, none⟩ = some (.int .i64 a0_27) := (blk_cell BK285.out 27).trans rfl; have hcz5_28 : w3.cell? ⟨gb285, 28, none⟩ = some (.int .i64 a0_28) := (blk_cell BK285.out 28).trans rfl; have hcz5_29 : w3.cell? ⟨gb285, 29, none⟩ = some (.slice A0_29 l0_29.length c0_29) := (blk_cell BK285.out 29).trans rfl; have hcz5_30 : w3.cell? ⟨gb285, 30, none⟩ = some (.slice A0_30 l0_30.length c0_30) := (blk_cell BK285.out 30).trans rfl; have hfz5_0 := blk_frozen BK285.out 0; have hfz5_1 := blk_frozen BK285.out 1; have hfz5_2 := blk_frozen BK285.out 2; have hfz5_3 := blk_frozen BK285.out 3; have hfz5_4 := blk_frozen BK285.out 4; have hfz5_5 := blk_frozen BK285.out 5; have hfz5_6 := blk_frozen BK285.out 6; have hfz5_7 := blk_frozen BK285.out 7; have hfz5_8 := blk_frozen BK285.out 8; have hfz5_9 := blk_frozen BK285.out 9; have hfz5_10 := blk_frozen BK285.out 10; have hfz5_11 := blk_frozen BK285.out 11; have hfz5_12 := blk_frozen BK285.out 12; have hfz5_13 := blk_frozen BK285.out 13; have hfz5_14 := blk_frozen BK285.out 14; have hfz5_15 := blk_frozen BK285.out 15; have hfz5_16 := blk_frozen BK285.out 16; have hfz5_17 := blk_frozen BK285.out 17; have hfz5_18 := blk_frozen BK285.out 18; have hfz5_19 := blk_frozen BK285.out 19; have hfz5_20 := blk_frozen BK285.out 20; have hfz5_21 := blk_frozen BK285.out 21; have hfz5_22 := blk_frozen BK285.out 22; have hfz5_23 := blk_frozen BK285.out 23; have hfz5_24 := blk_frozen BK285.out 24; have hfz5_25 := blk_frozen BK285.out 25; have hfz5_26 := blk_frozen BK285.out 26; have hfz5_27 := blk_frozen BK285.out 27; have hfz5_28 := blk_frozen BK285.out 28; have hfz5_29 := blk_frozen BK285.out 29; have hfz5_30 := blk_frozen BK285.out 30; have hcz6_0 : w3.cell? ⟨g1, 0, none⟩ = some (.int .i64 a1) := (blk_cell BK1.out 0).trans rfl; have hfz6_0 := blk_frozen BK1.out 0))
 go_ret
 exact ⟨by first | rfl | (simp [errW_none, errW_some] <;> rfl) | (simp [*, errW_none, errW_some] <;> rfl), by repeat (first | (with_reducible first | exact HB.out | apply below_alloc | apply pw_below_drewN | apply below_drew1 | refine below_set ?_ GE1.out | refine below_set ?_ GE285.out) | exact HB.out)⟩

/-! ### impl_Node_NodeAt_1: function 12000118 -/
def impl_Node_NodeAt_1.l0 : Nat → List (S96) → Int → Int → Int → Option (Int)
 | 0, _, _, _, _ => none
 | k + 1, x0, x7, x8, x3000 => if x8 < x7 then (if 0 ≤ x8 then (if x8 < (x0.length : Int) then ((impl_NodeAt_1.f ((rd_T96 x0 x8).f0) ((rd_T96 x0 x8).f1) ((rd_T96 x0 x8).f2) ((rd_T96 x0 x8).f3.f0) ((rd_T96 x0 x8).f3.f1) ((rd_T96 x0 x8).f3.f2) ((rd_T96 x0 x8).f3.f3) ((rd_T96 x0 x8).f3.f4) ((rd_T96 x0 x8).f3.f5) ((rd_T96 x0 x8).f4.f0) ((rd_T96 x0 x8).f4.f1) ((rd_T96 x0 x8).f5) ((rd_T96 x0 x8).f6) ((rd_T96 x0 x8).f7) ((rd_T96 x0 x8).f8.f0) ((rd_T96 x0 x8).f8.f1.f0) ((rd_T96 x0 x8).f8.f1.f1) ((rd_T96 x0 x8).f8.f1.f2) ((rd_T96 x0 x8).f8.f1.f3) ((rd_T96 x0 x8).f8.f2.f0) ((rd_T96 x0 x8).f8.f2.f1) ((rd_T96 x0 x8).f8.f2.f2) ((rd_T96 x0 x8).f8.f2.f3) ((rd_T96 x0 x8).f8.f3.f0) ((rd_T96 x0 x8).f8.f3.f1) ((rd_T96 x0 x8).f8.f4.f0) ((rd_T96 x0 x8).f8.f4.f1) ((rd_T96 x0 x8).f9) ((rd_T96 x0 x8).f10) ((rd_T96 x0 x8).f11.f0) ((rd_T96 x0 x8).f11.f1) x3000).bind fun t287 => (if t287 = true then (some x8) else (impl_Node_NodeAt_1.l0 k x0 x7 (wrap64 (x8 + 1)) x3000))) else (none)) else (none)) else (some (-1))
def impl_Node_NodeAt_1.f (k : Nat) (l0 : List (S96))  (a2 : Int) : Option (Int) := impl_Node_NodeAt_1.l0 k l0 (l0.length : Int) 0 a2
theorem impl_Node_NodeAt_1.mono_l : ∀ k, (∀ y0 y1 y2 y3, LeO (impl_Node_NodeAt_1.l0 k y0 y1 y2 y3) (impl_Node_NodeAt_1.l0 (k + 1) y0 y1 y2 y3))
 | 0 => fun _ _ _ _ r h => by simp [impl_Node_NodeAt_1.l0] at h
 | k + 1 => by
  have ih0 := impl_Node_NodeAt_1.mono_l k
  ·intro y0 y1 y2 y3
   unfold impl_Node_NodeAt_1.l0
   repeat' first
   | (with_reducible exact ih0 _ _ _ _)
   | (with_reducible exact LeO.refl _)
   | (with_reducible exact LeO.none _)
   | (with_reducible refine LeO.ite ?_ ?_)
   | (with_reducible refine LeO.bind ?_ (fun _ => ?_))
   | exact ih0 _ _ _ _
   | exact LeO.none _
   | refine LeO.ite ?_ ?_
   | refine LeO.bind ?_ (fun _ => ?_)
theorem impl_Node_NodeAt_1.mono : ∀ a0 a1 k, LeO (impl_Node_NodeAt_1.f k a0 a1) (impl_Node_NodeAt_1.f (k + 1) a0 a1) := by
 intro a0 a1 k
 have ih0 := impl_Node_NodeAt_1.mono_l k
 unfold impl_Node_NodeAt_1.f
 repeat' first
   | (with_reducible exact ih0 _ _ _ _)
   | (with_reducible exact LeO.refl _)
   | (with_reducible exact LeO.none _)
   | (with_reducible refine LeO.ite ?_ ?_)
   | (with_reducible refine LeO.bind ?_ (fun _ => ?_))
   | exact ih0 _ _ _ _
   | exact LeO.none _
   | refine LeO.ite ?_ ?_
   | refine LeO.bind ?_ (fun _ => ?_)
set_option maxHeartbeats 8000000 in
set_option maxRecDepth 100000 in
theorem impl_Node_NodeAt_1.calls (k : Nat) (A0 : Option Addr) (c0 : Nat) (l0 : List (S96))  (g2 : Nat) (a2 : Int) (r : Int) (w : World) (hr0 : Kd.C k96 w A0 l0.length l0) (hc0 : l0.length ≤ c0) (hb2 : w.heap[g2]? = some (.cells #[.int .i64 a2] 3 (0, 0))) (h : impl_Node_NodeAt_1.f k l0 a2 = some r) :
  Calls Try.prog 118 #[.slice A0 l0.length c0, .func (.func 119) #[] #[.pointer (some ⟨g2, 0, none⟩)]] w fun e w' => e = .returned (.int .i64 r) ∧ Below w.heap.size w w' := by
 have hu96 := Try.underlying96
 have HR0 := Aside0.mk hr0
 have HC0 := Aside0.mk hc0
 clear hr0 hc0
 have BK2 := Aside0.mk hb2
 clear hb2
 have HB := Aside0.mk (Below.refl w.heap.size w)
 have H : (impl_Node_NodeAt_1.l0 k l0 (l0.length : Int) 0 a2) = some r := h
 clear h
 have H' := Aside0.mk H
 clear H
 go_enter Try.func118, Try.ntmps118
 go_wp2
 go_loopg [8] k (fun kq v8 w' => ∃ (x8_1 : Int), v8 = .int .i64 x8_1 ∧ Aside0 (impl_Node_NodeAt_1.l0 kq l0 (l0.length : Int) x8_1 a2 = some r) ∧ Aside0 (kq ≤ k) ∧ Aside0 (w'.heap[g2]? = some (.cells #[.int .i64 a2] 3 (0, 0))) ∧ Aside0 (Below w.heap.size w w'))
 case atStart => exact ⟨(0), (by first | rfl | (simp; done) | (simp [*]; done)), H', ⟨Nat.le_refl _⟩, ⟨by (with_reducible repeat (first | refine blk_drewN ?_ _ | refine blk_drew ?_ | refine blk_alloc ?_ _)); exact BK2.out⟩, ⟨by repeat (first | (with_reducible first | exact HB.out | apply below_alloc | apply pw_below_drewN | apply below_drew1 | refine below_set ?_ GE2.out) | exact HB.out)⟩⟩
 case round =>
  clear H'
  try clear c1
  try clear p2
  obtain ⟨x8_1, rfl, HA, HK1, BK2, HB⟩ := hrel
  cases gk with
  | zero => exact absurd HA.out (by simp [impl_Node_NodeAt_1.l0])
  | succ k1 =>
   have H := HA.out; clear HA
   simp only [impl_Node_NodeAt_1.l0] at H
   by_cases c4 : x8_1 < (l0.length : Int)
   ·rw [if_pos c4] at H
    have c4b0 : decide (x8_1 < (l0.length : Int)) = true := decide_eq_true c4
    clear c4
    by_cases c5 : 0 ≤ x8_1
    ·rw [if_pos c5] at H
     have c5b0 : decide (0 ≤ x8_1) = true := decide_eq_true c5
     clear c5
     by_cases c6 : x8_1 < (l0.length : Int)
     ·rw [if_pos c6] at H
      have c6b0 : decide (x8_1 < (l0.length : Int)) = true := decide_eq_true c6
      clear c6
      replace H := Option.bind_eq_some_iff.mp H
      obtain ⟨t287, A70, H⟩ := H
      replace H : (if t287 = true then (some x8_1) else (impl_Node_NodeAt_1.l0 k1 l0 (l0.length : Int) (wrap64 (x8_1 + 1)) a2)) = some r := H
      have A7 := Aside0.mk A70
      clear A70
      by_cases c8 : t287 = true
      ·subst c8
       have H1 : (some x8_1) = some r := by rw [if_pos rfl] at H; exact H
       clear H; have H := H1; clear H1
       obtain rfl := Option.some.inj H
       simp only [Option.some.injEq, Prod.mk.injEq] at H
       obtain ⟨rfl⟩ := H
       have p286 : 0 ≤ (x8_1 : Int) := of_decide_eq_true (by first | (with_reducible assumption) | assumption)
       have q286 : x8_1 < (l0.length : Int) := of_decide_eq_true (by first | (with_reducible assumption) | assumption)
       obtain ⟨ad286, A286_9, c286_9, A286_10, c286_10, A286_13, c286_13, A286_29, c286_29, A286_30, c286_30, e286, hx286_0, hx286_1, hx286_2, hx286_3, hx286_4, hx286_5, hx286_6, hx286_7, hx286_8, hx286_9, hx286_10, hx286_11, hx286_12, hx286_13, hx286_14, hx286_15, hx286_16, hx286_17, hx286_18, hx286_19, hx286_20, hx286_21, hx286_22, hx286_23, hx286_24, hx286_25, hx286_26, hx286_27, hx286_28, hx286_29, hx286_30, hl286_9, hi286_9, hl286_10, hi286_10, hl286_13, hi286_13, hl286_29, hi286_29, hl286_30, hi286_30⟩ := at_T96 HR0.out x8_1 p286 q286
       cases e286
       replace hx286_0 := (HB.out.cell (World.block_lt_of_cell? w _ hx286_0)).trans hx286_0
       replace hx286_1 := (HB.out.cell (World.block_lt_of_cell? w _ hx286_1)).trans hx286_1
       replace hx286_2 := (HB.out.cell (World.block_lt_of_cell? w _ hx286_2)).trans hx286_2
       replace hx286_3 := (HB.out.cell (World.block_lt_of_cell? w _ hx286_3)).trans hx286_3
       replace hx286_4 := (HB.out.cell (World.block_lt_of_cell? w _ hx286_4)).trans hx286_4
       replace hx286_5 := (HB.out.cell (World.block_lt_of_cell? w _ hx286_5)).trans hx286_5
       replace hx286_6 := (HB.out.cell (World.block_lt_of_cell? w _ hx286_6)).trans hx286_6
       replace hx286_7 := (HB.out.cell (World.block_lt_of_cell? w _ hx286_7)).trans hx286_7
       replace hx286_8 := (HB.out.cell (World.block_lt_of_cell? w _ hx286_8)).trans hx286_8
       replace hx286_9 := (HB.out.cell (World.block_lt_of_cell? w _ hx286_9)).trans hx286_9
       replace hx286_10 := (HB.out.cell (World.block_lt_of_cell? w _ hx286_10)).trans hx286_10
       replace hx286_11 := (HB.out.cell (World.block_lt_of_cell? w _ hx286_11)).trans hx286_11
       replace hx286_12 := (HB.out.cell (World.block_lt_of_cell? w _ hx286_12)).trans hx286_12
       replace hx286_13 := (HB.out.cell (World.block_lt_of_cell? w _ hx286_13)).trans hx286_13
       replace hx286_14 := (HB.out.cell (World.block_lt_of_cell? w _ hx286_14)).trans hx286_14
       replace hx286_15 := (HB.out.cell (World.block_lt_of_cell? w _ hx286_15)).trans hx286_15
       replace hx286_16 := (HB.out.cell (World.block_lt_of_cell? w _ hx286_16)).trans hx286_16
       replace hx286_17 := (HB.out.cell (World.block_lt_of_cell? w _ hx286_17)).trans hx286_17
       replace hx286_18 := (HB.out.cell (World.block_lt_of_cell? w _ hx286_18)).trans hx286_18
       replace hx286_19 := (HB.out.cell (World.block_lt_of_cell? w _ hx286_19)).trans hx286_19
       replace hx286_20 := (HB.out.cell (World.block_lt_of_cell? w _ hx286_20)).trans hx286_20
       replace hx286_21 := (HB.out.cell (World.block_lt_of_cell? w _ hx286_21)).trans hx286_21
       replace hx286_22 := (HB.out.cell (World.block_lt_of_cell? w _ hx286_22)).trans hx286_22
       replace hx286_23 := (HB.out.cell (World.block_lt_of_cell? w _ hx286_23)).trans hx286_23
       replace hx286_24 := (HB.out.cell (World.block_lt_of_cell? w _ hx286_24)).trans hx286_24
       replace hx286_25 := (HB.out.cell (World.block_lt_of_cell? w _ hx286_25)).trans hx286_25
       replace hx286_26 := (HB.out.cell (World.block_lt_of_cell? w _ hx286_26)).trans hx286_26
       replace hx286_27 := (HB.out.cell (World.block_lt_of_cell? w _ hx286_27)).trans hx286_27
       replace hx286_28 := (HB.out.cell (World.block_lt_of_cell? w _ hx286_28)).trans hx286_28
       replace hx286_29 := (HB.out.cell (World.block_lt_of_cell? w _ hx286_29)).trans hx286_29
       replace hx286_30 := (HB.out.cell (World.block_lt_of_cell? w _ hx286_30)).trans hx286_30
       have HR286_9 := Aside0.mk hi286_9
       have HC286_9 := Aside0.mk hl286_9
       clear hi286_9 hl286_9
       have HR286_10 := Aside0.mk hi286_10
       have HC286_10 := Aside0.mk hl286_10
       clear hi286_10 hl286_10
       have HR286_13 := Aside0.mk hi286_13
       have HC286_13 := Aside0.mk hl286_13
       clear hi286_13 hl286_13
       have HR286_29 := Aside0.mk hi286_29
       have HC286_29 := Aside0.mk hl286_29
       clear hi286_29 hl286_29
       have HR286_30 := Aside0.mk hi286_30
       have HC286_30 := Aside0.mk hl286_30
       clear hi286_30 hl286_30
       replace p286 := eq_true p286
       replace q286 := eq_true q286
       go_wp2_with (first | ((with_reducible refine gate_load (t := 96) rfl ?_); refine load_event (t := 96) rfl rfl (p := ad286.add (x8_1.toNat * 31)) rfl [.int .i64 (rd_T96 l0 x8_1).f0, .int .i64 (rd_T96 l0 x8_1).f1, .bool (rd_T96 l0 x8_1).f2, .int .i64 (rd_T96 l0 x8_1).f3.f0, .int .i64 (rd_T96 l0 x8_1).f3.f1, .int .i64 (rd_T96 l0 x8_1).f3.f2, .int .i64 (rd_T96 l0 x8_1).f3.f3, .int .i64 (rd_T96 l0 x8_1).f3.f4, .int .i64 (rd_T96 l0 x8_1).f3.f5, .slice A286_9 (rd_T96 l0 x8_1).f4.f0.length c286_9, .slice A286_10 (rd_T96 l0 x8_1).f4.f1.length c286_10, .bool (rd_T96 l0 x8_1).f5, .int .i64 (rd_T96 l0 x8_1).f6, .slice A286_13 (rd_T96 l0 x8_1).f7.length c286_13, .int .i64 (rd_T96 l0 x8_1).f8.f0, .int .i64 (rd_T96 l0 x8_1).f8.f1.f0, .int .i64 (rd_T96 l0 x8_1).f8.f1.f1, .int .i64 (rd_T96 l0 x8_1).f8.f1.f2, .int .i64 (rd_T96 l0 x8_1).f8.f1.f3, .int .i64 (rd_T96 l0 x8_1).f8.f2.f0, .int .i64 (rd_T96 l0 x8_1).f8.f2.f1, .int .i64 (rd_T96 l0 x8_1).f8.f2.f2, .int .i64 (rd_T96 l0 x8_1).f8.f2.f3, .int .i64 (rd_T96 l0 x8_1).f8.f3.f0, .int .i64 (rd_T96 l0 x8_1).f8.f3.f1, .int .i64 (rd_T96 l0 x8_1).f8.f4.f0, .int .i64 (rd_T96 l0 x8_1).f8.f4.f1, .int .i64 (rd_T96 l0 x8_1).f9, .int .i64 (rd_T96 l0 x8_1).f10, .slice A286_29 (rd_T96 l0 x8_1).f11.f0.length c286_29, .slice A286_30 (rd_T96 l0 x8_1).f11.f1.length c286_30] _ (lie_cons (by first | exact hx286_0 | simpa using hx286_0) (lie_cons (by first | exact hx286_1 | simpa using hx286_1) (lie_cons (by first | exact hx286_2 | simpa using hx286_2) (lie_cons (by first | exact hx286_3 | simpa using hx286_3) (lie_cons (by first | exact hx286_4 | simpa using hx286_4) (lie_cons (by first | exact hx286_5 | simpa using hx286_5) (lie_cons (by first | exact hx286_6 | simpa using hx286_6) (lie_cons (by first | exact hx286_7 | simpa using hx286_7) (lie_cons (by first | exact hx286_8 | simpa using hx286_8) (lie_cons (by first | exact hx286_9 | simpa using hx286_9) (lie_cons (by first | exact hx286_10 | simpa using hx286_10) (lie_cons (by first | exact hx286_11 | simpa using hx286_11) (lie_cons (by first | exact hx286_12 | simpa using hx286_12) (lie_cons (by first | exact hx286_13 | simpa using hx286_13) (lie_cons (by first | exact hx286_14 | simpa using hx286_14) (lie_cons (by first | exact hx286_15 | simpa using hx286_15) (lie_cons (by first | exact hx286_16 | simpa using hx286_16) (lie_cons (by first | exact hx286_17 | simpa using hx286_17) (lie_cons (by first | exact hx286_18 | simpa using hx286_18) (lie_cons (by first | exact hx286_19 | simpa using hx286_19) (lie_cons (by first | exact hx286_20 | simpa using hx286_20) (lie_cons (by first | exact hx286_21 | simpa using hx286_21) (lie_cons (by first | exact hx286_22 | simpa using hx286_22) (lie_cons (by first | exact hx286_23 | simpa using hx286_23) (lie_cons (by first | exact hx286_24 | simpa using hx286_24) (lie_cons (by first | exact hx286_25 | simpa using hx286_25) (lie_cons (by first | exact hx286_26 | simpa using hx286_26) (lie_cons (by first | exact hx286_27 | simpa using hx286_27) (lie_cons (by first | exact hx286_28 | simpa using hx286_28) (lie_cons (by first | exact hx286_29 | simpa using hx286_29) (lie_cons (by first | exact hx286_30 | simpa using hx286_30) (lie_nil _ _ _)))))))))))))))))))))))))))))))) Try.underlying96 rfl (show (Try.prog.info? 96).map (·.size) = some 31 by kernel_rfl) ?_) | (go_at_call 119; (with_reducible refine (impl_NodeAt_1.calls ((rd_T96 l0 x8_1).f0) ((rd_T96 l0 x8_1).f1) ((rd_T96 l0 x8_1).f2) ((rd_T96 l0 x8_1).f3.f0) ((rd_T96 l0 x8_1).f3.f1) ((rd_T96 l0 x8_1).f3.f2) ((rd_T96 l0 x8_1).f3.f3) ((rd_T96 l0 x8_1).f3.f4) ((rd_T96 l0 x8_1).f3.f5) _ _ ((rd_T96 l0 x8_1).f4.f0) _ _ ((rd_T96 l0 x8_1).f4.f1) ((rd_T96 l0 x8_1).f5) ((rd_T96 l0 x8_1).f6) _ _ ((rd_T96 l0 x8_1).f7) ((rd_T96 l0 x8_1).f8.f0) ((rd_T96 l0 x8_1).f8.f1.f0) ((rd_T96 l0 x8_1).f8.f1.f1) ((rd_T96 l0 x8_1).f8.f1.f2) ((rd_T96 l0 x8_1).f8.f1.f3) ((rd_T96 l0 x8_1).f8.f2.f0) ((rd_T96 l0 x8_1).f8.f2.f1) ((rd_T96 l0 x8_1).f8.f2.f2) ((rd_T96 l0 x8_1).f8.f2.f3) ((rd_T96 l0 x8_1).f8.f3.f0) ((rd_T96 l0 x8_1).f8.f3.f1) ((rd_T96 l0 x8_1).f8.f4.f0) ((rd_T96 l0 x8_1).f8.f4.f1) ((rd_T96 l0 x8_1).f9) ((rd_T96 l0 x8_1).f10) _ _ ((rd_T96 l0 x8_1).f11.f0) _ _ ((rd_T96 l0 x8_1).f11.f1) g2 a2 true _ ?side1 ?side2 ?side3 ?side4 ?side5 ?side6 ?side7 ?side8 ?side9 ?side10 ?side11 A7.out).mono ?_); (case side1 => repeat (first | exact (Kd.C_below HR286_9.out HB.out) | (with_reducible refine Kd.C_alloc ?_ _) | (with_reducible refine Kd.C_drewN ?_ _) | (with_reducible refine Kd.C_drew ?_))); (case side2 => exact HC286_9.out); (case side3 => repeat (first | exact (Kd.C_below HR286_10.out HB.out) | (with_reducible refine Kd.C_alloc ?_ _) | (with_reducible refine Kd.C_drewN ?_ _) | (with_reducible refine Kd.C_drew ?_))); (case side4 => exact HC286_10.out); (case side5 => repeat (first | exact (Kd.C_below HR286_13.out HB.out) | (with_reducible refine Kd.C_alloc ?_ _) | (with_reducible refine Kd.C_drewN ?_ _) | (with_reducible refine Kd.C_drew ?_))); (case side6 => exact HC286_13.out); (case side7 => repeat (first | exact (Kd.C_below HR286_29.out HB.out) | (with_reducible refine Kd.C_alloc ?_ _) | (with_reducible refine Kd.C_drewN ?_ _) | (with_reducible refine Kd.C_drew ?_))); (case side8 => exact HC286_29.out); (case side9 => repeat (first | exact (Kd.C_below HR286_30.out HB.out) | (with_reducible refine Kd.C_alloc ?_ _) | (with_reducible refine Kd.C_drewN ?_ _) | (with_reducible refine Kd.C_drew ?_))); (case side10 => exact HC286_30.out); (case side11 => (with_reducible repeat (first | refine blk_drewN ?_ _ | refine blk_drew ?_ | refine blk_alloc ?_ _)); exact BK2.out); rintro e w9 ⟨rfl, hb⟩; have n0_ := Aside0.mk (blk_below (g := g2) (o := .cells #[.int .i64 a2] 3 (0, 0)) z5_11 hb); have n1_ := Aside0.mk (below_step z5_9 hb); clear BK2; clear HB; have BK2 := n0_; have HB := n1_; clear n0_ n1_; (try clear hb); (try clear hb2); (try clear hk); (try clear hi)))
       go_ret
       exact ⟨by first | rfl | (simp [errW_none, errW_some] <;> rfl) | (simp [*, errW_none, errW_some] <;> rfl), by repeat (first | (with_reducible first | exact HB.out | apply below_alloc | apply pw_below_drewN | apply below_drew1 | refine below_set ?_ GE2.out) | exact HB.out)⟩
      ·replace c8 := Bool.eq_false_iff.mpr c8
       subst c8
       have H1 : (impl_Node_NodeAt_1.l0 k1 l0 (l0.length : Int) (wrap64 (x8_1 + 1)) a2) = some r := by rw [if_neg (show ¬ (false = true) by decide)] at H; exact H
       clear H; have H := H1; clear H1
       have H' := Aside0.mk H
       clear H
       have p286 : 0 ≤ (x8_1 : Int) := of_decide_eq_true (by first | (with_reducible assumption) | assumption)
       have q286 : x8_1 < (l0.length : Int) := of_decide_eq_true (by first | (with_reducible assumption) | assumption)
       obtain ⟨ad286, A286_9, c286_9, A286_10, c286_10, A286_13, c286_13, A286_29, c286_29, A286_30, c286_30, e286, hx286_0, hx286_1, hx286_2, hx286_3, hx286_4, hx286_5, hx286_6, hx286_7, hx286_8, hx286_9, hx286_10, hx286_11, hx286_12, hx286_13, hx286_14, hx286_15, hx286_16, hx286_17, hx286_18, hx286_19, hx286_20, hx286_21, hx286_22, hx286_23, hx286_24, hx286_25, hx286_26, hx286_27, hx286_28, hx286_29, hx286_30, hl286_9, hi286_9, hl286_10, hi286_10, hl286_13, hi286_13, hl286_29, hi286_29, hl286_30, hi286_30⟩ := at_T96 HR0.out x8_1 p286 q286
       cases e286
       replace hx286_0 := (HB.out.cell (World.block_lt_of_cell? w _ hx286_0)).trans hx286_0
       replace hx286_1 := (HB.out.cell (World.block_lt_of_cell? w _ hx286_1)).trans hx286_1
       replace hx286_2 := (HB.out.cell (World.block_lt_of_cell? w _ hx286_2)).trans hx286_2
       replace hx286_3 := (HB.out.cell (World.block_lt_of_cell? w _ hx286_3)).trans hx286_3
       replace hx286_4 := (HB.out.cell (World.block_lt_of_cell? w _ hx286_4)).trans hx286_4
       replace hx286_5 := (HB.out.cell (World.block_lt_of_cell? w _ hx286_5)).trans hx286_5
       replace hx286_6 := (HB.out.cell (World.block_lt_of_cell? w _ hx286_6)).trans hx286_6
       replace hx286_7 := (HB.out.cell (World.block_lt_of_cell? w _ hx286_7)).trans hx286_7
       replace hx286_8 := (HB.out.cell (World.block_lt_of_cell? w _ hx286_8)).trans hx286_8
       replace hx286_9 := (HB.out.cell (World.block_lt_of_cell? w _ hx286_9)).trans hx286_9
       replace hx286_10 := (HB.out.cell (World.block_lt_of_cell? w _ hx286_10)).trans hx286_10
       replace hx286_11 := (HB.out.cell (World.block_lt_of_cell? w _ hx286_11)).trans hx286_11
       replace hx286_12 := (HB.out.cell (World.block_lt_of_cell? w _ hx286_12)).trans hx286_12
       replace hx286_13 := (HB.out.cell (World.block_lt_of_cell? w _ hx286_13)).trans hx286_13
       replace hx286_14 := (HB.out.cell (World.block_lt_of_cell? w _ hx286_14)).trans hx286_14
       replace hx286_15 := (HB.out.cell (World.block_lt_of_cell? w _ hx286_15)).trans hx286_15
       replace hx286_16 := (HB.out.cell (World.block_lt_of_cell? w _ hx286_16)).trans hx286_16
       replace hx286_17 := (HB.out.cell (World.block_lt_of_cell? w _ hx286_17)).trans hx286_17
       replace hx286_18 := (HB.out.cell (World.block_lt_of_cell? w _ hx286_18)).trans hx286_18
       replace hx286_19 := (HB.out.cell (World.block_lt_of_cell? w _ hx286_19)).trans hx286_19
       replace hx286_20 := (HB.out.cell (World.block_lt_of_cell? w _ hx286_20)).trans hx286_20
       replace hx286_21 := (HB.out.cell (World.block_lt_of_cell? w _ hx286_21)).trans hx286_21
       replace hx286_22 := (HB.out.cell (World.block_lt_of_cell? w _ hx286_22)).trans hx286_22
       replace hx286_23 := (HB.out.cell (World.block_lt_of_cell? w _ hx286_23)).trans hx286_23
       replace hx286_24 := (HB.out.cell (World.block_lt_of_cell? w _ hx286_24)).trans hx286_24
       replace hx286_25 := (HB.out.cell (World.block_lt_of_cell? w _ hx286_25)).trans hx286_25
       replace hx286_26 := (HB.out.cell (World.block_lt_of_cell? w _ hx286_26)).trans hx286_26
       replace hx286_27 := (HB.out.cell (World.block_lt_of_cell? w _ hx286_27)).trans hx286_27
       replace hx286_28 := (HB.out.cell (World.block_lt_of_cell? w _ hx286_28)).trans hx286_28
       replace hx286_29 := (HB.out.cell (World.block_lt_of_cell? w _ hx286_29)).trans hx286_29
       replace hx286_30 := (HB.out.cell (World.block_lt_of_cell? w _ hx286_30)).trans hx286_30
       have HR286_9 := Aside0.mk hi286_9
       have HC286_9 := Aside0.mk hl286_9
       clear hi286_9 hl286_9
       have HR286_10 := Aside0.mk hi286_10
       have HC286_10 := Aside0.mk hl286_10
       clear hi286_10 hl286_10
       have HR286_13 := Aside0.mk hi286_13
       have HC286_13 := Aside0.mk hl286_13
       clear hi286_13 hl286_13
       have HR286_29 := Aside0.mk hi286_29
       have HC286_29 := Aside0.mk hl286_29
       clear hi286_29 hl286_29
       have HR286_30 := Aside0.mk hi286_30
       have HC286_30 := Aside0.mk hl286_30
       clear hi286_30 hl286_30
       replace p286 := eq_true p286
       replace q286 := eq_true q286
       go_wp2_with (first | ((with_reducible refine gate_load (t := 96) rfl ?_); refine load_event (t := 96) rfl rfl (p := ad286.add (x8_1.toNat * 31)) rfl [.int .i64 (rd_T96 l0 x8_1).f0, .int .i64 (rd_T96 l0 x8_1).f1, .bool (rd_T96 l0 x8_1).f2, .int .i64 (rd_T96 l0 x8_1).f3.f0, .int .i64 (rd_T96 l0 x8_1).f3.f1, .int .i64 (rd_T96 l0 x8_1).f3.f2, .int .i64 (rd_T96 l0 x8_1).f3.f3, .int .i64 (rd_T96 l0 x8_1).f3.f4, .int .i64 (rd_T96 l0 x8_1).f3.f5, .slice A286_9 (rd_T96 l0 x8_1).f4.f0.length c286_9, .slice A286_10 (rd_T96 l0 x8_1).f4.f1.length c286_10, .bool (rd_T96 l0 x8_1).f5, .int .i64 (rd_T96 l0 x8_1).f6, .slice A286_13 (rd_T96 l0 x8_1).f7.length c286_13, .int .i64 (rd_T96 l0 x8_1).f8.f0, .int .i64 (rd_T96 l0 x8_1).f8.f1.f0, .int .i64 (rd_T96 l0 x8_1).f8.f1.f1, .int .i64 (rd_T96 l0 x8_1).f8.f1.f2, .int .i64 (rd_T96 l0 x8_1).f8.f1.f3, .int .i64 (rd_T96 l0 x8_1).f8.f2.f0, .int .i64 (rd_T96 l0 x8_1).f8.f2.f1, .int .i64 (rd_T96 l0 x8_1).f8.f2.f2, .int .i64 (rd_T96 l0 x8_1).f8.f2.f3, .int .i64 (rd_T96 l0 x8_1).f8.f3.f0, .int .i64 (rd_T96 l0 x8_1).f8.f3.f1, .int .i64 (rd_T96 l0 x8_1).f8.f4.f0, .int .i64 (rd_T96 l0 x8_1).f8.f4.f1, .int .i64 (rd_T96 l0 x8_1).f9, .int .i64 (rd_T96 l0 x8_1).f10, .slice A286_29 (rd_T96 l0 x8_1).f11.f0.length c286_29, .slice A286_30 (rd_T96 l0 x8_1).f11.f1.length c286_30] _ (lie_cons (by first | exact hx286_0 | simpa using hx286_0) (lie_cons (by first | exact hx286_1 | simpa using hx286_1) (lie_cons (by first | exact hx286_2 | simpa using hx286_2) (lie_cons (by first | exact hx286_3 | simpa using hx286_3) (lie_cons (by first | exact hx286_4 | simpa using hx286_4) (lie_cons (by first | exact hx286_5 | simpa using hx286_5) (lie_cons (by first | exact hx286_6 | simpa using hx286_6) (lie_cons (by first | exact hx286_7 | simpa using hx286_7) (lie_cons (by first | exact hx286_8 | simpa using hx286_8) (lie_cons (by first | exact hx286_9 | simpa using hx286_9) (lie_cons (by first | exact hx286_10 | simpa using hx286_10) (lie_cons (by first | exact hx286_11 | simpa using hx286_11) (lie_cons (by first | exact hx286_12 | simpa using hx286_12) (lie_cons (by first | exact hx286_13 | simpa using hx286_13) (lie_cons (by first | exact hx286_14 | simpa using hx286_14) (lie_cons (by first | exact hx286_15 | simpa using hx286_15) (lie_cons (by first | exact hx286_16 | simpa using hx286_16) (lie_cons (by first | exact hx286_17 | simpa using hx286_17) (lie_cons (by first | exact hx286_18 | simpa using hx286_18) (lie_cons (by first | exact hx286_19 | simpa using hx286_19) (lie_cons (by first | exact hx286_20 | simpa using hx286_20) (lie_cons (by first | exact hx286_21 | simpa using hx286_21) (lie_cons (by first | exact hx286_22 | simpa using hx286_22) (lie_cons (by first | exact hx286_23 | simpa using hx286_23) (lie_cons (by first | exact hx286_24 | simpa using hx286_24) (lie_cons (by first | exact hx286_25 | simpa using hx286_25) (lie_cons (by first | exact hx286_26 | simpa using hx286_26) (lie_cons (by first | exact hx286_27 | simpa using hx286_27) (lie_cons (by first | exact hx286_28 | simpa using hx286_28) (lie_cons (by first | exact hx286_29 | simpa using hx286_29) (lie_cons (by first | exact hx286_30 | simpa using hx286_30) (lie_nil _ _ _)))))))))))))))))))))))))))))))) Try.underlying96 rfl (show (Try.prog.info? 96).map (·.size) = some 31 by kernel_rfl) ?_) | (go_at_call 119; (with_reducible refine (impl_NodeAt_1.calls ((rd_T96 l0 x8_1).f0) ((rd_T96 l0 x8_1).f1) ((rd_T96 l0 x8_1).f2) ((rd_T96 l0 x8_1).f3.f0) ((rd_T96 l0 x8_1).f3.f1) ((rd_T96 l0 x8_1).f3.f2) ((rd_T96 l0 x8_1).f3.f3) ((rd_T96 l0 x8_1).f3.f4) ((rd_T96 l0 x8_1).f3.f5) _ _ ((rd_T96 l0 x8_1).f4.f0) _ _ ((rd_T96 l0 x8_1).f4.f1) ((rd_T96 l0 x8_1).f5) ((rd_T96 l0 x8_1).f6) _ _ ((rd_T96 l0 x8_1).f7) ((rd_T96 l0 x8_1).f8.f0) ((rd_T96 l0 x8_1).f8.f1.f0) ((rd_T96 l0 x8_1).f8.f1.f1) ((rd_T96 l0 x8_1).f8.f1.f2) ((rd_T96 l0 x8_1).f8.f1.f3) ((rd_T96 l0 x8_1).f8.f2.f0) ((rd_T96 l0 x8_1).f8.f2.f1) ((rd_T96 l0 x8_1).f8.f2.f2) ((rd_T96 l0 x8_1).f8.f2.f3) ((rd_T96 l0 x8_1).f8.f3.f0) ((rd_T96 l0 x8_1).f8.f3.f1) ((rd_T96 l0 x8_1).f8.f4.f0) ((rd_T96 l0 x8_1).f8.f4.f1) ((rd_T96 l0 x8_1).f9) ((rd_T96 l0 x8_1).f10) _ _ ((rd_T96 l0 x8_1).f11.f0) _ _ ((rd_T96 l0 x8_1).f11.f1) g2 a2 false _ ?side1 ?side2 ?side3 ?side4 ?side5 ?side6 ?side7 ?side8 ?side9 ?side10 ?side11 A7.out).mono ?_); (case side1 => repeat (first | exact (Kd.C_below HR286_9.out HB.out) | (with_reducible refine Kd.C_alloc ?_ _) | (with_reducible refine Kd.C_drewN ?_ _) | (with_reducible refine Kd.C_drew ?_))); (case side2 => exact HC286_9.out); (case side3 => repeat (first | exact (Kd.C_below HR286_10.out HB.out) | (with_reducible refine Kd.C_alloc ?_ _) | (with_reducible refine Kd.C_drewN ?_ _) | (with_reducible refine Kd.C_drew ?_))); (case side4 => exact HC286_10.out); (case side5 => repeat (first | exact (Kd.C_below HR286_13.out HB.out) | (with_reducible refine Kd.C_alloc ?_ _) | (with_reducible refine Kd.C_drewN ?_ _) | (with_reducible refine Kd.C_drew ?_))); (case side6 => exact HC286_13.out); (case side7 => repeat (first | exact (Kd.C_below HR286_29.out HB.out) | (with_reducible refine Kd.C_alloc ?_ _) | (with_reducible refine Kd.C_drewN ?_ _) | (with_reducible refine Kd.C_drew ?_))); (case side8 => exact HC286_29.out); (case side9 => repeat (first | exact (Kd.C_below HR286_30.out HB.out) | (with_reducible refine Kd.C_alloc ?_ _) | (with_reducible refine Kd.C_drewN ?_ _) | (with_reducible refine Kd.C_drew ?_))); (case side10 => exact HC286_30.out); (case side11 => (with_reducible repeat (first | refine blk_drewN ?_ _ | refine blk_drew ?_ | refine blk_alloc ?_ _)); exact BK2.out); rintro e w10 ⟨rfl, hb⟩; have n0_ := Aside0.mk (blk_below (g := g2) (o := .cells #[.int .i64 a2] 3 (0, 0)) z5_11 hb); have n1_ := Aside0.mk (below_step z5_9 hb); clear BK2; clear HB; have BK2 := n0_; have HB := n1_; clear n0_ n1_; (try clear hb); (try clear hb2); (try clear hk); (try clear hi)))
       go_roundg k1
       case measure => have := HK1.out; omega
       case rel => exact ⟨(wrap64 (x8_1 + 1)), (by first | rfl | (simp; done) | (simp [*]; done)), H', ⟨by have := HK1.out; omega⟩, ⟨by (with_reducible repeat (first | refine blk_drewN ?_ _ | refine blk_drew ?_ | refine blk_alloc ?_ _)); exact BK2.out⟩, ⟨by repeat (first | (with_reducible first | exact HB.out | apply below_alloc | apply pw_below_drewN | apply below_drew1 | refine below_set ?_ GE2.out) | exact HB.out)⟩⟩
     ·rw [if_neg c6] at H
      exact absurd H (by simp)
    ·rw [if_neg c5] at H
     exact absurd H (by simp)
   ·rw [if_neg c4] at H
    have c4b0 : decide (x8_1 < (l0.length : Int)) = false := decide_eq_false c4
    clear c4
    obtain rfl := Option.some.inj H
    simp only [Option.some.injEq, Prod.mk.injEq] at H
    obtain ⟨rfl⟩ := H
    go_wp2
    go_ret
    exact ⟨by first | rfl | (simp [errW_none, errW_some] <;> rfl) | (simp [*, errW_none, errW_some] <;> rfl), by repeat (first | (with_reducible first | exact HB.out | apply below_alloc | apply pw_below_drewN | apply below_drew1 | refine below_set ?_ GE2.out) | exact HB.out)⟩

/-! ### impl_NodeAt: function 51 -/
def impl_NodeAt.f (k : Nat) (l0_0 : List (S96)) (a1 : Int) : Option (Int) := (impl_Node_NodeAt_1.f k l0_0 a1).bind fun t290 => (some t290)
theorem impl_NodeAt.mono : ∀ a0 a1 k, LeO (impl_NodeAt.f k a0 a1) (impl_NodeAt.f (k + 1) a0 a1) := by
 intro a0 a1 k
 unfold impl_NodeAt.f
 repeat' first
   | (with_reducible exact impl_Node_NodeAt_1.mono _ _ _)
   | (with_reducible exact LeO.refl _)
   | (with_reducible exact LeO.none _)
   | (with_reducible refine LeO.ite ?_ ?_)
   | (with_reducible refine LeO.bind ?_ (fun _ => ?_))
   | exact impl_Node_NodeAt_1.mono _ _ _
   | exact LeO.none _
   | refine LeO.ite ?_ ?_
   | refine LeO.bind ?_ (fun _ => ?_)
set_option maxHeartbeats 8000000 in
set_option maxRecDepth 100000 in
theorem impl_NodeAt.calls (k : Nat) (A0_0 : Option Addr) (c0_0 : Nat) (l0_0 : List (S96)) (a1 : Int) (r : Int) (w : World) (hr0_0 : Kd.C k96 w A0_0 l0_0.length l0_0) (hc0_0 : l0_0.length ≤ c0_0) (h : impl_NodeAt.f k l0_0 a1 = some r) :
  Calls Try.prog 51 #[.agg #[.slice A0_0 l0_0.length c0_0], .int .i64 a1] w fun e w' => e = .returned (.int .i64 r) ∧ Below w.heap.size w w' := by
 have hu77 := Try.underlying77
 have hmf : ∀ (fn : Fn) (first cap : Array Value) (w : World), (Instr.makeFunc fn first cap).run Try.prog w = .ok (.func fn first cap) w := fun _ _ _ _ => rfl
 have HR0_0 := Aside0.mk hr0_0
 have HC0_0 := Aside0.mk hc0_0
 clear hr0_0 hc0_0
 have HB := Aside0.mk (Below.refl w.heap.size w)
 have H : ((impl_Node_NodeAt_1.f k l0_0 a1).bind fun t290 => (some t290)) = some r := h
 clear h
 replace H := Option.bind_eq_some_iff.mp H
 obtain ⟨t290, A30, H⟩ := H
 replace H : (some t290) = some r := H
 have A3 := Aside0.mk A30
 clear A30
 obtain rfl := Option.some.inj H
 simp only [Option.some.injEq, Prod.mk.injEq] at H
 obtain ⟨rfl⟩ := H
 go_enter Try.func51, Try.ntmps51
 go_wp2_with (first | ((with_reducible refine gate_dst (N := 2) rfl ?_); refine box_event ?hg (N := 2) ?hd (cs := #[.slice A0_0 l0_0.length c0_0]) (t := 77) ?hr ?_; (case hd => rfl); (case hg => rfl); (case hr => first | (go_simp; done) | (go_simp; rfl)); intro gb288 hg w4 hbox hb; have n0_ := Aside0.mk (below_step z5_0 hb); have n1_ := Aside0.mk (hbox); have n2_ := Aside0.mk ((by rw [hg]; exact (below_size z5_0) : w.heap.size ≤ gb288)); have n3_ := Aside0.mk ((by rw [hg]; exact (below_size z5_0) : w.heap.size ≤ gb288)); clear HB; have HB := n0_; have BK288 := n1_; have GW288 := n2_; have GE288 := n3_; clear n0_ n1_ n2_ n3_; clear hb hbox hg) | ((with_reducible refine gate_dst (N := 3) rfl ?_); refine box_event ?hg (N := 3) ?hd (cs := #[.int .i64 a1]) (t := 3) ?hr ?_; (case hd => rfl); (case hg => rfl); (case hr => first | (go_simp; done) | (go_simp; rfl)); intro gb289 hg w5 hbox hb; have n0_ := Aside0.mk (blk_below (g := gb288) (o := .cells #[.slice A0_0 l0_0.length c0_0] 77 (0, 0)) z5_2 hb); have n1_ := Aside0.mk (below_step z5_3 hb); have n2_ := Aside0.mk (hbox); have n3_ := Aside0.mk ((by rw [hg]; exact (below_size z5_3) : w.heap.size ≤ gb289)); have n4_ := Aside0.mk ((by rw [hg]; exact (below_size z5_3) : w.heap.size ≤ gb289)); have n5_ := Aside0.mk ((by rw [hg]; exact Nat.ne_of_lt (blk_lt (g := gb288) (o := .cells #[.slice A0_0 l0_0.length c0_0] 77 (0, 0)) z5_2) : gb288 ≠ gb289)); have n6_ := Aside0.mk ((by rw [hg]; exact Nat.ne_of_gt (blk_lt (g := gb288) (o := .cells #[.slice A0_0 l0_0.length c0_0] 77 (0, 0)) z5_2) : gb289 ≠ gb288)); clear BK288; clear HB; have BK288 := n0_; have HB := n1_; have BK289 := n2_; have GW289 := n3_; have GE289 := n4_; have NB288_289 := n5_; have NB289_288 := n6_; clear n0_ n1_ n2_ n3_ n4_ n5_ n6_; clear hb hbox hg; have hnb6 := NB288_289.out; have hnc6 := NB289_288.out; have hcz7_0 : w5.cell? ⟨gb288, 0, none⟩ = some (.slice A0_0 l0_0.length c0_0) := (blk_cell BK288.out 0).trans rfl; have hfz7_0 := blk_frozen BK288.out 0) | ((with_reducible refine gate_callee (f := 118) rfl ?_); refine goesL_ (some 8) rfl rfl Try.func118 (by kernel_rfl) rfl #[.slice A0_0 l0_0.length c0_0, .func (.func 119) #[] #[.pointer (some ⟨gb289, 0, none⟩)]] rfl z5_1 ?_; (with_reducible refine (impl_Node_NodeAt_1.calls k _ _ l0_0  gb289 a1 t290 _ ?side1 ?side2 ?side3 A3.out).mono ?_); (case side1 => repeat (first | exact (Kd.C_below HR0_0.out HB.out) | (with_reducible refine Kd.C_alloc ?_ _) | (with_reducible refine Kd.C_drewN ?_ _) | (with_reducible refine Kd.C_drew ?_))); (case side2 => exact HC0_0.out); (case side3 => (with_reducible repeat (first | refine blk_drewN ?_ _ | refine blk_drew ?_ | refine blk_alloc ?_ _)); exact BK289.out); rintro e w8 ⟨rfl, hb⟩; refine ⟨_, rfl, ?_⟩; have n0_ := Aside0.mk (blk_below (g := gb288) (o := .cells #[.slice A0_0 l0_0.length c0_0] 77 (0, 0)) z5_2 hb); have n1_ := Aside0.mk (blk_below (g := gb289) (o := .cells #[.int .i64 a1] 3 (0, 0)) (by (with_reducible repeat (first | refine blk_drewN ?_ _ | refine blk_drew ?_ | refine blk_alloc ?_ _)); exact BK289.out) hb); have n2_ := Aside0.mk (below_step (by repeat (first | (with_reducible first | exact HB.out | apply below_alloc | apply pw_below_drewN | apply below_drew1 | refine below_set ?_ GE288.out | refine below_set ?_ GE289.out) | exact HB.out)) hb); clear BK288; clear BK289; clear HB; have BK288 := n0_; have BK289 := n1_; have HB := n2_; clear n0_ n1_ n2_; (try clear hb); (try clear hb2); (try clear hk); (try clear hi)))
 go_ret
 exact ⟨by first | rfl | (simp [errW_none, errW_some] <;> rfl) | (simp [*, errW_none, errW_some] <;> rfl), by repeat (first | (with_reducible first | exact HB.out | apply below_alloc | apply pw_below_drewN | apply below_drew1 | refine below_set ?_ GE288.out | refine below_set ?_ GE289.out) | exact HB.out)⟩

/-! ### impl_DepthOf: function 54 -/
def impl_DepthOf.l0 : Nat → Int → Int → List (S96) → Option (Int)
 | 0, _, _, _ => none
 | k + 1, x1, x5, x292000 => if x5 ≤ 8 then ((impl_NodeAt.f k x292000 x1).bind fun t292 => (if t292 < 0 then (some 0) else (if 0 ≤ t292 then (if t292 < (x292000.length : Int) then (if ((rd_T96 x292000 t292).f1) = 0 then (some x5) else (impl_DepthOf.l0 k ((rd_T96 x292000 t292).f1) (wrap64 (x5 + 1)) x292000)) else (none)) else (none)))) else (some 0)
def impl_DepthOf.f (k : Nat) (l0_0 : List (S96)) (a1 : Int) : Option (Int) := if a1 = 0 then (some 0) else (impl_DepthOf.l0 k a1 1 l0_0)
theorem impl_DepthOf.mono_l : ∀ k, (∀ y0 y1 y2, LeO (impl_DepthOf.l0 k y0 y1 y2) (impl_DepthOf.l0 (k + 1) y0 y1 y2))
 | 0 => fun _ _ _ r h => by simp [impl_DepthOf.l0] at h
 | k + 1 => by
  have ih0 := impl_DepthOf.mono_l k
  ·intro y0 y1 y2
   unfold impl_DepthOf.l0
   repeat' first
   | (with_reducible exact ih0 _ _ _)
   | (with_reducible exact impl_NodeAt.mono _ _ _)
   | (with_reducible exact LeO.refl _)
   | (with_reducible exact LeO.none _)
   | (with_reducible refine LeO.ite ?_ ?_)
   | (with_reducible refine LeO.bind ?_ (fun _ => ?_))
   | exact ih0 _ _ _
   | exact impl_NodeAt.mono _ _ _
   | exact LeO.none _
   | refine LeO.ite ?_ ?_
   | refine LeO.bind ?_ (fun _ => ?_)
theorem impl_DepthOf.mono : ∀ a0 a1 k, LeO (impl_DepthOf.f k a0 a1) (impl_DepthOf.f (k + 1) a0 a1) := by
 intro a0 a1 k
 have ih0 := impl_DepthOf.mono_l k
 unfold impl_DepthOf.f
 repeat' first
   | (with_reducible exact ih0 _ _ _)
   | (with_reducible exact impl_NodeAt.mono _ _ _)
   | (with_reducible exact LeO.refl _)
   | (with_reducible exact LeO.none _)
   | (with_reducible refine LeO.ite ?_ ?_)
   | (with_reducible refine LeO.bind ?_ (fun _ => ?_))
   | exact ih0 _ _ _
   | exact impl_NodeAt.mono _ _ _
   | exact LeO.none _
   | refine LeO.ite ?_ ?_
   | refine LeO.bind ?_ (fun _ => ?_)
set_option maxHeartbeats 8000000 in
set_option maxRecDepth 100000 in
theorem impl_DepthOf.calls (k : Nat) (A0_0 : Option Addr) (c0_0 : Nat) (l0_0 : List (S96)) (a1 : Int) (r : Int) (w : World) (hr0_0 : Kd.C k96 w A0_0 l0_0.length l0_0) (hc0_0 : l0_0.length ≤ c0_0) (h : impl_DepthOf.f k l0_0 a1 = some r) :
  Calls Try.prog 54 #[.agg #[.slice A0_0 l0_0.length c0_0], .int .i64 a1] w fun e w' => e = .returned (.int .i64 r) ∧ Below w.heap.size w w' := by
 have hu77 := Try.underlying77
 have HR0_0 := Aside0.mk hr0_0
 have HC0_0 := Aside0.mk hc0_0
 clear hr0_0 hc0_0
 have HB := Aside0.mk (Below.refl w.heap.size w)
 have H : (if a1 = 0 then (some 0) else (impl_DepthOf.l0 k a1 1 l0_0)) = some r := h
 clear h
 by_cases c3 : a1 = 0
 ·rw [if_pos c3] at H
  have c3b0 : (a1 == 0) = true := beq_iff_eq.mpr c3
  have c3b1 : (a1 != 0) = false := bne_eq_false_iff_eq.mpr c3
  clear c3
  obtain rfl := Option.some.inj H
  simp only [Option.some.injEq, Prod.mk.injEq] at H
  obtain ⟨rfl⟩ := H
  go_enter Try.func54, Try.ntmps54
  go_wp2_with (first | ((with_reducible refine gate_dst (N := 2) rfl ?_); refine box_event ?hg (N := 2) ?hd (cs := #[.slice A0_0 l0_0.length c0_0]) (t := 77) ?hr ?_; (case hd => rfl); (case hg => rfl); (case hr => first | (go_simp; done) | (go_simp; rfl)); intro gb291 hg w4 hbox hb; have n0_ := Aside0.mk (below_step z5_0 hb); have n1_ := Aside0.mk (hbox); have n2_ := Aside0.mk ((by rw [hg]; exact (below_size z5_0) : w.heap.size ≤ gb291)); have n3_ := Aside0.mk ((by rw [hg]; exact (below_size z5_0) : w.heap.size ≤ gb291)); clear HB; have HB := n0_; have BK291 := n1_; have GW291 := n2_; have GE291 := n3_; clear n0_ n1_ n2_ n3_; clear hb hbox hg))
  go_ret
  exact ⟨by first | rfl | (simp [errW_none, errW_some] <;> rfl) | (simp [*, errW_none, errW_some] <;> rfl), by repeat (first | (with_reducible first | exact HB.out | apply below_alloc | apply pw_below_drewN | apply below_drew1 | refine below_set ?_ GE291.out) | exact HB.out)⟩
 ·rw [if_neg c3] at H
  have c3b0 : (a1 == 0) = false := beq_eq_false_iff_ne.mpr c3
  have c3b1 : (a1 != 0) = true := bne_iff_ne.mpr c3
  have H' := Aside0.mk H
  clear H
  go_enter Try.func54, Try.ntmps54
  go_wp2_with (first | ((with_reducible refine gate_dst (N := 2) rfl ?_); refine box_event ?hg (N := 2) ?hd (cs := #[.slice A0_0 l0_0.length c0_0]) (t := 77) ?hr ?_; (case hd => rfl); (case hg => rfl); (case hr => first | (go_simp; done) | (go_simp; rfl)); intro gb291 hg w5 hbox hb; have n0_ := Aside0.mk (below_step z5_0 hb); have n1_ := Aside0.mk (hbox); have n2_ := Aside0.mk ((by rw [hg]; exact (below_size z5_0) : w.heap.size ≤ gb291)); have n3_ := Aside0.mk ((by rw [hg]; exact (below_size z5_0) : w.heap.size ≤ gb291)); clear HB; have HB := n0_; have BK291 := n1_; have GW291 := n2_; have GE291 := n3_; clear n0_ n1_ n2_ n3_; clear hb hbox hg))
  go_loopg [1, 5] k (fun kq v1 v5 w' => ∃ (x1_1 : Int) (x5_1 : Int), v1 = .int .i64 x1_1 ∧ v5 = .int .i64 x5_1 ∧ Aside0 (impl_DepthOf.l0 kq x1_1 x5_1 l0_0 = some r) ∧ Aside0 (kq ≤ k) ∧ Aside0 (w'.heap[gb291]? = some (.cells #[(.slice A0_0 l0_0.length c0_0)] 77 (0, 0))) ∧ Aside0 (Below w.heap.size w w'))
  case atStart => exact ⟨(a1), (1), (by first | rfl | (simp; done) | (simp [*]; done)), (by first | rfl | (simp; done) | (simp [*]; done)), H', ⟨Nat.le_refl _⟩, ⟨by (with_reducible repeat (first | refine blk_drewN ?_ _ | refine blk_drew ?_ | refine blk_alloc ?_ _)); exact BK291.out⟩, ⟨by repeat (first | (with_reducible first | exact HB.out | apply below_alloc | apply pw_below_drewN | apply below_drew1 | refine below_set ?_ GE291.out) | exact HB.out)⟩⟩
  case round =>
   clear H'
   try clear p2
   try clear c3
   try clear c3b0
   try clear c3b1
   try clear c5
   obtain ⟨x1_1, x5_1, rfl, rfl, HA, HK1, BK291, HB⟩ := hrel
   cases gk with
   | zero => exact absurd HA.out (by simp [impl_DepthOf.l0])
   | succ k1 =>
    have H := HA.out; clear HA
    simp only [impl_DepthOf.l0] at H
    by_cases c6 : x5_1 ≤ 8
    ·rw [if_pos c6] at H
     have c6b0 : decide (x5_1 ≤ 8) = true := decide_eq_true c6
     clear c6
     replace H := Option.bind_eq_some_iff.mp H
     obtain ⟨t292, A70, H⟩ := H
     replace H : (if t292 < 0 then (some 0) else (if 0 ≤ t292 then (if t292 < (l0_0.length : Int) then (if ((rd_T96 l0_0 t292).f1) = 0 then (some x5_1) else (impl_DepthOf.l0 k1 ((rd_T96 l0_0 t292).f1) (wrap64 (x5_1 + 1)) l0_0)) else (none)) else (none))) = some r := H
     have A7 := Aside0.mk A70
     clear A70
     by_cases c8 : t292 < 0
     ·rw [if_pos c8] at H
      have c8b0 : decide (t292 < 0) = true := decide_eq_true c8
      clear c8
      obtain rfl := Option.some.inj H
      simp only [Option.some.injEq, Prod.mk.injEq] at H
      obtain ⟨rfl⟩ := H
      have hcz9_0 : wr.cell? ⟨gb291, 0, none⟩ = some (.slice A0_0 l0_0.length c0_0) := (blk_cell BK291.out 0).trans rfl
      have hfz9_0 := blk_frozen BK291.out 0
      go_wp2_with (first | ((with_reducible refine gate_callee (f := 51) rfl ?_); refine goesL_ (some 15) rfl rfl Try.func51 (by kernel_rfl) rfl #[.agg #[.slice A0_0 l0_0.length c0_0], .int .i64 x1_1] rfl z5_1 ?_; (with_reducible refine (impl_NodeAt.calls k1 _ _ l0_0 x1_1 t292 _ ?side1 ?side2 A7.out).mono ?_); (case side1 => repeat (first | exact (Kd.C_below HR0_0.out HB.out) | (with_reducible refine Kd.C_alloc ?_ _) | (with_reducible refine Kd.C_drewN ?_ _) | (with_reducible refine Kd.C_drew ?_))); (case side2 => exact HC0_0.out); rintro e w10 ⟨rfl, hb⟩; refine ⟨_, rfl, ?_⟩; have n0_ := Aside0.mk (blk_below (g := gb291) (o := .cells #[.slice A0_0 l0_0.length c0_0] 77 (0, 0)) z5_6 hb); have n1_ := Aside0.mk (below_step z5_4 hb); clear BK291; clear HB; have BK291 := n0_; have HB := n1_; clear n0_ n1_; (try clear hb); (try clear hb2); (try clear hk); (try clear hi)))
      go_ret
      exact ⟨by first | rfl | (simp [errW_none, errW_some] <;> rfl) | (simp [*, errW_none, errW_some] <;> rfl), by repeat (first | (with_reducible first | exact HB.out | apply below_alloc | apply pw_below_drewN | apply below_drew1 | refine below_set ?_ GE291.out) | exact HB.out)⟩
     ·rw [if_neg c8] at H
      have c8b0 : decide (t292 < 0) = false := decide_eq_false c8
      clear c8
      by_cases c11 : 0 ≤ t292
      ·rw [if_pos c11] at H
       have c11b0 : decide (0 ≤ t292) = true := decide_eq_true c11
       clear c11
       by_cases c12 : t292 < (l0_0.length : Int)
       ·rw [if_pos c12] at H
        have c12b0 : decide (t292 < (l0_0.length : Int)) = true := decide_eq_true c12
        clear c12
        by_cases c13 : ((rd_T96 l0_0 t292).f1) = 0
        ·rw [if_pos c13] at H
         have c13b0 : (((rd_T96 l0_0 t292).f1) == 0) = true := beq_iff_eq.mpr c13
         have c13b1 : (((rd_T96 l0_0 t292).f1) != 0) = false := bne_eq_false_iff_eq.mpr c13
         clear c13
         obtain rfl := Option.some.inj H
         simp only [Option.some.injEq, Prod.mk.injEq] at H
         obtain ⟨rfl⟩ := H
         have hcz14_0 : wr.cell? ⟨gb291, 0, none⟩ = some (.slice A0_0 l0_0.length c0_0) := (blk_cell BK291.out 0).trans rfl
         have hfz14_0 := blk_frozen BK291.out 0
         go_wp2_with (first | ((with_reducible refine gate_callee (f := 51) rfl ?_); refine goesL_ (some 15) rfl rfl Try.func51 (by kernel_rfl) rfl #[.agg #[.slice A0_0 l0_0.length c0_0], .int .i64 x1_1] rfl z5_1 ?_; (with_reducible refine (impl_NodeAt.calls k1 _ _ l0_0 x1_1 t292 _ ?side1 ?side2 A7.out).mono ?_); (case side1 => repeat (first | exact (Kd.C_below HR0_0.out HB.out) | (with_reducible refine Kd.C_alloc ?_ _) | (with_reducible refine Kd.C_drewN ?_ _) | (with_reducible refine Kd.C_drew ?_))); (case side2 => exact HC0_0.out); rintro e w15 ⟨rfl, hb⟩; refine ⟨_, rfl, ?_⟩; have n0_ := Aside0.mk (blk_below (g := gb291) (o := .cells #[.slice A0_0 l0_0.length c0_0] 77 (0, 0)) z5_6 hb); have n1_ := Aside0.mk (below_step z5_4 hb); clear BK291; clear HB; have BK291 := n0_; have HB := n1_; clear n0_ n1_; (try clear hb); (try clear hb2); (try clear hk); (try clear hi); have hcz16_0 : w15.cell? ⟨gb291, 0, none⟩ = some (.slice A0_0 l0_0.length c0_0) := (blk_cell BK291.out 0).trans rfl; have hfz16_0 := blk_frozen BK291.out 0; have p293 : 0 ≤ (t292 : Int) := of_decide_eq_true (by first | (with_reducible assumption) | assumption); have q293 : t292 < (l0_0.length : Int) := of_decide_eq_true (by first | (with_reducible assumption) | assumption); obtain ⟨ad293, A293_9, c293_9, A293_10, c293_10, A293_13, c293_13, A293_29, c293_29, A293_30, c293_30, e293, hx293_0, hx293_1, hx293_2, hx293_3, hx293_4, hx293_5, hx293_6, hx293_7, hx293_8, hx293_9, hx293_10, hx293_11, hx293_12, hx293_13, hx293_14, hx293_15, hx293_16, hx293_17, hx293_18, hx293_19, hx293_20, hx293_21, hx293_22, hx293_23, hx293_24, hx293_25, hx293_26, hx293_27, hx293_28, hx293_29, hx293_30, hl293_9, hi293_9, hl293_10, hi293_10, hl293_13, hi293_13, hl293_29, hi293_29, hl293_30, hi293_30⟩ := at_T96 HR0_0.out t292 p293 q293; cases e293; replace hx293_0 := (HB.out.cell (World.block_lt_of_cell? w _ hx293_0)).trans hx293_0; replace hx293_1 := (HB.out.cell (World.block_lt_of_cell? w _ hx293_1)).trans hx293_1; replace hx293_2 := (HB.out.cell (World.block_lt_of_cell? w _ hx293_2)).trans hx293_2; replace hx293_3 := (HB.out.cell (World.block_lt_of_cell? w _ hx293_3)).trans hx293_3; replace hx293_4 := (HB.out.cell (World.block_lt_of_cell? w _ hx293_4)).trans hx293_4; replace hx293_5 := (HB.out.cell (World.block_lt_of_cell? w _ hx293_5)).trans hx293_5; replace hx293_6 := (HB.out.cell (World.block_lt_of_cell? w _ hx293_6)).trans hx293_6; replace hx293_7 := (HB.out.cell (World.block_lt_of_cell? w _ hx293_7)).trans hx293_7; replace hx293_8 := (HB.out.cell (World.block_lt_of_cell? w _ hx293_8)).trans hx293_8; replace hx293_9 := (HB.out.cell (World.block_lt_of_cell? w _ hx293_9)).trans hx293_9; replace hx293_10 := (HB.out.cell (World.block_lt_of_cell? w _ hx293_10)).trans hx293_10; replace hx293_11 := (HB.out.cell (World.block_lt_of_cell? w _ hx293_11)).trans hx293_11; replace hx293_12 := (HB.out.cell (World.block_lt_of_cell? w _ hx293_12)).trans hx293_12; replace hx293_13 := (HB.out.cell (World.block_lt_of_cell? w _ hx293_13)).trans hx293_13; replace hx293_14 := (HB.out.cell (World.block_lt_of_cell? w _ hx293_14)).trans hx293_14; replace hx293_15 := (HB.out.cell (World.block_lt_of_cell? w _ hx293_15)).trans hx293_15; replace hx293_16 := (HB.out.cell (World.block_lt_of_cell? w _ hx293_16)).trans hx293_16; replace hx293_17 := (HB.out.cell (World.block_lt_of_cell? w _ hx293_17)).trans hx293_17; replace hx293_18 := (HB.out.cell (World.block_lt_of_cell? w _ hx293_18)).trans hx293_18; replace hx293_19 := (HB.out.cell (World.block_lt_of_cell? w _ hx293_19)).trans hx293_19; replace hx293_20 := (HB.out.cell (World.block_lt_of_cell? w _ hx293_20)).trans hx293_20; replace hx293_21 := (HB.out.cell (World.block_lt_of_cell? w _ hx293_21)).trans hx293_21; replace hx293_22 := (HB.out.cell (World.block_lt_of_cell? w _ hx293_22)).trans hx293_22; replace hx293_23 := (HB.out.cell (World.block_lt_of_cell? w _ hx293_23)).trans hx293_23; replace hx293_24 := (HB.out.cell (World.block_lt_of_cell? w _ hx293_24)).trans hx293_24; replace hx293_25 := (HB.out.cell (World.block_lt_of_cell? w _ hx293_25)).trans hx293_25; replace hx293_26 := (HB.out.cell (World.block_lt_of_cell? w _ hx293_26)).trans hx293_26; replace hx293_27 := (HB.out.cell (World.block_lt_of_cell? w _ hx293_27)).trans hx293_27; replace hx293_28 := (HB.out.cell (World.block_lt_of_cell? w _ hx293_28)).trans hx293_28; replace hx293_29 := (HB.out.cell (World.block_lt_of_cell? w _ hx293_29)).trans hx293_29; replace hx293_30 := (HB.out.cell (World.block_lt_of_cell? w _ hx293_30)).trans hx293_30; have HR293_9 := Aside0.mk hi293_9; have HC293_9 := Aside0.mk hl293_9; clear hi293_9 hl293_9; have HR293_10 := Aside0.mk hi293_10; have HC293_10 := Aside0.mk hl293_10; clear hi293_10 hl293_10; have HR293_13 := Aside0.mk hi293_13; have HC293_13 := Aside0.mk hl293_13; clear hi293_13 hl293_13; have HR293_29 := Aside0.mk hi293_29; have HC293_29 := Aside0.mk hl293_29; clear hi293_29 hl293_29; have HR293_30 := Aside0.mk hi293_30; have HC293_30 := Aside0.mk hl293_30; clear hi293_30 hl293_30; replace p293 := eq_true p293; replace q293 := eq_true q293))
         go_ret
         exact ⟨by first | rfl | (simp [errW_none, errW_some] <;> rfl) | (simp [*, errW_none, errW_some] <;> rfl), by repeat (first | (with_reducible first | exact HB.out | apply below_alloc | apply pw_below_drewN | apply below_drew1 | refine below_set ?_ GE291.out) | exact HB.out)⟩
        ·rw [if_neg c13] at H
         have c13b0 : (((rd_T96 l0_0 t292).f1) == 0) = false := beq_eq_false_iff_ne.mpr c13
         have c13b1 : (((rd_T96 l0_0 t292).f1) != 0) = true := bne_iff_ne.mpr c13
         have H' := Aside0.mk H
         clear H
         have hcz17_0 : wr.cell? ⟨gb291, 0, none⟩ = some (.slice A0_0 l0_0.length c0_0) := (blk_cell BK291.out 0).trans rfl
         have hfz17_0 := blk_frozen BK291.out 0
         go_wp2_with (first | ((with_reducible refine gate_callee (f := 51) rfl ?_); refine goesL_ (some 15) rfl rfl Try.func51 (by kernel_rfl) rfl #[.agg #[.slice A0_0 l0_0.length c0_0], .int .i64 x1_1] rfl z5_1 ?_; (with_reducible refine (impl_NodeAt.calls k1 _ _ l0_0 x1_1 t292 _ ?side1 ?side2 A7.out).mono ?_); (case side1 => repeat (first | exact (Kd.C_below HR0_0.out HB.out) | (with_reducible refine Kd.C_alloc ?_ _) | (with_reducible refine Kd.C_drewN ?_ _) | (with_reducible refine Kd.C_drew ?_))); (case side2 => exact HC0_0.out); rintro e w18 ⟨rfl, hb⟩; refine ⟨_, rfl, ?_⟩; have n0_ := Aside0.mk (blk_below (g := gb291) (o := .cells #[.slice A0_0 l0_0.length c0_0] 77 (0, 0)) z5_6 hb); have n1_ := Aside0.mk (below_step z5_4 hb); clear BK291; clear HB; have BK291 := n0_; have HB := n1_; clear n0_ n1_; (try clear hb); (try clear hb2); (try clear hk); (try clear hi); have hcz19_0 : w18.cell? ⟨gb291, 0, none⟩ = some (.slice A0_0 l0_0.length c0_0) := (blk_cell BK291.out 0).trans rfl; have hfz19_0 := blk_frozen BK291.out 0; have p293 : 0 ≤ (t292 : Int) := of_decide_eq_true (by first | (with_reducible assumption) | assumption); have q293 : t292 < (l0_0.length : Int) := of_decide_eq_true (by first | (with_reducible assumption) | assumption); obtain ⟨ad293, A293_9, c293_9, A293_10, c293_10, A293_13, c293_13, A293_29, c293_29, A293_30, c293_30, e293, hx293_0, hx293_1, hx293_2, hx293_3, hx293_4, hx293_5, hx293_6, hx293_7, hx293_8, hx293_9, hx293_10, hx293_11, hx293_12, hx293_13, hx293_14, hx293_15, hx293_16, hx293_17, hx293_18, hx293_19, hx293_20, hx293_21, hx293_22, hx293_23, hx293_24, hx293_25, hx293_26, hx293_27, hx293_28, hx293_29, hx293_30, hl293_9, hi293_9, hl293_10, hi293_10, hl293_13, hi293_13, hl293_29, hi293_29, hl293_30, hi293_30⟩ := at_T96 HR0_0.out t292 p293 q293; cases e293; replace hx293_0 := (HB.out.cell (World.block_lt_of_cell? w _ hx293_0)).trans hx293_0; replace hx293_1 := (HB.out.cell (World.block_lt_of_cell? w _ hx293_1)).trans hx293_1; replace hx293_2 := (HB.out.cell (World.block_lt_of_cell? w _ hx293_2)).trans hx293_2; replace hx293_3 := (HB.out.cell (World.block_lt_of_cell? w _ hx293_3)).trans hx293_3; replace hx293_4 := (HB.out.cell (World.block_lt_of_cell? w _ hx293_4)).trans hx293_4; replace hx293_5 := (HB.out.cell (World.block_lt_of_cell? w _ hx293_5)).trans hx293_5; replace hx293_6 := (HB.out.cell (World.block_lt_of_cell? w _ hx293_6)).trans hx293_6; replace hx293_7 := (HB.out.cell (World.block_lt_of_cell? w _ hx293_7)).trans hx293_7; replace hx293_8 := (HB.out.cell (World.block_lt_of_cell? w _ hx293_8)).trans hx293_8; replace hx293_9 := (HB.out.cell (World.block_lt_of_cell? w _ hx293_9)).trans hx293_9; replace hx293_10 := (HB.out.cell (World.block_lt_of_cell? w _ hx293_10)).trans hx293_10; replace hx293_11 := (HB.out.cell (World.block_lt_of_cell? w _ hx293_11)).trans hx293_11; replace hx293_12 := (HB.out.cell (World.block_lt_of_cell? w _ hx293_12)).trans hx293_12; replace hx293_13 := (HB.out.cell (World.block_lt_of_cell? w _ hx293_13)).trans hx293_13; replace hx293_14 := (HB.out.cell (World.block_lt_of_cell? w _ hx293_14)).trans hx293_14; replace hx293_15 := (HB.out.cell (World.block_lt_of_cell? w _ hx293_15)).trans hx293_15; replace hx293_16 := (HB.out.cell (World.block_lt_of_cell? w _ hx293_16)).trans hx293_16; replace hx293_17 := (HB.out.cell (World.block_lt_of_cell? w _ hx293_17)).trans hx293_17; replace hx293_18 := (HB.out.cell (World.block_lt_of_cell? w _ hx293_18)).trans hx293_18; replace hx293_19 := (HB.out.cell (World.block_lt_of_cell? w _ hx293_19)).trans hx293_19; replace hx293_20 := (HB.out.cell (World.block_lt_of_cell? w _ hx293_20)).trans hx293_20; replace hx293_21 := (HB.out.cell (World.block_lt_of_cell? w _ hx293_21)).trans hx293_21; replace hx293_22 := (HB.out.cell (World.block_lt_of_cell? w _ hx293_22)).trans hx293_22; replace hx293_23 := (HB.out.cell (World.block_lt_of_cell? w _ hx293_23)).trans hx293_23; replace hx293_24 := (HB.out.cell (World.block_lt_of_cell? w _ hx293_24)).trans hx293_24; replace hx293_25 := (HB.out.cell (World.block_lt_of_cell? w _ hx293_25)).trans hx293_25; replace hx293_26 := (HB.out.cell (World.block_lt_of_cell? w _ hx293_26)).trans hx293_26; replace hx293_27 := (HB.out.cell (World.block_lt_of_cell? w _ hx293_27)).trans hx293_27; replace hx293_28 := (HB.out.cell (World.block_lt_of_cell? w _ hx293_28)).trans hx293_28; replace hx293_29 := (HB.out.cell (World.block_lt_of_cell? w _ hx293_29)).trans hx293_29; replace hx293_30 := (HB.out.cell (World.block_lt_of_cell? w _ hx293_30)).trans hx293_30; have HR293_9 := Aside0.mk hi293_9; have HC293_9 := Aside0.mk hl293_9; clear hi293_9 hl293_9; have HR293_10 := Aside0.mk hi293_10; have HC293_10 := Aside0.mk hl293_10; clear hi293_10 hl293_10; have HR293_13 := Aside0.mk hi293_13; have HC293_13 := Aside0.mk hl293_13; clear hi293_13 hl293_13; have HR293_29 := Aside0.mk hi293_29; have HC293_29 := Aside0.mk hl293_29; clear hi293_29 hl293_29; have HR293_30 := Aside0.mk hi293_30; have HC293_30 := Aside0.mk hl293_30; clear hi293_30 hl293_30; replace p293 := eq_true p293; replace q293 := eq_true q293))
         go_roundg k1
         case measure => have := HK1.out; omega
         case rel => exact ⟨((rd_T96 l0_0 t292).f1), (wrap64 (x5_1 + 1)), (by first | rfl | (simp; done) | (simp [*]; done)), (by first | rfl | (simp; done) | (simp [*]; done)), H', ⟨by have := HK1.out; omega⟩, ⟨by (with_reducible repeat (first | refine blk_drewN ?_ _ | refine blk_drew ?_ | refine blk_alloc ?_ _)); exact BK291.out⟩, ⟨by repeat (first | (with_reducible first | exact HB.out | apply below_alloc | apply pw_below_drewN | apply below_drew1 | refine below_set ?_ GE291.out) | exact HB.out)⟩⟩
       ·rw [if_neg c12] at H
        exact absurd H (by simp)
      ·rw [if_neg c11] at H
       exact absurd H (by simp)
    ·rw [if_neg c6] at H
     have c6b0 : decide (x5_1 ≤ 8) = false := decide_eq_false c6
     clear c6
     obtain rfl := Option.some.inj H
     simp only [Option.some.injEq, Prod.mk.injEq] at H
     obtain ⟨rfl⟩ := H
     go_wp2
     go_ret
     exact ⟨by first | rfl | (simp [errW_none, errW_some] <;> rfl) | (simp [*, errW_none, errW_some] <;> rfl), by repeat (first | (with_reducible first | exact HB.out | apply below_alloc | apply pw_below_drewN | apply below_drew1 | refine below_set ?_ GE291.out) | exact HB.out)⟩

end Go.Proofs.Ytgdlbilpfmjeaaa.MFnExactDepthOf
