/- Functions of the program as Lean functions, and the proof that a call comes to just these: machine text of this session's own program (myprint.py). -/
import Derived.Test.YtgdlbilpfmjeaaaMFnExactMaskOfx0
import Derived.Test.YtgdlbilpfmjeaaaMFnExactMaskOfx3
namespace Go.Proofs.Ytgdlbilpfmjeaaa.MFnExactMaskOf
open Go.RowKit Go.Proofs.YtgdlbilpfmjeaaaW.PrintWords Go.Proofs.YtgdlbilpfmjeaaaW.PrintLast Go.Proofs.YtgdlbilpfmjeaaaW.PrintMore
attribute [local go_sem] max2_int min2_int max_two min_two max_three min_three max_four min_four   -- for this text's walks alone
set_option linter.unusedVariables false
set_option linter.unusedSimpArgs false

/-! ### spec_WindOf: function 178 -/
mutual
def spec_WindOf.l0 : Nat → List (S32) → Int → Int → Int → Int → Option (Int)
  | 0, _, _, _, _, _ => none
  | k + 1, x0, x5, x6, x160000, x160001 => if x6 < (x0.length : Int) then (if 0 ≤ x6 then (if (x0.length : Int) = 0 then (none) else (if 0 ≤ (Int.tmod (wrap64 (x6 + 1)) (x0.length : Int)) then (if (Int.tmod (wrap64 (x6 + 1)) (x0.length : Int)) < (x0.length : Int) then ((spec_l10Near.f ((rd_T32 x0 x6).f0) ((rd_T32 x0 x6).f1)).bind fun t165 => (if t165 = true then ((spec_l10Near.f ((rd_T32 x0 (Int.tmod (wrap64 (x6 + 1)) (x0.length : Int))).f0) ((rd_T32 x0 (Int.tmod (wrap64 (x6 + 1)) (x0.length : Int))).f1)).bind fun t166 => (spec_WindOf.j1 k x0 x5 x6 (!t166) x160000 x160001 ((rd_T32 x0 x6).f0) ((rd_T32 x0 x6).f1) ((rd_T32 x0 (Int.tmod (wrap64 (x6 + 1)) (x0.length : Int))).f0) ((rd_T32 x0 (Int.tmod (wrap64 (x6 + 1)) (x0.length : Int))).f1))) else (spec_WindOf.j1 k x0 x5 x6 true x160000 x160001 ((rd_T32 x0 x6).f0) ((rd_T32 x0 x6).f1) ((rd_T32 x0 (Int.tmod (wrap64 (x6 + 1)) (x0.length : Int))).f0) ((rd_T32 x0 (Int.tmod (wrap64 (x6 + 1)) (x0.length : Int))).f1)))) else (none)) else (none))) else (none)) else (some x5)
def spec_WindOf.j1 : Nat → List (S32) → Int → Int → Bool → Int → Int → Int → Int → Int → Int → Option (Int)
  | 0, _, _, _, _, _, _, _, _, _, _ => none
  | k + 1, x0, x5, x6, x38, x160000, x160001, x163000, x163001, x165000, x165001 => if x38 = true then (some 0) else (if x163001 ≤ x160001 then (if x160001 < x165001 then (spec_WindOf.j2 k x0 x5 x6 (wrap64 ((wrap64 ((wrap64 (x165000 - x163000)) * (wrap64 (x160001 - x163001)))) - (wrap64 ((wrap64 (x160000 - x163000)) * (wrap64 (x165001 - x163001)))))) (decide ((wrap64 ((wrap64 ((wrap64 (x165000 - x163000)) * (wrap64 (x160001 - x163001)))) - (wrap64 ((wrap64 (x160000 - x163000)) * (wrap64 (x165001 - x163001)))))) > 0)) x160000 x160001 x163000 x163001 x165000 x165001) else (spec_WindOf.j2 k x0 x5 x6 (wrap64 ((wrap64 ((wrap64 (x165000 - x163000)) * (wrap64 (x160001 - x163001)))) - (wrap64 ((wrap64 (x160000 - x163000)) * (wrap64 (x165001 - x163001)))))) false x160000 x160001 x163000 x163001 x165000 x165001)) else (spec_WindOf.j2 k x0 x5 x6 (wrap64 ((wrap64 ((wrap64 (x165000 - x163000)) * (wrap64 (x160001 - x163001)))) - (wrap64 ((wrap64 (x160000 - x163000)) * (wrap64 (x165001 - x163001)))))) false x160000 x160001 x163000 x163001 x165000 x165001))
def spec_WindOf.j2 : Nat → List (S32) → Int → Int → Int → Bool → Int → Int → Int → Int → Int → Int → Option (Int)
  | 0, _, _, _, _, _, _, _, _, _, _, _ => none
  | k + 1, x0, x5, x6, x9, x77, x160000, x160001, x163000, x163001, x165000, x165001 => if x77 = true then (if x165001 ≤ x160001 then (if x160001 < x163001 then (if x9 < 0 then (spec_WindOf.l0 k x0 (wrap64 ((wrap64 (x5 + 1)) - 1)) (wrap64 (x6 + 1)) x160000 x160001) else (spec_WindOf.l0 k x0 (wrap64 (x5 + 1)) (wrap64 (x6 + 1)) x160000 x160001)) else (spec_WindOf.l0 k x0 (wrap64 (x5 + 1)) (wrap64 (x6 + 1)) x160000 x160001)) else (spec_WindOf.l0 k x0 (wrap64 (x5 + 1)) (wrap64 (x6 + 1)) x160000 x160001)) else (if x165001 ≤ x160001 then (if x160001 < x163001 then (if x9 < 0 then (spec_WindOf.l0 k x0 (wrap64 (x5 - 1)) (wrap64 (x6 + 1)) x160000 x160001) else (spec_WindOf.l0 k x0 x5 (wrap64 (x6 + 1)) x160000 x160001)) else (spec_WindOf.l0 k x0 x5 (wrap64 (x6 + 1)) x160000 x160001)) else (spec_WindOf.l0 k x0 x5 (wrap64 (x6 + 1)) x160000 x160001))
end
def spec_WindOf.f (k : Nat) (l0 : List (S32)) (a1_0 : Int) (a1_1 : Int) : Option (Int) := (spec_l10Near.f a1_0 a1_1).bind fun t160 => (if t160 = true then (spec_WindOf.l0 k l0 0 0 a1_0 a1_1) else (some 0))
theorem spec_WindOf.mono_l : ∀ k, (∀ y0 y1 y2 y3 y4, LeO (spec_WindOf.l0 k y0 y1 y2 y3 y4) (spec_WindOf.l0 (k + 1) y0 y1 y2 y3 y4)) ∧ (∀ y0 y1 y2 y3 y4 y5 y6 y7 y8 y9, LeO (spec_WindOf.j1 k y0 y1 y2 y3 y4 y5 y6 y7 y8 y9) (spec_WindOf.j1 (k + 1) y0 y1 y2 y3 y4 y5 y6 y7 y8 y9)) ∧ (∀ y0 y1 y2 y3 y4 y5 y6 y7 y8 y9 y10, LeO (spec_WindOf.j2 k y0 y1 y2 y3 y4 y5 y6 y7 y8 y9 y10) (spec_WindOf.j2 (k + 1) y0 y1 y2 y3 y4 y5 y6 y7 y8 y9 y10))
  | 0 => ⟨fun _ _ _ _ _ r h => by simp [spec_WindOf.l0] at h, fun _ _ _ _ _ _ _ _ _ _ r h => by simp [spec_WindOf.j1] at h, fun _ _ _ _ _ _ _ _ _ _ _ r h => by simp [spec_WindOf.j2] at h⟩
  | k + 1 => by
    obtain ⟨ih0, ih1, ih2⟩ := spec_WindOf.mono_l k
    refine ⟨?_, ?_, ?_⟩
    · intro y0 y1 y2 y3 y4
      unfold spec_WindOf.l0
      repeat' first
      | (with_reducible exact ih0 _ _ _ _ _)
      | (with_reducible exact ih1 _ _ _ _ _ _ _ _ _ _)
      | (with_reducible exact ih2 _ _ _ _ _ _ _ _ _ _ _)
      | (with_reducible exact LeO.refl _)
      | (with_reducible exact LeO.none _)
      | (with_reducible refine LeO.ite ?_ ?_)
      | (with_reducible refine LeO.bind ?_ (fun _ => ?_))
      | exact ih0 _ _ _ _ _
      | exact ih1 _ _ _ _ _ _ _ _ _ _
      | exact ih2 _ _ _ _ _ _ _ _ _ _ _
      | exact LeO.none _
      | refine LeO.ite ?_ ?_
      | refine LeO.bind ?_ (fun _ => ?_)
    · intro y0 y1 y2 y3 y4 y5 y6 y7 y8 y9
      unfold spec_WindOf.j1
      repeat' first
      | (with_reducible exact ih0 _ _ _ _ _)
      | (with_reducible exact ih1 _ _ _ _ _ _ _ _ _ _)
      | (with_reducible exact ih2 _ _ _ _ _ _ _ _ _ _ _)
      | (with_reducible exact LeO.refl _)
      | (with_reducible exact LeO.none _)
      | (with_reducible refine LeO.ite ?_ ?_)
      | (with_reducible refine LeO.bind ?_ (fun _ => ?_))
      | exact ih0 _ _ _ _ _
      | exact ih1 _ _ _ _ _ _ _ _ _ _
      | exact ih2 _ _ _ _ _ _ _ _ _ _ _
      | exact LeO.none _
      | refine LeO.ite ?_ ?_
      | refine LeO.bind ?_ (fun _ => ?_)
    · intro y0 y1 y2 y3 y4 y5 y6 y7 y8 y9 y10
      unfold spec_WindOf.j2
      repeat' first
      | (with_reducible exact ih0 _ _ _ _ _)
      | (with_reducible exact ih1 _ _ _ _ _ _ _ _ _ _)
      | (with_reducible exact ih2 _ _ _ _ _ _ _ _ _ _ _)
      | (with_reducible exact LeO.refl _)
      | (with_reducible exact LeO.none _)
      | (with_reducible refine LeO.ite ?_ ?_)
      | (with_reducible refine LeO.bind ?_ (fun _ => ?_))
      | exact ih0 _ _ _ _ _
      | exact ih1 _ _ _ _ _ _ _ _ _ _
      | exact ih2 _ _ _ _ _ _ _ _ _ _ _
      | exact LeO.none _
      | refine LeO.ite ?_ ?_
      | refine LeO.bind ?_ (fun _ => ?_)
theorem spec_WindOf.mono : ∀ a0 a1 a2 k, LeO (spec_WindOf.f k a0 a1 a2) (spec_WindOf.f (k + 1) a0 a1 a2) := by
  intro a0 a1 a2 k
  obtain ⟨ih0, ih1, ih2⟩ := spec_WindOf.mono_l k
  unfold spec_WindOf.f
  repeat' first
      | (with_reducible exact ih0 _ _ _ _ _)
      | (with_reducible exact ih1 _ _ _ _ _ _ _ _ _ _)
      | (with_reducible exact ih2 _ _ _ _ _ _ _ _ _ _ _)
      | (with_reducible exact LeO.refl _)
      | (with_reducible exact LeO.none _)
      | (with_reducible refine LeO.ite ?_ ?_)
      | (with_reducible refine LeO.bind ?_ (fun _ => ?_))
      | exact ih0 _ _ _ _ _
      | exact ih1 _ _ _ _ _ _ _ _ _ _
      | exact ih2 _ _ _ _ _ _ _ _ _ _ _
      | exact LeO.none _
      | refine LeO.ite ?_ ?_
      | refine LeO.bind ?_ (fun _ => ?_)
set_option maxHeartbeats 8000000 in
set_option maxRecDepth 100000 in
theorem spec_WindOf.calls (k : Nat) (A0 : Option Addr) (c0 : Nat) (l0 : List (S32)) (a1_0 : Int) (a1_1 : Int) (r : Int) (w : World) (hr0 : Kd.C k32 w A0 l0.length l0) (hc0 : l0.length ≤ c0) (h : spec_WindOf.f k l0 a1_0 a1_1 = some r) :
    Calls Try.prog 178 #[.slice A0 l0.length c0, .agg #[.int .i64 a1_0, .int .i64 a1_1]] w fun e w' => e = .returned (.int .i64 r) ∧ Below w.heap.size w w' := by
  have hu32 := Try.underlying32
  have HR0 := Aside0.mk hr0
  have HC0 := Aside0.mk hc0
  clear hr0 hc0
  have HB := Aside0.mk (Below.refl w.heap.size w)
  have H : ((spec_l10Near.f a1_0 a1_1).bind fun t160 => (if t160 = true then (spec_WindOf.l0 k l0 0 0 a1_0 a1_1) else (some 0))) = some r := h
  clear h
  replace H := Option.bind_eq_some_iff.mp H
  obtain ⟨t160, A30, H⟩ := H
  replace H : (if t160 = true then (spec_WindOf.l0 k l0 0 0 a1_0 a1_1) else (some 0)) = some r := H
  have A3 := Aside0.mk A30
  clear A30
  by_cases c4 : t160 = true
  · subst c4
    have H1 : (spec_WindOf.l0 k l0 0 0 a1_0 a1_1) = some r := by rw [if_pos rfl] at H; exact H
    clear H
    have H := H1
    clear H1
    have H' := Aside0.mk H
    clear H
    go_enter Try.func178, Try.ntmps178
    go_wp2_with (first | ((with_reducible refine gate_dst (N := 3) rfl ?_); refine box_event ?hg (N := 3) ?hd (cs := #[.int .i64 a1_0, .int .i64 a1_1]) (t := 32) ?hr ?_; (case hd => rfl); (case hg => rfl); (case hr => first | (go_simp; done) | (go_simp; rfl)); intro gb159 hg w5 hbox hb; have n0_ := Aside0.mk (below_step (by repeat (first | (with_reducible first | exact HB.out | apply below_alloc | apply pw_below_drewN | apply below_drew1) | exact HB.out)) hb); have n1_ := Aside0.mk (hbox); have n2_ := Aside0.mk ((by rw [hg]; exact (below_size (by repeat (first | (with_reducible first | exact HB.out | apply below_alloc | apply pw_below_drewN | apply below_drew1) | exact HB.out))) : w.heap.size ≤ gb159)); have n3_ := Aside0.mk ((by rw [hg]; exact (below_size (by repeat (first | (with_reducible first | exact HB.out | apply below_alloc | apply pw_below_drewN | apply below_drew1) | exact HB.out))) : w.heap.size ≤ gb159)); clear HB; have HB := n0_; have BK159 := n1_; have GW159 := n2_; have GE159 := n3_; clear n0_ n1_ n2_ n3_; clear hb hbox hg; have hcz6_0 : w5.cell? ⟨gb159, 0, none⟩ = some (.int .i64 a1_0) := (blk_cell BK159.out 0).trans rfl; have hcz6_1 : w5.cell? ⟨gb159, 1, none⟩ = some (.int .i64 a1_1) := (blk_cell BK159.out 1).trans rfl; have hfz6_0 := blk_frozen BK159.out 0; have hfz6_1 := blk_frozen BK159.out 1) | ((with_reducible refine gate_callee (f := 192) rfl ?_); refine goesL_ (some 11) rfl rfl Try.func192 (by kernel_rfl) rfl #[.agg #[.int .i64 a1_0, .int .i64 a1_1]] rfl (by (try simp only [List.map_toArray, List.map_cons, List.map_nil]); first | done | rfl | (simp only [List.length_drop, List.length_take]; rfl)) ?_; (with_reducible refine (spec_l10Near.calls a1_0 a1_1 true _ A3.out).mono ?_); rintro e w7 ⟨rfl, hb⟩; refine ⟨_, rfl, ?_⟩; have n0_ := Aside0.mk (blk_below (g := gb159) (o := .cells #[.int .i64 a1_0, .int .i64 a1_1] 32 (0, 0)) (by (with_reducible repeat (first | refine blk_drewN ?_ _ | refine blk_drew ?_ | refine blk_alloc ?_ _)); exact BK159.out) hb); have n1_ := Aside0.mk (below_step (by repeat (first | (with_reducible first | exact HB.out | apply below_alloc | apply pw_below_drewN | apply below_drew1 | refine below_set ?_ GE159.out) | exact HB.out)) hb); clear BK159; clear HB; have BK159 := n0_; have HB := n1_; clear n0_ n1_; (try clear hb); (try clear hb2); (try clear hk); (try clear hi)))
    go_loopg [5, 6] k (fun kq v5 v6 w' => ∃ (x5_1 : Int) (x6_1 : Int), v5 = .int .i64 x5_1 ∧ v6 = .int .i64 x6_1 ∧ Aside0 (spec_WindOf.l0 kq l0 x5_1 x6_1 a1_0 a1_1 = some r) ∧ Aside0 (kq ≤ k) ∧ Aside0 (w'.heap[gb159]? = some (.cells #[.int .i64 a1_0, .int .i64 a1_1] 32 (0, 0))) ∧ Aside0 (Below w.heap.size w w'))
    case atStart => exact ⟨(0), (0), (by first | rfl | (simp; done) | (simp [*]; done)), (by first | rfl | (simp; done) | (simp [*]; done)), H', ⟨Nat.le_refl _⟩, ⟨by (with_reducible repeat (first | refine blk_drewN ?_ _ | refine blk_drew ?_ | refine blk_alloc ?_ _)); exact BK159.out⟩, ⟨by repeat (first | (with_reducible first | exact HB.out | apply below_alloc | apply pw_below_drewN | apply below_drew1 | refine below_set ?_ GE159.out) | exact HB.out)⟩⟩
    case round =>
      clear H'
      try clear c1
      try clear p2
      try clear c4
      try clear hcz6_0
      try clear hcz6_1
      try clear hfz6_0
      try clear hfz6_1
      obtain ⟨x5_1, x6_1, rfl, rfl, HA, HK1, BK159, HB⟩ := hrel
      cases gk with
      | zero => exact absurd HA.out (by simp [spec_WindOf.l0])
      | succ k1 =>
        have H := HA.out
        clear HA
        simp only [spec_WindOf.l0] at H
        by_cases c8 : x6_1 < (l0.length : Int)
        · rw [if_pos c8] at H
          have c8b0 : decide (x6_1 < (l0.length : Int)) = true := decide_eq_true c8
          clear c8
          by_cases c9 : 0 ≤ x6_1
          · rw [if_pos c9] at H
            have c9b0 : decide (0 ≤ x6_1) = true := decide_eq_true c9
            clear c9
            by_cases c10 : (l0.length : Int) = 0
            · rw [if_pos c10] at H
              exact absurd H (by simp)
            · rw [if_neg c10] at H
              have c10b0 : ((l0.length : Int) == 0) = false := beq_eq_false_iff_ne.mpr c10
              have c10b1 : ((l0.length : Int) != 0) = true := bne_iff_ne.mpr c10
              have c10b2 : ¬ (l0 = []) := fun h_ => c10 (by rw [h_]; rfl)
              obtain ⟨ji11, hji11⟩ : ∃ j_ : Int, (Int.tmod (wrap64 (x6_1 + 1)) (l0.length : Int)) = j_ := ⟨_, rfl⟩
              replace H : (if 0 ≤ (ji11) then (if (ji11) < (l0.length : Int) then ((spec_l10Near.f ((rd_T32 l0 x6_1).f0) ((rd_T32 l0 x6_1).f1)).bind fun t165 => (if t165 = true then ((spec_l10Near.f ((rd_T32 l0 (ji11)).f0) ((rd_T32 l0 (ji11)).f1)).bind fun t166 => (spec_WindOf.j1 k1 l0 x5_1 x6_1 (!t166) a1_0 a1_1 ((rd_T32 l0 x6_1).f0) ((rd_T32 l0 x6_1).f1) ((rd_T32 l0 (ji11)).f0) ((rd_T32 l0 (ji11)).f1))) else (spec_WindOf.j1 k1 l0 x5_1 x6_1 true a1_0 a1_1 ((rd_T32 l0 x6_1).f0) ((rd_T32 l0 x6_1).f1) ((rd_T32 l0 (ji11)).f0) ((rd_T32 l0 (ji11)).f1)))) else (none)) else (none)) = some r := by first | (rw [hji11] at H; exact H) | (simp only [hji11] at H ⊢; exact H)
              by_cases c12 : 0 ≤ (ji11)
              · rw [if_pos c12] at H
                have c12b0 : decide (0 ≤ (ji11)) = true := decide_eq_true c12
                clear c12
                by_cases c13 : (ji11) < (l0.length : Int)
                · rw [if_pos c13] at H
                  have c13b0 : decide ((ji11) < (l0.length : Int)) = true := decide_eq_true c13
                  clear c13
                  have HC14 := Aside0.mk H
                  clear H
                  have p161 : 0 ≤ (x6_1 : Int) := of_decide_eq_true (by first | (with_reducible assumption) | assumption)
                  have q161 : x6_1 < (l0.length : Int) := of_decide_eq_true (by first | (with_reducible assumption) | assumption)
                  obtain ⟨ad161, e161, hx161_0, hx161_1⟩ := at_T32 HR0.out x6_1 p161 q161
                  cases e161
                  replace hx161_0 := (HB.out.cell (World.block_lt_of_cell? w _ hx161_0)).trans hx161_0
                  replace hx161_1 := (HB.out.cell (World.block_lt_of_cell? w _ hx161_1)).trans hx161_1
                  replace p161 := eq_true p161
                  replace q161 := eq_true q161
                  go_upto_region 9 with (first | ((with_reducible refine gate_dst (N := 7) rfl ?_); refine box_event ?hg (N := 7) ?hd (cs := #[.int .i64 0, .int .i64 0]) (t := 32) ?hr ?_; (case hd => rfl); (case hg => rfl); (case hr => first | (go_simp; done) | (go_simp; rfl)); intro gb162 hg w15 hbox hb; have n0_ := Aside0.mk (blk_below (g := gb159) (o := .cells #[.int .i64 a1_0, .int .i64 a1_1] 32 (0, 0)) (by (with_reducible repeat (first | refine blk_drewN ?_ _ | refine blk_drew ?_ | refine blk_alloc ?_ _)); exact BK159.out) hb); have n1_ := Aside0.mk (below_step (by repeat (first | (with_reducible first | exact HB.out | apply below_alloc | apply pw_below_drewN | apply below_drew1 | refine below_set ?_ GE159.out) | exact HB.out)) hb); have n2_ := Aside0.mk (hbox); have n3_ := Aside0.mk ((by rw [hg]; exact (below_size (by repeat (first | (with_reducible first | exact HB.out | apply below_alloc | apply pw_below_drewN | apply below_drew1 | refine below_set ?_ GE159.out) | exact HB.out))) : w.heap.size ≤ gb162)); have n4_ := Aside0.mk ((by rw [hg]; exact (below_size (by repeat (first | (with_reducible first | exact HB.out | apply below_alloc | apply pw_below_drewN | apply below_drew1 | refine below_set ?_ GE159.out) | exact HB.out))) : w.heap.size ≤ gb162)); have n5_ := Aside0.mk ((by rw [hg]; exact Nat.ne_of_lt (blk_lt (g := gb159) (o := .cells #[.int .i64 a1_0, .int .i64 a1_1] 32 (0, 0)) (by (with_reducible repeat (first | refine blk_drewN ?_ _ | refine blk_drew ?_ | refine blk_alloc ?_ _)); exact BK159.out)) : gb159 ≠ gb162)); have n6_ := Aside0.mk ((by rw [hg]; exact Nat.ne_of_gt (blk_lt (g := gb159) (o := .cells #[.int .i64 a1_0, .int .i64 a1_1] 32 (0, 0)) (by (with_reducible repeat (first | refine blk_drewN ?_ _ | refine blk_drew ?_ | refine blk_alloc ?_ _)); exact BK159.out)) : gb162 ≠ gb159)); clear BK159; clear HB; have BK159 := n0_; have HB := n1_; have BK162 := n2_; have GW162 := n3_; have GE162 := n4_; have NB159_162 := n5_; have NB162_159 := n6_; clear n0_ n1_ n2_ n3_ n4_ n5_ n6_; clear hb hbox hg; have hnb16 := NB162_159.out; have hnc16 := NB159_162.out; have hcz17_0 : w15.cell? ⟨gb162, 0, none⟩ = some (.int .i64 0) := (blk_cell BK162.out 0).trans rfl; have hcz17_1 : w15.cell? ⟨gb162, 1, none⟩ = some (.int .i64 0) := (blk_cell BK162.out 1).trans rfl; have hfz17_0 := blk_frozen BK162.out 0; have hfz17_1 := blk_frozen BK162.out 1; have p163 : 0 ≤ ((ji11) : Int) := of_decide_eq_true (by first | (with_reducible assumption) | assumption); have q163 : (ji11) < (l0.length : Int) := of_decide_eq_true (by first | (with_reducible assumption) | assumption); obtain ⟨ad163, e163, hx163_0, hx163_1⟩ := at_T32 HR0.out (ji11) p163 q163; obtain rfl : ad161 = ad163 := (by injection e163); have hn163_0 : ad161.block ≠ gb162 := Nat.ne_of_lt (Nat.lt_of_lt_of_le (by have := World.block_lt_of_cell? _ _ hx163_0; first | rwa [add_block] at this | exact this) GW162.out); have hn163_1 : ad161.block ≠ gb162 := Nat.ne_of_lt (Nat.lt_of_lt_of_le (by have := World.block_lt_of_cell? _ _ hx163_0; first | rwa [add_block] at this | exact this) GW162.out); replace hx163_0 := (HB.out.cell (World.block_lt_of_cell? w _ hx163_0)).trans hx163_0; replace hx163_1 := (HB.out.cell (World.block_lt_of_cell? w _ hx163_1)).trans hx163_1; replace hx163_0 := (cell_far (p := ⟨gb162, 0, none⟩) (by first | (rw [add_block]; exact hn163_0) | (show (Addr.add _ _).block ≠ _; rw [add_block]; exact hn163_0) | exact hn163_0) (.int .i64 ((rd_T32 l0 x6_1).f0))).trans hx163_0; replace hx163_1 := (cell_far (p := ⟨gb162, 0, none⟩) (by first | (rw [add_block]; exact hn163_0) | (show (Addr.add _ _).block ≠ _; rw [add_block]; exact hn163_0) | exact hn163_0) (.int .i64 ((rd_T32 l0 x6_1).f0))).trans hx163_1; replace hx163_0 := (cell_far (p := ⟨gb162, 1, none⟩) (by first | (rw [add_block]; exact hn163_1) | (show (Addr.add _ _).block ≠ _; rw [add_block]; exact hn163_1) | exact hn163_1) (.int .i64 ((rd_T32 l0 x6_1).f1))).trans hx163_0; replace hx163_1 := (cell_far (p := ⟨gb162, 1, none⟩) (by first | (rw [add_block]; exact hn163_1) | (show (Addr.add _ _).block ≠ _; rw [add_block]; exact hn163_1) | exact hn163_1) (.int .i64 ((rd_T32 l0 x6_1).f1))).trans hx163_1; clear hn163_0; clear hn163_1; replace p163 := eq_true p163; replace q163 := eq_true q163) | ((with_reducible refine gate_dst (N := 8) rfl ?_); refine box_event ?hg (N := 8) ?hd (cs := #[.int .i64 0, .int .i64 0]) (t := 32) ?hr ?_; (case hd => rfl); (case hg => rfl); (case hr => first | (go_simp; done) | (go_simp; rfl)); intro gb164 hg w18 hbox hb; have n0_ := Aside0.mk (blk_below (g := gb159) (o := .cells #[.int .i64 a1_0, .int .i64 a1_1] 32 (0, 0)) (by (with_reducible repeat (first | refine blk_drewN ?_ _ | refine blk_drew ?_ | refine blk_alloc ?_ _)); refine blk_far ?_ NB159_162.out _; (with_reducible repeat (first | refine blk_drewN ?_ _ | refine blk_drew ?_ | refine blk_alloc ?_ _)); refine blk_far ?_ NB159_162.out _; (with_reducible repeat (first | refine blk_drewN ?_ _ | refine blk_drew ?_ | refine blk_alloc ?_ _)); exact BK159.out) hb); have n1_ := Aside0.mk (blk_below (g := gb162) (o := .cells #[.int .i64 ((rd_T32 l0 x6_1).f0), .int .i64 ((rd_T32 l0 x6_1).f1)] 32 (0, 0)) (by apply blk_fin; (focus ((with_reducible repeat (first | apply blk_putQ | refine blk_drewN ?_ _ | refine blk_drew ?_ | refine blk_alloc ?_ _)); exact BK162.out)); first | (simp only [List.setIfInBounds_toArray, List.set_cons_zero, List.set_cons_succ]; done) | rfl) hb); have n2_ := Aside0.mk (below_step (by repeat (first | (with_reducible first | exact HB.out | apply below_alloc | apply pw_below_drewN | apply below_drew1 | refine below_set ?_ GE159.out | refine below_set ?_ GE162.out) | exact HB.out)) hb); have n3_ := Aside0.mk (hbox); have n4_ := Aside0.mk ((by rw [hg]; exact (below_size (by repeat (first | (with_reducible first | exact HB.out | apply below_alloc | apply pw_below_drewN | apply below_drew1 | refine below_set ?_ GE159.out | refine below_set ?_ GE162.out) | exact HB.out))) : w.heap.size ≤ gb164)); have n5_ := Aside0.mk ((by rw [hg]; exact (below_size (by repeat (first | (with_reducible first | exact HB.out | apply below_alloc | apply pw_below_drewN | apply below_drew1 | refine below_set ?_ GE159.out | refine below_set ?_ GE162.out) | exact HB.out))) : w.heap.size ≤ gb164)); have n6_ := Aside0.mk ((by rw [hg]; exact Nat.ne_of_lt (blk_lt (g := gb159) (o := .cells #[.int .i64 a1_0, .int .i64 a1_1] 32 (0, 0)) (by (with_reducible repeat (first | refine blk_drewN ?_ _ | refine blk_drew ?_ | refine blk_alloc ?_ _)); refine blk_far ?_ NB159_162.out _; (with_reducible repeat (first | refine blk_drewN ?_ _ | refine blk_drew ?_ | refine blk_alloc ?_ _)); refine blk_far ?_ NB159_162.out _; (with_reducible repeat (first | refine blk_drewN ?_ _ | refine blk_drew ?_ | refine blk_alloc ?_ _)); exact BK159.out)) : gb159 ≠ gb164)); have n7_ := Aside0.mk ((by rw [hg]; exact Nat.ne_of_gt (blk_lt (g := gb159) (o := .cells #[.int .i64 a1_0, .int .i64 a1_1] 32 (0, 0)) (by (with_reducible repeat (first | refine blk_drewN ?_ _ | refine blk_drew ?_ | refine blk_alloc ?_ _)); refine blk_far ?_ NB159_162.out _; (with_reducible repeat (first | refine blk_drewN ?_ _ | refine blk_drew ?_ | refine blk_alloc ?_ _)); refine blk_far ?_ NB159_162.out _; (with_reducible repeat (first | refine blk_drewN ?_ _ | refine blk_drew ?_ | refine blk_alloc ?_ _)); exact BK159.out)) : gb164 ≠ gb159)); have n8_ := Aside0.mk ((by rw [hg]; exact Nat.ne_of_lt (blk_lt (g := gb162) (o := .cells #[.int .i64 ((rd_T32 l0 x6_1).f0), .int .i64 ((rd_T32 l0 x6_1).f1)] 32 (0, 0)) (by apply blk_fin; (focus ((with_reducible repeat (first | apply blk_putQ | refine blk_drewN ?_ _ | refine blk_drew ?_ | refine blk_alloc ?_ _)); exact BK162.out)); first | (simp only [List.setIfInBounds_toArray, List.set_cons_zero, List.set_cons_succ]; done) | rfl)) : gb162 ≠ gb164)); have n9_ := Aside0.mk ((by rw [hg]; exact Nat.ne_of_gt (blk_lt (g := gb162) (o := .cells #[.int .i64 ((rd_T32 l0 x6_1).f0), .int .i64 ((rd_T32 l0 x6_1).f1)] 32 (0, 0)) (by apply blk_fin; (focus ((with_reducible repeat (first | apply blk_putQ | refine blk_drewN ?_ _ | refine blk_drew ?_ | refine blk_alloc ?_ _)); exact BK162.out)); first | (simp only [List.setIfInBounds_toArray, List.set_cons_zero, List.set_cons_succ]; done) | rfl)) : gb164 ≠ gb162)); clear BK159; clear BK162; clear HB; have BK159 := n0_; have BK162 := n1_; have HB := n2_; have BK164 := n3_; have GW164 := n4_; have GE164 := n5_; have NB159_164 := n6_; have NB164_159 := n7_; have NB162_164 := n8_; have NB164_162 := n9_; clear n0_ n1_ n2_ n3_ n4_ n5_ n6_ n7_ n8_ n9_; clear hb hbox hg; have hnb19 := NB164_159.out; have hnc19 := NB159_164.out; have hnb20 := NB164_162.out; have hnc20 := NB162_164.out; have hcz21_0 : w18.cell? ⟨gb164, 0, none⟩ = some (.int .i64 0) := (blk_cell BK164.out 0).trans rfl; have hcz21_1 : w18.cell? ⟨gb164, 1, none⟩ = some (.int .i64 0) := (blk_cell BK164.out 1).trans rfl; have hfz21_0 := blk_frozen BK164.out 0; have hfz21_1 := blk_frozen BK164.out 1))
                  (try simp only [Act.put, List.setIfInBounds_toArray, List.set_cons_zero, List.set_cons_succ])
                  go_cut [38] (fun v38 wc => ∃ (kq : Nat) (x38_13 : Bool), v38 = .bool x38_13 ∧ Aside0 (spec_WindOf.j1 kq l0 x5_1 x6_1 x38_13 a1_0 a1_1 ((rd_T32 l0 x6_1).f0) ((rd_T32 l0 x6_1).f1) ((rd_T32 l0 (ji11)).f0) ((rd_T32 l0 (ji11)).f1) = some r) ∧ Aside0 (kq ≤ k1) ∧ Aside0 (wc.heap[gb159]? = some (.cells #[.int .i64 a1_0, .int .i64 a1_1] 32 (0, 0))) ∧ Aside0 (wc.heap[gb162]? = some (.cells #[.int .i64 ((rd_T32 l0 x6_1).f0), .int .i64 ((rd_T32 l0 x6_1).f1)] 32 (0, 0))) ∧ Aside0 (wc.heap[gb164]? = some (.cells #[.int .i64 ((rd_T32 l0 (ji11)).f0), .int .i64 ((rd_T32 l0 (ji11)).f1)] 32 (0, 0))) ∧ Aside0 (Below w.heap.size w wc))
                  case first =>
                    have H := HC14.out
                    clear HC14
                    replace H := Option.bind_eq_some_iff.mp H
                    obtain ⟨t165, A220, H⟩ := H
                    replace H : (if t165 = true then ((spec_l10Near.f ((rd_T32 l0 (ji11)).f0) ((rd_T32 l0 (ji11)).f1)).bind fun t166 => (spec_WindOf.j1 k1 l0 x5_1 x6_1 (!t166) a1_0 a1_1 ((rd_T32 l0 x6_1).f0) ((rd_T32 l0 x6_1).f1) ((rd_T32 l0 (ji11)).f0) ((rd_T32 l0 (ji11)).f1))) else (spec_WindOf.j1 k1 l0 x5_1 x6_1 true a1_0 a1_1 ((rd_T32 l0 x6_1).f0) ((rd_T32 l0 x6_1).f1) ((rd_T32 l0 (ji11)).f0) ((rd_T32 l0 (ji11)).f1))) = some r := H
                    have A22 := Aside0.mk A220
                    clear A220
                    by_cases c23 : t165 = true
                    · subst c23
                      have H1 : ((spec_l10Near.f ((rd_T32 l0 (ji11)).f0) ((rd_T32 l0 (ji11)).f1)).bind fun t166 => (spec_WindOf.j1 k1 l0 x5_1 x6_1 (!t166) a1_0 a1_1 ((rd_T32 l0 x6_1).f0) ((rd_T32 l0 x6_1).f1) ((rd_T32 l0 (ji11)).f0) ((rd_T32 l0 (ji11)).f1))) = some r := by rw [if_pos rfl] at H; exact H
                      clear H
                      have H := H1
                      clear H1
                      replace H := Option.bind_eq_some_iff.mp H
                      obtain ⟨t166, A240, H⟩ := H
                      replace H : (spec_WindOf.j1 k1 l0 x5_1 x6_1 (!t166) a1_0 a1_1 ((rd_T32 l0 x6_1).f0) ((rd_T32 l0 x6_1).f1) ((rd_T32 l0 (ji11)).f0) ((rd_T32 l0 (ji11)).f1)) = some r := H
                      have A24 := Aside0.mk A240
                      clear A240
                      have H' := Aside0.mk H
                      clear H
                      have hnb25 := NB162_159.out
                      have hnc25 := NB159_162.out
                      have hnb26 := NB162_164.out
                      have hnc26 := NB164_162.out
                      have hcz27_0 : w18.cell? ⟨gb162, 0, none⟩ = some (.int .i64 ((rd_T32 l0 x6_1).f0)) := (blk_cell BK162.out 0).trans rfl
                      have hcz27_1 : w18.cell? ⟨gb162, 1, none⟩ = some (.int .i64 ((rd_T32 l0 x6_1).f1)) := (blk_cell BK162.out 1).trans rfl
                      have hfz27_0 := blk_frozen BK162.out 0
                      have hfz27_1 := blk_frozen BK162.out 1
                      go_wp2_with (first | ((with_reducible refine gate_callee (f := 192) rfl ?_); refine goesL_ (some 32) rfl rfl Try.func192 (by kernel_rfl) rfl #[.agg #[.int .i64 ((rd_T32 l0 x6_1).f0), .int .i64 ((rd_T32 l0 x6_1).f1)]] rfl (by (try simp only [List.map_toArray, List.map_cons, List.map_nil]); first | done | rfl | (simp only [List.length_drop, List.length_take]; rfl)) ?_; (with_reducible refine (spec_l10Near.calls ((rd_T32 l0 x6_1).f0) ((rd_T32 l0 x6_1).f1) true _ A22.out).mono ?_); rintro e w28 ⟨rfl, hb⟩; refine ⟨_, rfl, ?_⟩; have n0_ := Aside0.mk (blk_below (g := gb159) (o := .cells #[.int .i64 a1_0, .int .i64 a1_1] 32 (0, 0)) (by (with_reducible repeat (first | refine blk_drewN ?_ _ | refine blk_drew ?_ | refine blk_alloc ?_ _)); refine blk_far ?_ NB159_164.out _; (with_reducible repeat (first | refine blk_drewN ?_ _ | refine blk_drew ?_ | refine blk_alloc ?_ _)); refine blk_far ?_ NB159_164.out _; (with_reducible repeat (first | refine blk_drewN ?_ _ | refine blk_drew ?_ | refine blk_alloc ?_ _)); exact BK159.out) hb); have n1_ := Aside0.mk (blk_below (g := gb162) (o := .cells #[.int .i64 ((rd_T32 l0 x6_1).f0), .int .i64 ((rd_T32 l0 x6_1).f1)] 32 (0, 0)) (by (with_reducible repeat (first | refine blk_drewN ?_ _ | refine blk_drew ?_ | refine blk_alloc ?_ _)); refine blk_far ?_ NB162_164.out _; (with_reducible repeat (first | refine blk_drewN ?_ _ | refine blk_drew ?_ | refine blk_alloc ?_ _)); refine blk_far ?_ NB162_164.out _; (with_reducible repeat (first | refine blk_drewN ?_ _ | refine blk_drew ?_ | refine blk_alloc ?_ _)); exact BK162.out) hb); have n2_ := Aside0.mk (blk_below (g := gb164) (o := .cells #[.int .i64 ((rd_T32 l0 (ji11)).f0), .int .i64 ((rd_T32 l0 (ji11)).f1)] 32 (0, 0)) (by apply blk_fin; (focus ((with_reducible repeat (first | apply blk_putQ | refine blk_drewN ?_ _ | refine blk_drew ?_ | refine blk_alloc ?_ _)); exact BK164.out)); first | (simp only [List.setIfInBounds_toArray, List.set_cons_zero, List.set_cons_succ]; done) | rfl) hb); have n3_ := Aside0.mk (below_step (by repeat (first | (with_reducible first | exact HB.out | apply below_alloc | apply pw_below_drewN | apply below_drew1 | refine below_set ?_ GE159.out | refine below_set ?_ GE162.out | refine below_set ?_ GE164.out) | exact HB.out)) hb); clear BK159; clear BK162; clear BK164; clear HB; have BK159 := n0_; have BK162 := n1_; have BK164 := n2_; have HB := n3_; clear n0_ n1_ n2_ n3_; (try clear hb); (try clear hb2); (try clear hk); (try clear hi); have hnb29 := NB164_159.out; have hnc29 := NB159_164.out; have hcz30_0 : w28.cell? ⟨gb164, 0, none⟩ = some (.int .i64 ((rd_T32 l0 (ji11)).f0)) := (blk_cell BK164.out 0).trans rfl; have hcz30_1 : w28.cell? ⟨gb164, 1, none⟩ = some (.int .i64 ((rd_T32 l0 (ji11)).f1)) := (blk_cell BK164.out 1).trans rfl; have hfz30_0 := blk_frozen BK164.out 0; have hfz30_1 := blk_frozen BK164.out 1) | (go_at_call 192; (with_reducible refine (spec_l10Near.calls ((rd_T32 l0 (ji11)).f0) ((rd_T32 l0 (ji11)).f1) t166 _ A24.out).mono ?_); rintro e w31 ⟨rfl, hb⟩; have n0_ := Aside0.mk (blk_below (g := gb159) (o := .cells #[.int .i64 a1_0, .int .i64 a1_1] 32 (0, 0)) (by (with_reducible repeat (first | refine blk_drewN ?_ _ | refine blk_drew ?_ | refine blk_alloc ?_ _)); exact BK159.out) hb); have n1_ := Aside0.mk (blk_below (g := gb162) (o := .cells #[.int .i64 ((rd_T32 l0 x6_1).f0), .int .i64 ((rd_T32 l0 x6_1).f1)] 32 (0, 0)) (by (with_reducible repeat (first | refine blk_drewN ?_ _ | refine blk_drew ?_ | refine blk_alloc ?_ _)); exact BK162.out) hb); have n2_ := Aside0.mk (blk_below (g := gb164) (o := .cells #[.int .i64 ((rd_T32 l0 (ji11)).f0), .int .i64 ((rd_T32 l0 (ji11)).f1)] 32 (0, 0)) (by (with_reducible repeat (first | refine blk_drewN ?_ _ | refine blk_drew ?_ | refine blk_alloc ?_ _)); exact BK164.out) hb); have n3_ := Aside0.mk (below_step (by repeat (first | (with_reducible first | exact HB.out | apply below_alloc | apply pw_below_drewN | apply below_drew1 | refine below_set ?_ GE159.out | refine below_set ?_ GE162.out | refine below_set ?_ GE164.out) | exact HB.out)) hb); clear BK159; clear BK162; clear BK164; clear HB; have BK159 := n0_; have BK162 := n1_; have BK164 := n2_; have HB := n3_; clear n0_ n1_ n2_ n3_; (try clear hb); (try clear hb2); (try clear hk); (try clear hi)))
                      go_meet
                      case rel => exact ⟨_, (!t166), (by first | rfl | (simp; done) | (simp [*]; done)), H', ⟨by have := HK1.out; first | omega | exact Nat.le_refl _⟩, ⟨by (with_reducible repeat (first | refine blk_drewN ?_ _ | refine blk_drew ?_ | refine blk_alloc ?_ _)); exact BK159.out⟩, ⟨by (with_reducible repeat (first | refine blk_drewN ?_ _ | refine blk_drew ?_ | refine blk_alloc ?_ _)); exact BK162.out⟩, ⟨by (with_reducible repeat (first | refine blk_drewN ?_ _ | refine blk_drew ?_ | refine blk_alloc ?_ _)); exact BK164.out⟩, ⟨by repeat (first | (with_reducible first | exact HB.out | apply below_alloc | apply pw_below_drewN | apply below_drew1 | refine below_set ?_ GE159.out | refine below_set ?_ GE162.out | refine below_set ?_ GE164.out) | exact HB.out)⟩⟩
                    · replace c23 := Bool.eq_false_iff.mpr c23
                      subst c23
                      have H1 : (spec_WindOf.j1 k1 l0 x5_1 x6_1 true a1_0 a1_1 ((rd_T32 l0 x6_1).f0) ((rd_T32 l0 x6_1).f1) ((rd_T32 l0 (ji11)).f0) ((rd_T32 l0 (ji11)).f1)) = some r := by rw [if_neg (show ¬ (false = true) by decide)] at H; exact H
                      clear H
                      have H := H1
                      clear H1
                      have H' := Aside0.mk H
                      clear H
                      have hnb32 := NB162_159.out
                      have hnc32 := NB159_162.out
                      have hnb33 := NB162_164.out
                      have hnc33 := NB164_162.out
                      have hcz34_0 : w18.cell? ⟨gb162, 0, none⟩ = some (.int .i64 ((rd_T32 l0 x6_1).f0)) := (blk_cell BK162.out 0).trans rfl
                      have hcz34_1 : w18.cell? ⟨gb162, 1, none⟩ = some (.int .i64 ((rd_T32 l0 x6_1).f1)) := (blk_cell BK162.out 1).trans rfl
                      have hfz34_0 := blk_frozen BK162.out 0
                      have hfz34_1 := blk_frozen BK162.out 1
                      go_wp2_with (first | ((with_reducible refine gate_callee (f := 192) rfl ?_); refine goesL_ (some 32) rfl rfl Try.func192 (by kernel_rfl) rfl #[.agg #[.int .i64 ((rd_T32 l0 x6_1).f0), .int .i64 ((rd_T32 l0 x6_1).f1)]] rfl (by (try simp only [List.map_toArray, List.map_cons, List.map_nil]); first | done | rfl | (simp only [List.length_drop, List.length_take]; rfl)) ?_; (with_reducible refine (spec_l10Near.calls ((rd_T32 l0 x6_1).f0) ((rd_T32 l0 x6_1).f1) false _ A22.out).mono ?_); rintro e w35 ⟨rfl, hb⟩; refine ⟨_, rfl, ?_⟩; have n0_ := Aside0.mk (blk_below (g := gb159) (o := .cells #[.int .i64 a1_0, .int .i64 a1_1] 32 (0, 0)) (by (with_reducible repeat (first | refine blk_drewN ?_ _ | refine blk_drew ?_ | refine blk_alloc ?_ _)); refine blk_far ?_ NB159_164.out _; (with_reducible repeat (first | refine blk_drewN ?_ _ | refine blk_drew ?_ | refine blk_alloc ?_ _)); refine blk_far ?_ NB159_164.out _; (with_reducible repeat (first | refine blk_drewN ?_ _ | refine blk_drew ?_ | refine blk_alloc ?_ _)); exact BK159.out) hb); have n1_ := Aside0.mk (blk_below (g := gb162) (o := .cells #[.int .i64 ((rd_T32 l0 x6_1).f0), .int .i64 ((rd_T32 l0 x6_1).f1)] 32 (0, 0)) (by (with_reducible repeat (first | refine blk_drewN ?_ _ | refine blk_drew ?_ | refine blk_alloc ?_ _)); refine blk_far ?_ NB162_164.out _; (with_reducible repeat (first | refine blk_drewN ?_ _ | refine blk_drew ?_ | refine blk_alloc ?_ _)); refine blk_far ?_ NB162_164.out _; (with_reducible repeat (first | refine blk_drewN ?_ _ | refine blk_drew ?_ | refine blk_alloc ?_ _)); exact BK162.out) hb); have n2_ := Aside0.mk (blk_below (g := gb164) (o := .cells #[.int .i64 ((rd_T32 l0 (ji11)).f0), .int .i64 ((rd_T32 l0 (ji11)).f1)] 32 (0, 0)) (by apply blk_fin; (focus ((with_reducible repeat (first | apply blk_putQ | refine blk_drewN ?_ _ | refine blk_drew ?_ | refine blk_alloc ?_ _)); exact BK164.out)); first | (simp only [List.setIfInBounds_toArray, List.set_cons_zero, List.set_cons_succ]; done) | rfl) hb); have n3_ := Aside0.mk (below_step (by repeat (first | (with_reducible first | exact HB.out | apply below_alloc | apply pw_below_drewN | apply below_drew1 | refine below_set ?_ GE159.out | refine below_set ?_ GE162.out | refine below_set ?_ GE164.out) | exact HB.out)) hb); clear BK159; clear BK162; clear BK164; clear HB; have BK159 := n0_; have BK162 := n1_; have BK164 := n2_; have HB := n3_; clear n0_ n1_ n2_ n3_; (try clear hb); (try clear hb2); (try clear hk); (try clear hi)))
                      go_meet
                      case rel => exact ⟨_, (true), (by first | rfl | (simp; done) | (simp [*]; done)), H', ⟨by have := HK1.out; first | omega | exact Nat.le_refl _⟩, ⟨by (with_reducible repeat (first | refine blk_drewN ?_ _ | refine blk_drew ?_ | refine blk_alloc ?_ _)); exact BK159.out⟩, ⟨by (with_reducible repeat (first | refine blk_drewN ?_ _ | refine blk_drew ?_ | refine blk_alloc ?_ _)); exact BK162.out⟩, ⟨by (with_reducible repeat (first | refine blk_drewN ?_ _ | refine blk_drew ?_ | refine blk_alloc ?_ _)); exact BK164.out⟩, ⟨by repeat (first | (with_reducible first | exact HB.out | apply below_alloc | apply pw_below_drewN | apply below_drew1 | refine below_set ?_ GE159.out | refine below_set ?_ GE162.out | refine below_set ?_ GE164.out) | exact HB.out)⟩⟩
                  case rest =>
                    clear HC14
                    try clear c1
                    try clear p1
                    try clear q1
                    try clear hx1
                    try clear c2
                    try clear p2
                    try clear c3
                    try clear c4
                    try clear p6
                    try clear c8
                    try clear c8b0
                    try clear c9
                    try clear c9b0
                    try clear c10
                    try clear c10b0
                    try clear c10b1
                    try clear c10b2
                    try clear c12
                    try clear c12b0
                    try clear c13
                    try clear c13b0
                    try clear c16
                    try clear p16
                    try clear q16
                    try clear hx16
                    try clear c17
                    try clear c19
                    try clear c20
                    try clear c23
                    try clear c25
                    try clear c26
                    try clear c29
                    try clear c32
                    try clear c33
                    try clear hcz17_0
                    try clear hcz17_1
                    try clear hcz21_0
                    try clear hcz21_1
                    try clear hcz27_0
                    try clear hcz27_1
                    try clear hcz30_0
                    try clear hcz30_1
                    try clear hcz34_0
                    try clear hcz34_1
                    try clear hcz6_0
                    try clear hcz6_1
                    try clear hfz17_0
                    try clear hfz17_1
                    try clear hfz21_0
                    try clear hfz21_1
                    try clear hfz27_0
                    try clear hfz27_1
                    try clear hfz30_0
                    try clear hfz30_1
                    try clear hfz34_0
                    try clear hfz34_1
                    try clear hfz6_0
                    try clear hfz6_1
                    try clear hx161_0
                    try clear hx161_1
                    try clear hx163_0
                    try clear hx163_1
                    try clear p161
                    try clear p163
                    try clear p2
                    try clear q161
                    try clear q163
                    obtain ⟨kq, x38_13, rfl, HA, HJ13, BK159, BK162, BK164, HB⟩ := hcut
                    cases kq with
                    | zero => exact absurd HA.out (by simp [spec_WindOf.j1])
                    | succ kj13 =>
                      have H := HA.out
                      clear HA
                      simp only [spec_WindOf.j1] at H
                      by_cases c36 : x38_13 = true
                      · subst c36
                        have H1 : (some 0) = some r := by rw [if_pos rfl] at H; exact H
                        clear H
                        have H := H1
                        clear H1
                        obtain rfl := Option.some.inj H
                        simp only [Option.some.injEq, Prod.mk.injEq] at H
                        obtain ⟨rfl⟩ := H
                        go_wp2
                        go_ret
                        exact ⟨by first | rfl | (simp [errW_none, errW_some] <;> rfl) | (simp only [← hji11]; first | rfl | (simp [errW_none, errW_some] <;> rfl)) | (simp [*, errW_none, errW_some] <;> rfl), by repeat (first | (with_reducible first | exact HB.out | apply below_alloc | apply pw_below_drewN | apply below_drew1 | refine below_set ?_ GE159.out | refine below_set ?_ GE162.out | refine below_set ?_ GE164.out) | exact HB.out)⟩
                      · replace c36 := Bool.eq_false_iff.mpr c36
                        subst c36
                        have H1 : (if ((rd_T32 l0 x6_1).f1) ≤ a1_1 then (if a1_1 < ((rd_T32 l0 (ji11)).f1) then (spec_WindOf.j2 kj13 l0 x5_1 x6_1 (wrap64 ((wrap64 ((wrap64 (((rd_T32 l0 (ji11)).f0) - ((rd_T32 l0 x6_1).f0))) * (wrap64 (a1_1 - ((rd_T32 l0 x6_1).f1))))) - (wrap64 ((wrap64 (a1_0 - ((rd_T32 l0 x6_1).f0))) * (wrap64 (((rd_T32 l0 (ji11)).f1) - ((rd_T32 l0 x6_1).f1))))))) (decide ((wrap64 ((wrap64 ((wrap64 (((rd_T32 l0 (ji11)).f0) - ((rd_T32 l0 x6_1).f0))) * (wrap64 (a1_1 - ((rd_T32 l0 x6_1).f1))))) - (wrap64 ((wrap64 (a1_0 - ((rd_T32 l0 x6_1).f0))) * (wrap64 (((rd_T32 l0 (ji11)).f1) - ((rd_T32 l0 x6_1).f1))))))) > 0)) a1_0 a1_1 ((rd_T32 l0 x6_1).f0) ((rd_T32 l0 x6_1).f1) ((rd_T32 l0 (ji11)).f0) ((rd_T32 l0 (ji11)).f1)) else (spec_WindOf.j2 kj13 l0 x5_1 x6_1 (wrap64 ((wrap64 ((wrap64 (((rd_T32 l0 (ji11)).f0) - ((rd_T32 l0 x6_1).f0))) * (wrap64 (a1_1 - ((rd_T32 l0 x6_1).f1))))) - (wrap64 ((wrap64 (a1_0 - ((rd_T32 l0 x6_1).f0))) * (wrap64 (((rd_T32 l0 (ji11)).f1) - ((rd_T32 l0 x6_1).f1))))))) false a1_0 a1_1 ((rd_T32 l0 x6_1).f0) ((rd_T32 l0 x6_1).f1) ((rd_T32 l0 (ji11)).f0) ((rd_T32 l0 (ji11)).f1))) else (spec_WindOf.j2 kj13 l0 x5_1 x6_1 (wrap64 ((wrap64 ((wrap64 (((rd_T32 l0 (ji11)).f0) - ((rd_T32 l0 x6_1).f0))) * (wrap64 (a1_1 - ((rd_T32 l0 x6_1).f1))))) - (wrap64 ((wrap64 (a1_0 - ((rd_T32 l0 x6_1).f0))) * (wrap64 (((rd_T32 l0 (ji11)).f1) - ((rd_T32 l0 x6_1).f1))))))) false a1_0 a1_1 ((rd_T32 l0 x6_1).f0) ((rd_T32 l0 x6_1).f1) ((rd_T32 l0 (ji11)).f0) ((rd_T32 l0 (ji11)).f1))) = some r := by rw [if_neg (show ¬ (false = true) by decide)] at H; exact H
                        clear H
                        have H := H1
                        clear H1
                        have HC37 := Aside0.mk H
                        clear H
                        have hnb38 := NB164_159.out
                        have hnc38 := NB159_164.out
                        have hnb39 := NB164_162.out
                        have hnc39 := NB162_164.out
                        have hcz40_0 : wc.cell? ⟨gb164, 0, none⟩ = some (.int .i64 ((rd_T32 l0 (ji11)).f0)) := (blk_cell BK164.out 0).trans rfl
                        have hcz40_1 : wc.cell? ⟨gb164, 1, none⟩ = some (.int .i64 ((rd_T32 l0 (ji11)).f1)) := (blk_cell BK164.out 1).trans rfl
                        have hfz40_0 := blk_frozen BK164.out 0
                        have hfz40_1 := blk_frozen BK164.out 1
                        have hnb41 := NB162_159.out
                        have hnc41 := NB159_162.out
                        have hcz42_0 : wc.cell? ⟨gb162, 0, none⟩ = some (.int .i64 ((rd_T32 l0 x6_1).f0)) := (blk_cell BK162.out 0).trans rfl
                        have hcz42_1 : wc.cell? ⟨gb162, 1, none⟩ = some (.int .i64 ((rd_T32 l0 x6_1).f1)) := (blk_cell BK162.out 1).trans rfl
                        have hfz42_0 := blk_frozen BK162.out 0
                        have hfz42_1 := blk_frozen BK162.out 1
                        have hcz43_0 : wc.cell? ⟨gb159, 0, none⟩ = some (.int .i64 a1_0) := (blk_cell BK159.out 0).trans rfl
                        have hcz43_1 : wc.cell? ⟨gb159, 1, none⟩ = some (.int .i64 a1_1) := (blk_cell BK159.out 1).trans rfl
                        have hfz43_0 := blk_frozen BK159.out 0
                        have hfz43_1 := blk_frozen BK159.out 1
                        go_upto_region 12 with (fail)
                        go_cut [77] (fun v77 wc => ∃ (kq : Nat) (x77_36 : Bool), v77 = .bool x77_36 ∧ Aside0 (spec_WindOf.j2 kq l0 x5_1 x6_1 (wrap64 ((wrap64 ((wrap64 (((rd_T32 l0 (ji11)).f0) - ((rd_T32 l0 x6_1).f0))) * (wrap64 (a1_1 - ((rd_T32 l0 x6_1).f1))))) - (wrap64 ((wrap64 (a1_0 - ((rd_T32 l0 x6_1).f0))) * (wrap64 (((rd_T32 l0 (ji11)).f1) - ((rd_T32 l0 x6_1).f1))))))) x77_36 a1_0 a1_1 ((rd_T32 l0 x6_1).f0) ((rd_T32 l0 x6_1).f1) ((rd_T32 l0 (ji11)).f0) ((rd_T32 l0 (ji11)).f1) = some r) ∧ Aside0 (kq ≤ kj13) ∧ Aside0 (wc.heap[gb159]? = some (.cells #[.int .i64 a1_0, .int .i64 a1_1] 32 (0, 0))) ∧ Aside0 (wc.heap[gb162]? = some (.cells #[.int .i64 ((rd_T32 l0 x6_1).f0), .int .i64 ((rd_T32 l0 x6_1).f1)] 32 (0, 0))) ∧ Aside0 (wc.heap[gb164]? = some (.cells #[.int .i64 ((rd_T32 l0 (ji11)).f0), .int .i64 ((rd_T32 l0 (ji11)).f1)] 32 (0, 0))) ∧ Aside0 (Below w.heap.size w wc))
                        case first =>
                          have H := HC37.out
                          clear HC37
                          by_cases c44 : ((rd_T32 l0 x6_1).f1) ≤ a1_1
                          · rw [if_pos c44] at H
                            have c44b0 : decide (((rd_T32 l0 x6_1).f1) ≤ a1_1) = true := decide_eq_true c44
                            clear c44
                            (first | rw [c44b0] | (simp only [i64_w, i32_w]; rw [c44b0]) | skip)
                            by_cases c45 : a1_1 < ((rd_T32 l0 (ji11)).f1)
                            · rw [if_pos c45] at H
                              have c45b0 : decide (a1_1 < ((rd_T32 l0 (ji11)).f1)) = true := decide_eq_true c45
                              clear c45
                              have H' := Aside0.mk H
                              clear H
                              have hnb46 := NB162_159.out
                              have hnc46 := NB159_162.out
                              have hnb47 := NB162_164.out
                              have hnc47 := NB164_162.out
                              have hcz48_0 : wc.cell? ⟨gb162, 0, none⟩ = some (.int .i64 ((rd_T32 l0 x6_1).f0)) := (blk_cell BK162.out 0).trans rfl
                              have hcz48_1 : wc.cell? ⟨gb162, 1, none⟩ = some (.int .i64 ((rd_T32 l0 x6_1).f1)) := (blk_cell BK162.out 1).trans rfl
                              have hfz48_0 := blk_frozen BK162.out 0
                              have hfz48_1 := blk_frozen BK162.out 1
                              have hnb49 := NB159_164.out
                              have hnc49 := NB164_159.out
                              have hcz50_0 : wc.cell? ⟨gb159, 0, none⟩ = some (.int .i64 a1_0) := (blk_cell BK159.out 0).trans rfl
                              have hcz50_1 : wc.cell? ⟨gb159, 1, none⟩ = some (.int .i64 a1_1) := (blk_cell BK159.out 1).trans rfl
                              have hfz50_0 := blk_frozen BK159.out 0
                              have hfz50_1 := blk_frozen BK159.out 1
                              have hcz51_0 : wc.cell? ⟨gb164, 0, none⟩ = some (.int .i64 ((rd_T32 l0 (ji11)).f0)) := (blk_cell BK164.out 0).trans rfl
                              have hcz51_1 : wc.cell? ⟨gb164, 1, none⟩ = some (.int .i64 ((rd_T32 l0 (ji11)).f1)) := (blk_cell BK164.out 1).trans rfl
                              have hfz51_0 := blk_frozen BK164.out 0
                              have hfz51_1 := blk_frozen BK164.out 1
                              go_wp2
                              go_meet
                              case rel => exact ⟨_, (decide ((wrap64 ((wrap64 ((wrap64 (((rd_T32 l0 (ji11)).f0) - ((rd_T32 l0 x6_1).f0))) * (wrap64 (a1_1 - ((rd_T32 l0 x6_1).f1))))) - (wrap64 ((wrap64 (a1_0 - ((rd_T32 l0 x6_1).f0))) * (wrap64 (((rd_T32 l0 (ji11)).f1) - ((rd_T32 l0 x6_1).f1))))))) > 0)), (by first | rfl | (simp; done) | (simp only [← hji11] <;> (first | rfl | simp)) | (simp [*]; done)), H', ⟨by have := HK1.out; have := HJ13.out; first | omega | exact Nat.le_refl _⟩, ⟨by (with_reducible repeat (first | refine blk_drewN ?_ _ | refine blk_drew ?_ | refine blk_alloc ?_ _)); exact BK159.out⟩, ⟨by (with_reducible repeat (first | refine blk_drewN ?_ _ | refine blk_drew ?_ | refine blk_alloc ?_ _)); exact BK162.out⟩, ⟨by (with_reducible repeat (first | refine blk_drewN ?_ _ | refine blk_drew ?_ | refine blk_alloc ?_ _)); exact BK164.out⟩, ⟨by repeat (first | (with_reducible first | exact HB.out | apply below_alloc | apply pw_below_drewN | apply below_drew1 | refine below_set ?_ GE159.out | refine below_set ?_ GE162.out | refine below_set ?_ GE164.out) | exact HB.out)⟩⟩
                            · rw [if_neg c45] at H
                              have c45b0 : decide (a1_1 < ((rd_T32 l0 (ji11)).f1)) = false := decide_eq_false c45
                              clear c45
                              have H' := Aside0.mk H
                              clear H
                              have hnb52 := NB162_159.out
                              have hnc52 := NB159_162.out
                              have hnb53 := NB162_164.out
                              have hnc53 := NB164_162.out
                              have hcz54_0 : wc.cell? ⟨gb162, 0, none⟩ = some (.int .i64 ((rd_T32 l0 x6_1).f0)) := (blk_cell BK162.out 0).trans rfl
                              have hcz54_1 : wc.cell? ⟨gb162, 1, none⟩ = some (.int .i64 ((rd_T32 l0 x6_1).f1)) := (blk_cell BK162.out 1).trans rfl
                              have hfz54_0 := blk_frozen BK162.out 0
                              have hfz54_1 := blk_frozen BK162.out 1
                              have hnb55 := NB159_164.out
                              have hnc55 := NB164_159.out
                              have hcz56_0 : wc.cell? ⟨gb159, 0, none⟩ = some (.int .i64 a1_0) := (blk_cell BK159.out 0).trans rfl
                              have hcz56_1 : wc.cell? ⟨gb159, 1, none⟩ = some (.int .i64 a1_1) := (blk_cell BK159.out 1).trans rfl
                              have hfz56_0 := blk_frozen BK159.out 0
                              have hfz56_1 := blk_frozen BK159.out 1
                              have hcz57_0 : wc.cell? ⟨gb164, 0, none⟩ = some (.int .i64 ((rd_T32 l0 (ji11)).f0)) := (blk_cell BK164.out 0).trans rfl
                              have hcz57_1 : wc.cell? ⟨gb164, 1, none⟩ = some (.int .i64 ((rd_T32 l0 (ji11)).f1)) := (blk_cell BK164.out 1).trans rfl
                              have hfz57_0 := blk_frozen BK164.out 0
                              have hfz57_1 := blk_frozen BK164.out 1
                              go_wp2
                              go_meet
                              case rel => exact ⟨_, (false), (by first | rfl | (simp; done) | (simp [*]; done)), H', ⟨by have := HK1.out; have := HJ13.out; first | omega | exact Nat.le_refl _⟩, ⟨by (with_reducible repeat (first | refine blk_drewN ?_ _ | refine blk_drew ?_ | refine blk_alloc ?_ _)); exact BK159.out⟩, ⟨by (with_reducible repeat (first | refine blk_drewN ?_ _ | refine blk_drew ?_ | refine blk_alloc ?_ _)); exact BK162.out⟩, ⟨by (with_reducible repeat (first | refine blk_drewN ?_ _ | refine blk_drew ?_ | refine blk_alloc ?_ _)); exact BK164.out⟩, ⟨by repeat (first | (with_reducible first | exact HB.out | apply below_alloc | apply pw_below_drewN | apply below_drew1 | refine below_set ?_ GE159.out | refine below_set ?_ GE162.out | refine below_set ?_ GE164.out) | exact HB.out)⟩⟩
                          · rw [if_neg c44] at H
                            have c44b0 : decide (((rd_T32 l0 x6_1).f1) ≤ a1_1) = false := decide_eq_false c44
                            clear c44
                            (first | rw [c44b0] | (simp only [i64_w, i32_w]; rw [c44b0]) | skip)
                            have H' := Aside0.mk H
                            clear H
                            have hnb58 := NB162_159.out
                            have hnc58 := NB159_162.out
                            have hnb59 := NB162_164.out
                            have hnc59 := NB164_162.out
                            have hcz60_0 : wc.cell? ⟨gb162, 0, none⟩ = some (.int .i64 ((rd_T32 l0 x6_1).f0)) := (blk_cell BK162.out 0).trans rfl
                            have hcz60_1 : wc.cell? ⟨gb162, 1, none⟩ = some (.int .i64 ((rd_T32 l0 x6_1).f1)) := (blk_cell BK162.out 1).trans rfl
                            have hfz60_0 := blk_frozen BK162.out 0
                            have hfz60_1 := blk_frozen BK162.out 1
                            have hnb61 := NB159_164.out
                            have hnc61 := NB164_159.out
                            have hcz62_0 : wc.cell? ⟨gb159, 0, none⟩ = some (.int .i64 a1_0) := (blk_cell BK159.out 0).trans rfl
                            have hcz62_1 : wc.cell? ⟨gb159, 1, none⟩ = some (.int .i64 a1_1) := (blk_cell BK159.out 1).trans rfl
                            have hfz62_0 := blk_frozen BK159.out 0
                            have hfz62_1 := blk_frozen BK159.out 1
                            go_wp2
                            go_meet
                            case rel => exact ⟨_, (false), (by first | rfl | (simp; done) | (simp [*]; done)), H', ⟨by have := HK1.out; have := HJ13.out; first | omega | exact Nat.le_refl _⟩, ⟨by (with_reducible repeat (first | refine blk_drewN ?_ _ | refine blk_drew ?_ | refine blk_alloc ?_ _)); exact BK159.out⟩, ⟨by (with_reducible repeat (first | refine blk_drewN ?_ _ | refine blk_drew ?_ | refine blk_alloc ?_ _)); exact BK162.out⟩, ⟨by (with_reducible repeat (first | refine blk_drewN ?_ _ | refine blk_drew ?_ | refine blk_alloc ?_ _)); exact BK164.out⟩, ⟨by repeat (first | (with_reducible first | exact HB.out | apply below_alloc | apply pw_below_drewN | apply below_drew1 | refine below_set ?_ GE159.out | refine below_set ?_ GE162.out | refine below_set ?_ GE164.out) | exact HB.out)⟩⟩
                        case rest =>
                          clear HC37
                          try clear c1
                          try clear p1
                          try clear q1
                          try clear hx1
                          try clear c2
                          try clear p2
                          try clear c3
                          try clear c4
                          try clear c5
                          try clear c6
                          try clear p6
                          try clear c8
                          try clear c8b0
                          try clear c9
                          try clear c9b0
                          try clear c10
                          try clear c10b0
                          try clear c10b1
                          try clear c10b2
                          try clear c12
                          try clear c12b0
                          try clear c13
                          try clear c13b0
                          try clear c16
                          try clear p16
                          try clear q16
                          try clear hx16
                          try clear c17
                          try clear c19
                          try clear c20
                          try clear c23
                          try clear c25
                          try clear c26
                          try clear c29
                          try clear c32
                          try clear c33
                          try clear c36
                          try clear c38
                          try clear c39
                          try clear c41
                          try clear c44
                          try clear c44b0
                          try clear c45
                          try clear c45b0
                          try clear c46
                          try clear c47
                          try clear c49
                          try clear c52
                          try clear c53
                          try clear c55
                          try clear c58
                          try clear c59
                          try clear c61
                          try clear hcz17_0
                          try clear hcz17_1
                          try clear hcz21_0
                          try clear hcz21_1
                          try clear hcz27_0
                          try clear hcz27_1
                          try clear hcz30_0
                          try clear hcz30_1
                          try clear hcz34_0
                          try clear hcz34_1
                          try clear hcz40_0
                          try clear hcz40_1
                          try clear hcz42_0
                          try clear hcz42_1
                          try clear hcz43_0
                          try clear hcz43_1
                          try clear hcz48_0
                          try clear hcz48_1
                          try clear hcz50_0
                          try clear hcz50_1
                          try clear hcz51_0
                          try clear hcz51_1
                          try clear hcz54_0
                          try clear hcz54_1
                          try clear hcz56_0
                          try clear hcz56_1
                          try clear hcz57_0
                          try clear hcz57_1
                          try clear hcz60_0
                          try clear hcz60_1
                          try clear hcz62_0
                          try clear hcz62_1
                          try clear hcz6_0
                          try clear hcz6_1
                          try clear hfz17_0
                          try clear hfz17_1
                          try clear hfz21_0
                          try clear hfz21_1
                          try clear hfz27_0
                          try clear hfz27_1
                          try clear hfz30_0
                          try clear hfz30_1
                          try clear hfz34_0
                          try clear hfz34_1
                          try clear hfz40_0
                          try clear hfz40_1
                          try clear hfz42_0
                          try clear hfz42_1
                          try clear hfz43_0
                          try clear hfz43_1
                          try clear hfz48_0
                          try clear hfz48_1
                          try clear hfz50_0
                          try clear hfz50_1
                          try clear hfz51_0
                          try clear hfz51_1
                          try clear hfz54_0
                          try clear hfz54_1
                          try clear hfz56_0
                          try clear hfz56_1
                          try clear hfz57_0
                          try clear hfz57_1
                          try clear hfz60_0
                          try clear hfz60_1
                          try clear hfz62_0
                          try clear hfz62_1
                          try clear hfz6_0
                          try clear hfz6_1
                          try clear hx161_0
                          try clear hx161_1
                          try clear hx163_0
                          try clear hx163_1
                          try clear p1
                          try clear p16
                          try clear p161
                          try clear p163
                          try clear p2
                          try clear p6
                          try clear q1
                          try clear q16
                          try clear q161
                          try clear q163
                          obtain ⟨kq, x77_36, rfl, HA, HJ36, BK159, BK162, BK164, HB⟩ := hcut
                          cases kq with
                          | zero => exact absurd HA.out (by simp [spec_WindOf.j2])
                          | succ kj36 =>
                            have H := HA.out
                            clear HA
                            simp only [spec_WindOf.j2] at H
                            by_cases c63 : x77_36 = true
                            · subst c63
                              have H1 : (if ((rd_T32 l0 (ji11)).f1) ≤ a1_1 then (if a1_1 < ((rd_T32 l0 x6_1).f1) then (if (wrap64 ((wrap64 ((wrap64 (((rd_T32 l0 (ji11)).f0) - ((rd_T32 l0 x6_1).f0))) * (wrap64 (a1_1 - ((rd_T32 l0 x6_1).f1))))) - (wrap64 ((wrap64 (a1_0 - ((rd_T32 l0 x6_1).f0))) * (wrap64 (((rd_T32 l0 (ji11)).f1) - ((rd_T32 l0 x6_1).f1))))))) < 0 then (spec_WindOf.l0 kj36 l0 (wrap64 ((wrap64 (x5_1 + 1)) - 1)) (wrap64 (x6_1 + 1)) a1_0 a1_1) else (spec_WindOf.l0 kj36 l0 (wrap64 (x5_1 + 1)) (wrap64 (x6_1 + 1)) a1_0 a1_1)) else (spec_WindOf.l0 kj36 l0 (wrap64 (x5_1 + 1)) (wrap64 (x6_1 + 1)) a1_0 a1_1)) else (spec_WindOf.l0 kj36 l0 (wrap64 (x5_1 + 1)) (wrap64 (x6_1 + 1)) a1_0 a1_1)) = some r := by rw [if_pos rfl] at H; exact H
                              clear H
                              have H := H1
                              clear H1
                              by_cases c64 : ((rd_T32 l0 (ji11)).f1) ≤ a1_1
                              · rw [if_pos c64] at H
                                have c64b0 : decide (((rd_T32 l0 (ji11)).f1) ≤ a1_1) = true := decide_eq_true c64
                                clear c64
                                by_cases c65 : a1_1 < ((rd_T32 l0 x6_1).f1)
                                · rw [if_pos c65] at H
                                  have c65b0 : decide (a1_1 < ((rd_T32 l0 x6_1).f1)) = true := decide_eq_true c65
                                  clear c65
                                  by_cases c66 : (wrap64 ((wrap64 ((wrap64 (((rd_T32 l0 (ji11)).f0) - ((rd_T32 l0 x6_1).f0))) * (wrap64 (a1_1 - ((rd_T32 l0 x6_1).f1))))) - (wrap64 ((wrap64 (a1_0 - ((rd_T32 l0 x6_1).f0))) * (wrap64 (((rd_T32 l0 (ji11)).f1) - ((rd_T32 l0 x6_1).f1))))))) < 0
                                  · rw [if_pos c66] at H
                                    have c66b0 : decide ((wrap64 ((wrap64 ((wrap64 (((rd_T32 l0 (ji11)).f0) - ((rd_T32 l0 x6_1).f0))) * (wrap64 (a1_1 - ((rd_T32 l0 x6_1).f1))))) - (wrap64 ((wrap64 (a1_0 - ((rd_T32 l0 x6_1).f0))) * (wrap64 (((rd_T32 l0 (ji11)).f1) - ((rd_T32 l0 x6_1).f1))))))) < 0) = true := decide_eq_true c66
                                    clear c66
                                    have H' := Aside0.mk H
                                    clear H
                                    have hnb67 := NB164_159.out
                                    have hnc67 := NB159_164.out
                                    have hnb68 := NB164_162.out
                                    have hnc68 := NB162_164.out
                                    have hcz69_0 : wc.cell? ⟨gb164, 0, none⟩ = some (.int .i64 ((rd_T32 l0 (ji11)).f0)) := (blk_cell BK164.out 0).trans rfl
                                    have hcz69_1 : wc.cell? ⟨gb164, 1, none⟩ = some (.int .i64 ((rd_T32 l0 (ji11)).f1)) := (blk_cell BK164.out 1).trans rfl
                                    have hfz69_0 := blk_frozen BK164.out 0
                                    have hfz69_1 := blk_frozen BK164.out 1
                                    have hnb70 := NB159_162.out
                                    have hnc70 := NB162_159.out
                                    have hcz71_0 : wc.cell? ⟨gb159, 0, none⟩ = some (.int .i64 a1_0) := (blk_cell BK159.out 0).trans rfl
                                    have hcz71_1 : wc.cell? ⟨gb159, 1, none⟩ = some (.int .i64 a1_1) := (blk_cell BK159.out 1).trans rfl
                                    have hfz71_0 := blk_frozen BK159.out 0
                                    have hfz71_1 := blk_frozen BK159.out 1
                                    have hcz72_0 : wc.cell? ⟨gb162, 0, none⟩ = some (.int .i64 ((rd_T32 l0 x6_1).f0)) := (blk_cell BK162.out 0).trans rfl
                                    have hcz72_1 : wc.cell? ⟨gb162, 1, none⟩ = some (.int .i64 ((rd_T32 l0 x6_1).f1)) := (blk_cell BK162.out 1).trans rfl
                                    have hfz72_0 := blk_frozen BK162.out 0
                                    have hfz72_1 := blk_frozen BK162.out 1
                                    go_wp2
                                    go_roundg kj36
                                    case measure => have := HK1.out; have := HJ13.out; have := HJ36.out; omega
                                    case rel => exact ⟨(wrap64 ((wrap64 (x5_1 + 1)) - 1)), (wrap64 (x6_1 + 1)), (by first | rfl | (simp; done) | (simp [*]; done)), (by first | rfl | (simp; done) | (simp [*]; done)), H', ⟨by have := HK1.out; have := HJ13.out; have := HJ36.out; omega⟩, ⟨by (with_reducible repeat (first | refine blk_drewN ?_ _ | refine blk_drew ?_ | refine blk_alloc ?_ _)); exact BK159.out⟩, ⟨by repeat (first | (with_reducible first | exact HB.out | apply below_alloc | apply pw_below_drewN | apply below_drew1 | refine below_set ?_ GE159.out | refine below_set ?_ GE162.out | refine below_set ?_ GE164.out) | exact HB.out)⟩⟩
                                  · rw [if_neg c66] at H
                                    have c66b0 : decide ((wrap64 ((wrap64 ((wrap64 (((rd_T32 l0 (ji11)).f0) - ((rd_T32 l0 x6_1).f0))) * (wrap64 (a1_1 - ((rd_T32 l0 x6_1).f1))))) - (wrap64 ((wrap64 (a1_0 - ((rd_T32 l0 x6_1).f0))) * (wrap64 (((rd_T32 l0 (ji11)).f1) - ((rd_T32 l0 x6_1).f1))))))) < 0) = false := decide_eq_false c66
                                    clear c66
                                    have H' := Aside0.mk H
                                    clear H
                                    have hnb73 := NB164_159.out
                                    have hnc73 := NB159_164.out
                                    have hnb74 := NB164_162.out
                                    have hnc74 := NB162_164.out
                                    have hcz75_0 : wc.cell? ⟨gb164, 0, none⟩ = some (.int .i64 ((rd_T32 l0 (ji11)).f0)) := (blk_cell BK164.out 0).trans rfl
                                    have hcz75_1 : wc.cell? ⟨gb164, 1, none⟩ = some (.int .i64 ((rd_T32 l0 (ji11)).f1)) := (blk_cell BK164.out 1).trans rfl
                                    have hfz75_0 := blk_frozen BK164.out 0
                                    have hfz75_1 := blk_frozen BK164.out 1
                                    have hnb76 := NB159_162.out
                                    have hnc76 := NB162_159.out
                                    have hcz77_0 : wc.cell? ⟨gb159, 0, none⟩ = some (.int .i64 a1_0) := (blk_cell BK159.out 0).trans rfl
                                    have hcz77_1 : wc.cell? ⟨gb159, 1, none⟩ = some (.int .i64 a1_1) := (blk_cell BK159.out 1).trans rfl
                                    have hfz77_0 := blk_frozen BK159.out 0
                                    have hfz77_1 := blk_frozen BK159.out 1
                                    have hcz78_0 : wc.cell? ⟨gb162, 0, none⟩ = some (.int .i64 ((rd_T32 l0 x6_1).f0)) := (blk_cell BK162.out 0).trans rfl
                                    have hcz78_1 : wc.cell? ⟨gb162, 1, none⟩ = some (.int .i64 ((rd_T32 l0 x6_1).f1)) := (blk_cell BK162.out 1).trans rfl
                                    have hfz78_0 := blk_frozen BK162.out 0
                                    have hfz78_1 := blk_frozen BK162.out 1
                                    go_wp2
                                    go_roundg kj36
                                    case measure => have := HK1.out; have := HJ13.out; have := HJ36.out; omega
                                    case rel => exact ⟨(wrap64 (x5_1 + 1)), (wrap64 (x6_1 + 1)), (by first | rfl | (simp; done) | (simp [*]; done)), (by first | rfl | (simp; done) | (simp [*]; done)), H', ⟨by have := HK1.out; have := HJ13.out; have := HJ36.out; omega⟩, ⟨by (with_reducible repeat (first | refine blk_drewN ?_ _ | refine blk_drew ?_ | refine blk_alloc ?_ _)); exact BK159.out⟩, ⟨by repeat (first | (with_reducible first | exact HB.out | apply below_alloc | apply pw_below_drewN | apply below_drew1 | refine below_set ?_ GE159.out | refine below_set ?_ GE162.out | refine below_set ?_ GE164.out) | exact HB.out)⟩⟩
                                · rw [if_neg c65] at H
                                  have c65b0 : decide (a1_1 < ((rd_T32 l0 x6_1).f1)) = false := decide_eq_false c65
                                  clear c65
                                  have H' := Aside0.mk H
                                  clear H
                                  have hnb79 := NB164_159.out
                                  have hnc79 := NB159_164.out
                                  have hnb80 := NB164_162.out
                                  have hnc80 := NB162_164.out
                                  have hcz81_0 : wc.cell? ⟨gb164, 0, none⟩ = some (.int .i64 ((rd_T32 l0 (ji11)).f0)) := (blk_cell BK164.out 0).trans rfl
                                  have hcz81_1 : wc.cell? ⟨gb164, 1, none⟩ = some (.int .i64 ((rd_T32 l0 (ji11)).f1)) := (blk_cell BK164.out 1).trans rfl
                                  have hfz81_0 := blk_frozen BK164.out 0
                                  have hfz81_1 := blk_frozen BK164.out 1
                                  have hnb82 := NB159_162.out
                                  have hnc82 := NB162_159.out
                                  have hcz83_0 : wc.cell? ⟨gb159, 0, none⟩ = some (.int .i64 a1_0) := (blk_cell BK159.out 0).trans rfl
                                  have hcz83_1 : wc.cell? ⟨gb159, 1, none⟩ = some (.int .i64 a1_1) := (blk_cell BK159.out 1).trans rfl
                                  have hfz83_0 := blk_frozen BK159.out 0
                                  have hfz83_1 := blk_frozen BK159.out 1
                                  have hcz84_0 : wc.cell? ⟨gb162, 0, none⟩ = some (.int .i64 ((rd_T32 l0 x6_1).f0)) := (blk_cell BK162.out 0).trans rfl
                                  have hcz84_1 : wc.cell? ⟨gb162, 1, none⟩ = some (.int .i64 ((rd_T32 l0 x6_1).f1)) := (blk_cell BK162.out 1).trans rfl
                                  have hfz84_0 := blk_frozen BK162.out 0
                                  have hfz84_1 := blk_frozen BK162.out 1
                                  go_wp2
                                  go_roundg kj36
                                  case measure => have := HK1.out; have := HJ13.out; have := HJ36.out; omega
                                  case rel => exact ⟨(wrap64 (x5_1 + 1)), (wrap64 (x6_1 + 1)), (by first | rfl | (simp; done) | (simp [*]; done)), (by first | rfl | (simp; done) | (simp [*]; done)), H', ⟨by have := HK1.out; have := HJ13.out; have := HJ36.out; omega⟩, ⟨by (with_reducible repeat (first | refine blk_drewN ?_ _ | refine blk_drew ?_ | refine blk_alloc ?_ _)); exact BK159.out⟩, ⟨by repeat (first | (with_reducible first | exact HB.out | apply below_alloc | apply pw_below_drewN | apply below_drew1 | refine below_set ?_ GE159.out | refine below_set ?_ GE162.out | refine below_set ?_ GE164.out) | exact HB.out)⟩⟩
                              · rw [if_neg c64] at H
                                have c64b0 : decide (((rd_T32 l0 (ji11)).f1) ≤ a1_1) = false := decide_eq_false c64
                                clear c64
                                have H' := Aside0.mk H
                                clear H
                                have hnb85 := NB164_159.out
                                have hnc85 := NB159_164.out
                                have hnb86 := NB164_162.out
                                have hnc86 := NB162_164.out
                                have hcz87_0 : wc.cell? ⟨gb164, 0, none⟩ = some (.int .i64 ((rd_T32 l0 (ji11)).f0)) := (blk_cell BK164.out 0).trans rfl
                                have hcz87_1 : wc.cell? ⟨gb164, 1, none⟩ = some (.int .i64 ((rd_T32 l0 (ji11)).f1)) := (blk_cell BK164.out 1).trans rfl
                                have hfz87_0 := blk_frozen BK164.out 0
                                have hfz87_1 := blk_frozen BK164.out 1
                                have hnb88 := NB159_162.out
                                have hnc88 := NB162_159.out
                                have hcz89_0 : wc.cell? ⟨gb159, 0, none⟩ = some (.int .i64 a1_0) := (blk_cell BK159.out 0).trans rfl
                                have hcz89_1 : wc.cell? ⟨gb159, 1, none⟩ = some (.int .i64 a1_1) := (blk_cell BK159.out 1).trans rfl
                                have hfz89_0 := blk_frozen BK159.out 0
                                have hfz89_1 := blk_frozen BK159.out 1
                                go_wp2
                                go_roundg kj36
                                case measure => have := HK1.out; have := HJ13.out; have := HJ36.out; omega
                                case rel => exact ⟨(wrap64 (x5_1 + 1)), (wrap64 (x6_1 + 1)), (by first | rfl | (simp; done) | (simp [*]; done)), (by first | rfl | (simp; done) | (simp [*]; done)), H', ⟨by have := HK1.out; have := HJ13.out; have := HJ36.out; omega⟩, ⟨by (with_reducible repeat (first | refine blk_drewN ?_ _ | refine blk_drew ?_ | refine blk_alloc ?_ _)); exact BK159.out⟩, ⟨by repeat (first | (with_reducible first | exact HB.out | apply below_alloc | apply pw_below_drewN | apply below_drew1 | refine below_set ?_ GE159.out | refine below_set ?_ GE162.out | refine below_set ?_ GE164.out) | exact HB.out)⟩⟩
                            · replace c63 := Bool.eq_false_iff.mpr c63
                              subst c63
                              have H1 : (if ((rd_T32 l0 (ji11)).f1) ≤ a1_1 then (if a1_1 < ((rd_T32 l0 x6_1).f1) then (if (wrap64 ((wrap64 ((wrap64 (((rd_T32 l0 (ji11)).f0) - ((rd_T32 l0 x6_1).f0))) * (wrap64 (a1_1 - ((rd_T32 l0 x6_1).f1))))) - (wrap64 ((wrap64 (a1_0 - ((rd_T32 l0 x6_1).f0))) * (wrap64 (((rd_T32 l0 (ji11)).f1) - ((rd_T32 l0 x6_1).f1))))))) < 0 then (spec_WindOf.l0 kj36 l0 (wrap64 (x5_1 - 1)) (wrap64 (x6_1 + 1)) a1_0 a1_1) else (spec_WindOf.l0 kj36 l0 x5_1 (wrap64 (x6_1 + 1)) a1_0 a1_1)) else (spec_WindOf.l0 kj36 l0 x5_1 (wrap64 (x6_1 + 1)) a1_0 a1_1)) else (spec_WindOf.l0 kj36 l0 x5_1 (wrap64 (x6_1 + 1)) a1_0 a1_1)) = some r := by rw [if_neg (show ¬ (false = true) by decide)] at H; exact H
                              clear H
                              have H := H1
                              clear H1
                              by_cases c90 : ((rd_T32 l0 (ji11)).f1) ≤ a1_1
                              · rw [if_pos c90] at H
                                have c90b0 : decide (((rd_T32 l0 (ji11)).f1) ≤ a1_1) = true := decide_eq_true c90
                                clear c90
                                by_cases c91 : a1_1 < ((rd_T32 l0 x6_1).f1)
                                · rw [if_pos c91] at H
                                  have c91b0 : decide (a1_1 < ((rd_T32 l0 x6_1).f1)) = true := decide_eq_true c91
                                  clear c91
                                  by_cases c92 : (wrap64 ((wrap64 ((wrap64 (((rd_T32 l0 (ji11)).f0) - ((rd_T32 l0 x6_1).f0))) * (wrap64 (a1_1 - ((rd_T32 l0 x6_1).f1))))) - (wrap64 ((wrap64 (a1_0 - ((rd_T32 l0 x6_1).f0))) * (wrap64 (((rd_T32 l0 (ji11)).f1) - ((rd_T32 l0 x6_1).f1))))))) < 0
                                  · rw [if_pos c92] at H
                                    have c92b0 : decide ((wrap64 ((wrap64 ((wrap64 (((rd_T32 l0 (ji11)).f0) - ((rd_T32 l0 x6_1).f0))) * (wrap64 (a1_1 - ((rd_T32 l0 x6_1).f1))))) - (wrap64 ((wrap64 (a1_0 - ((rd_T32 l0 x6_1).f0))) * (wrap64 (((rd_T32 l0 (ji11)).f1) - ((rd_T32 l0 x6_1).f1))))))) < 0) = true := decide_eq_true c92
                                    clear c92
                                    have H' := Aside0.mk H
                                    clear H
                                    have hnb93 := NB164_159.out
                                    have hnc93 := NB159_164.out
                                    have hnb94 := NB164_162.out
                                    have hnc94 := NB162_164.out
                                    have hcz95_0 : wc.cell? ⟨gb164, 0, none⟩ = some (.int .i64 ((rd_T32 l0 (ji11)).f0)) := (blk_cell BK164.out 0).trans rfl
                                    have hcz95_1 : wc.cell? ⟨gb164, 1, none⟩ = some (.int .i64 ((rd_T32 l0 (ji11)).f1)) := (blk_cell BK164.out 1).trans rfl
                                    have hfz95_0 := blk_frozen BK164.out 0
                                    have hfz95_1 := blk_frozen BK164.out 1
                                    have hnb96 := NB159_162.out
                                    have hnc96 := NB162_159.out
                                    have hcz97_0 : wc.cell? ⟨gb159, 0, none⟩ = some (.int .i64 a1_0) := (blk_cell BK159.out 0).trans rfl
                                    have hcz97_1 : wc.cell? ⟨gb159, 1, none⟩ = some (.int .i64 a1_1) := (blk_cell BK159.out 1).trans rfl
                                    have hfz97_0 := blk_frozen BK159.out 0
                                    have hfz97_1 := blk_frozen BK159.out 1
                                    have hcz98_0 : wc.cell? ⟨gb162, 0, none⟩ = some (.int .i64 ((rd_T32 l0 x6_1).f0)) := (blk_cell BK162.out 0).trans rfl
                                    have hcz98_1 : wc.cell? ⟨gb162, 1, none⟩ = some (.int .i64 ((rd_T32 l0 x6_1).f1)) := (blk_cell BK162.out 1).trans rfl
                                    have hfz98_0 := blk_frozen BK162.out 0
                                    have hfz98_1 := blk_frozen BK162.out 1
                                    go_wp2
                                    go_roundg kj36
                                    case measure => have := HK1.out; have := HJ13.out; have := HJ36.out; omega
                                    case rel => exact ⟨(wrap64 (x5_1 - 1)), (wrap64 (x6_1 + 1)), (by first | rfl | (simp; done) | (simp [*]; done)), (by first | rfl | (simp; done) | (simp [*]; done)), H', ⟨by have := HK1.out; have := HJ13.out; have := HJ36.out; omega⟩, ⟨by (with_reducible repeat (first | refine blk_drewN ?_ _ | refine blk_drew ?_ | refine blk_alloc ?_ _)); exact BK159.out⟩, ⟨by repeat (first | (with_reducible first | exact HB.out | apply below_alloc | apply pw_below_drewN | apply below_drew1 | refine below_set ?_ GE159.out | refine below_set ?_ GE162.out | refine below_set ?_ GE164.out) | exact HB.out)⟩⟩
                                  · rw [if_neg c92] at H
                                    have c92b0 : decide ((wrap64 ((wrap64 ((wrap64 (((rd_T32 l0 (ji11)).f0) - ((rd_T32 l0 x6_1).f0))) * (wrap64 (a1_1 - ((rd_T32 l0 x6_1).f1))))) - (wrap64 ((wrap64 (a1_0 - ((rd_T32 l0 x6_1).f0))) * (wrap64 (((rd_T32 l0 (ji11)).f1) - ((rd_T32 l0 x6_1).f1))))))) < 0) = false := decide_eq_false c92
                                    clear c92
                                    have H' := Aside0.mk H
                                    clear H
                                    have hnb99 := NB164_159.out
                                    have hnc99 := NB159_164.out
                                    have hnb100 := NB164_162.out
                                    have hnc100 := NB162_164.out
                                    have hcz101_0 : wc.cell? ⟨gb164, 0, none⟩ = some (.int .i64 ((rd_T32 l0 (ji11)).f0)) := (blk_cell BK164.out 0).trans rfl
                                    have hcz101_1 : wc.cell? ⟨gb164, 1, none⟩ = some (.int .i64 ((rd_T32 l0 (ji11)).f1)) := (blk_cell BK164.out 1).trans rfl
                                    have hfz101_0 := blk_frozen BK164.out 0
                                    have hfz101_1 := blk_frozen BK164.out 1
                                    have hnb102 := NB159_162.out
                                    have hnc102 := NB162_159.out
                                    have hcz103_0 : wc.cell? ⟨gb159, 0, none⟩ = some (.int .i64 a1_0) := (blk_cell BK159.out 0).trans rfl
                                    have hcz103_1 : wc.cell? ⟨gb159, 1, none⟩ = some (.int .i64 a1_1) := (blk_cell BK159.out 1).trans rfl
                                    have hfz103_0 := blk_frozen BK159.out 0
                                    have hfz103_1 := blk_frozen BK159.out 1
                                    have hcz104_0 : wc.cell? ⟨gb162, 0, none⟩ = some (.int .i64 ((rd_T32 l0 x6_1).f0)) := (blk_cell BK162.out 0).trans rfl
                                    have hcz104_1 : wc.cell? ⟨gb162, 1, none⟩ = some (.int .i64 ((rd_T32 l0 x6_1).f1)) := (blk_cell BK162.out 1).trans rfl
                                    have hfz104_0 := blk_frozen BK162.out 0
                                    have hfz104_1 := blk_frozen BK162.out 1
                                    go_wp2
                                    go_roundg kj36
                                    case measure => have := HK1.out; have := HJ13.out; have := HJ36.out; omega
                                    case rel => exact ⟨(x5_1), (wrap64 (x6_1 + 1)), (by first | rfl | (simp; done) | (simp [*]; done)), (by first | rfl | (simp; done) | (simp [*]; done)), H', ⟨by have := HK1.out; have := HJ13.out; have := HJ36.out; omega⟩, ⟨by (with_reducible repeat (first | refine blk_drewN ?_ _ | refine blk_drew ?_ | refine blk_alloc ?_ _)); exact BK159.out⟩, ⟨by repeat (first | (with_reducible first | exact HB.out | apply below_alloc | apply pw_below_drewN | apply below_drew1 | refine below_set ?_ GE159.out | refine below_set ?_ GE162.out | refine below_set ?_ GE164.out) | exact HB.out)⟩⟩
                                · rw [if_neg c91] at H
                                  have c91b0 : decide (a1_1 < ((rd_T32 l0 x6_1).f1)) = false := decide_eq_false c91
                                  clear c91
                                  have H' := Aside0.mk H
                                  clear H
                                  have hnb105 := NB164_159.out
                                  have hnc105 := NB159_164.out
                                  have hnb106 := NB164_162.out
                                  have hnc106 := NB162_164.out
                                  have hcz107_0 : wc.cell? ⟨gb164, 0, none⟩ = some (.int .i64 ((rd_T32 l0 (ji11)).f0)) := (blk_cell BK164.out 0).trans rfl
                                  have hcz107_1 : wc.cell? ⟨gb164, 1, none⟩ = some (.int .i64 ((rd_T32 l0 (ji11)).f1)) := (blk_cell BK164.out 1).trans rfl
                                  have hfz107_0 := blk_frozen BK164.out 0
                                  have hfz107_1 := blk_frozen BK164.out 1
                                  have hnb108 := NB159_162.out
                                  have hnc108 := NB162_159.out
                                  have hcz109_0 : wc.cell? ⟨gb159, 0, none⟩ = some (.int .i64 a1_0) := (blk_cell BK159.out 0).trans rfl
                                  have hcz109_1 : wc.cell? ⟨gb159, 1, none⟩ = some (.int .i64 a1_1) := (blk_cell BK159.out 1).trans rfl
                                  have hfz109_0 := blk_frozen BK159.out 0
                                  have hfz109_1 := blk_frozen BK159.out 1
                                  have hcz110_0 : wc.cell? ⟨gb162, 0, none⟩ = some (.int .i64 ((rd_T32 l0 x6_1).f0)) := (blk_cell BK162.out 0).trans rfl
                                  have hcz110_1 : wc.cell? ⟨gb162, 1, none⟩ = some (.int .i64 ((rd_T32 l0 x6_1).f1)) := (blk_cell BK162.out 1).trans rfl
                                  have hfz110_0 := blk_frozen BK162.out 0
                                  have hfz110_1 := blk_frozen BK162.out 1
                                  go_wp2
                                  go_roundg kj36
                                  case measure => have := HK1.out; have := HJ13.out; have := HJ36.out; omega
                                  case rel => exact ⟨(x5_1), (wrap64 (x6_1 + 1)), (by first | rfl | (simp; done) | (simp [*]; done)), (by first | rfl | (simp; done) | (simp [*]; done)), H', ⟨by have := HK1.out; have := HJ13.out; have := HJ36.out; omega⟩, ⟨by (with_reducible repeat (first | refine blk_drewN ?_ _ | refine blk_drew ?_ | refine blk_alloc ?_ _)); exact BK159.out⟩, ⟨by repeat (first | (with_reducible first | exact HB.out | apply below_alloc | apply pw_below_drewN | apply below_drew1 | refine below_set ?_ GE159.out | refine below_set ?_ GE162.out | refine below_set ?_ GE164.out) | exact HB.out)⟩⟩
                              · rw [if_neg c90] at H
                                have c90b0 : decide (((rd_T32 l0 (ji11)).f1) ≤ a1_1) = false := decide_eq_false c90
                                clear c90
                                have H' := Aside0.mk H
                                clear H
                                have hnb111 := NB164_159.out
                                have hnc111 := NB159_164.out
                                have hnb112 := NB164_162.out
                                have hnc112 := NB162_164.out
                                have hcz113_0 : wc.cell? ⟨gb164, 0, none⟩ = some (.int .i64 ((rd_T32 l0 (ji11)).f0)) := (blk_cell BK164.out 0).trans rfl
                                have hcz113_1 : wc.cell? ⟨gb164, 1, none⟩ = some (.int .i64 ((rd_T32 l0 (ji11)).f1)) := (blk_cell BK164.out 1).trans rfl
                                have hfz113_0 := blk_frozen BK164.out 0
                                have hfz113_1 := blk_frozen BK164.out 1
                                have hnb114 := NB159_162.out
                                have hnc114 := NB162_159.out
                                have hcz115_0 : wc.cell? ⟨gb159, 0, none⟩ = some (.int .i64 a1_0) := (blk_cell BK159.out 0).trans rfl
                                have hcz115_1 : wc.cell? ⟨gb159, 1, none⟩ = some (.int .i64 a1_1) := (blk_cell BK159.out 1).trans rfl
                                have hfz115_0 := blk_frozen BK159.out 0
                                have hfz115_1 := blk_frozen BK159.out 1
                                go_wp2
                                go_roundg kj36
                                case measure => have := HK1.out; have := HJ13.out; have := HJ36.out; omega
                                case rel => exact ⟨(x5_1), (wrap64 (x6_1 + 1)), (by first | rfl | (simp; done) | (simp [*]; done)), (by first | rfl | (simp; done) | (simp [*]; done)), H', ⟨by have := HK1.out; have := HJ13.out; have := HJ36.out; omega⟩, ⟨by (with_reducible repeat (first | refine blk_drewN ?_ _ | refine blk_drew ?_ | refine blk_alloc ?_ _)); exact BK159.out⟩, ⟨by repeat (first | (with_reducible first | exact HB.out | apply below_alloc | apply pw_below_drewN | apply below_drew1 | refine below_set ?_ GE159.out | refine below_set ?_ GE162.out | refine below_set ?_ GE164.out) | exact HB.out)⟩⟩
                · rw [if_neg c13] at H
                  exact absurd H (by simp)
              · rw [if_neg c12] at H
                exact absurd H (by simp)
          · rw [if_neg c9] at H
            exact absurd H (by simp)
        · rw [if_neg c8] at H
          have c8b0 : decide (x6_1 < (l0.length : Int)) = false := decide_eq_false c8
          clear c8
          obtain rfl := Option.some.inj H
          simp only [Option.some.injEq, Prod.mk.injEq] at H
          obtain ⟨rfl⟩ := H
          go_wp2
          go_ret
          exact ⟨by first | rfl | (simp [errW_none, errW_some] <;> rfl) | (simp [*, errW_none, errW_some] <;> rfl), by repeat (first | (with_reducible first | exact HB.out | apply below_alloc | apply pw_below_drewN | apply below_drew1 | refine below_set ?_ GE159.out) | exact HB.out)⟩
  · replace c4 := Bool.eq_false_iff.mpr c4
    subst c4
    have H1 : (some 0) = some r := by rw [if_neg (show ¬ (false = true) by decide)] at H; exact H
    clear H
    have H := H1
    clear H1
    obtain rfl := Option.some.inj H
    simp only [Option.some.injEq, Prod.mk.injEq] at H
    obtain ⟨rfl⟩ := H
    go_enter Try.func178, Try.ntmps178
    go_wp2_with (first | ((with_reducible refine gate_dst (N := 3) rfl ?_); refine box_event ?hg (N := 3) ?hd (cs := #[.int .i64 a1_0, .int .i64 a1_1]) (t := 32) ?hr ?_; (case hd => rfl); (case hg => rfl); (case hr => first | (go_simp; done) | (go_simp; rfl)); intro gb159 hg w116 hbox hb; have n0_ := Aside0.mk (below_step (by repeat (first | (with_reducible first | exact HB.out | apply below_alloc | apply pw_below_drewN | apply below_drew1) | exact HB.out)) hb); have n1_ := Aside0.mk (hbox); have n2_ := Aside0.mk ((by rw [hg]; exact (below_size (by repeat (first | (with_reducible first | exact HB.out | apply below_alloc | apply pw_below_drewN | apply below_drew1) | exact HB.out))) : w.heap.size ≤ gb159)); have n3_ := Aside0.mk ((by rw [hg]; exact (below_size (by repeat (first | (with_reducible first | exact HB.out | apply below_alloc | apply pw_below_drewN | apply below_drew1) | exact HB.out))) : w.heap.size ≤ gb159)); clear HB; have HB := n0_; have BK159 := n1_; have GW159 := n2_; have GE159 := n3_; clear n0_ n1_ n2_ n3_; clear hb hbox hg; have hcz117_0 : w116.cell? ⟨gb159, 0, none⟩ = some (.int .i64 a1_0) := (blk_cell BK159.out 0).trans rfl; have hcz117_1 : w116.cell? ⟨gb159, 1, none⟩ = some (.int .i64 a1_1) := (blk_cell BK159.out 1).trans rfl; have hfz117_0 := blk_frozen BK159.out 0; have hfz117_1 := blk_frozen BK159.out 1) | ((with_reducible refine gate_callee (f := 192) rfl ?_); refine goesL_ (some 11) rfl rfl Try.func192 (by kernel_rfl) rfl #[.agg #[.int .i64 a1_0, .int .i64 a1_1]] rfl (by (try simp only [List.map_toArray, List.map_cons, List.map_nil]); first | done | rfl | (simp only [List.length_drop, List.length_take]; rfl)) ?_; (with_reducible refine (spec_l10Near.calls a1_0 a1_1 false _ A3.out).mono ?_); rintro e w118 ⟨rfl, hb⟩; refine ⟨_, rfl, ?_⟩; have n0_ := Aside0.mk (blk_below (g := gb159) (o := .cells #[.int .i64 a1_0, .int .i64 a1_1] 32 (0, 0)) (by (with_reducible repeat (first | refine blk_drewN ?_ _ | refine blk_drew ?_ | refine blk_alloc ?_ _)); exact BK159.out) hb); have n1_ := Aside0.mk (below_step (by repeat (first | (with_reducible first | exact HB.out | apply below_alloc | apply pw_below_drewN | apply below_drew1 | refine below_set ?_ GE159.out) | exact HB.out)) hb); clear BK159; clear HB; have BK159 := n0_; have HB := n1_; clear n0_ n1_; (try clear hb); (try clear hb2); (try clear hk); (try clear hi)))
    go_ret
    exact ⟨by first | rfl | (simp [errW_none, errW_some] <;> rfl) | (simp [*, errW_none, errW_some] <;> rfl), by repeat (first | (with_reducible first | exact HB.out | apply below_alloc | apply pw_below_drewN | apply below_drew1 | refine below_set ?_ GE159.out) | exact HB.out)⟩

end Go.Proofs.Ytgdlbilpfmjeaaa.MFnExactMaskOf
