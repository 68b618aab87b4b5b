/- Functions of the program as Lean functions, and the proof that a call comes to just these: machine text of this session's own program (myprint.py). -/
import Derived.Test.YtmgbefpidnaeoaaMFnWindsx0
import Derived.Test.YtmgbefpidnaeoaaMFnWindsx1
namespace Go.Proofs.Ytmgbefpidnaeoaa.MFnWinds
open Go.RowKit Go.Proofs.YtmgbefpidnaeoaaW.PrintWords Go.Proofs.YtmgbefpidnaeoaaW.PrintLast Go.Proofs.YtmgbefpidnaeoaaW.PrintMore
attribute [local go_sem] max2_int min2_int max_two min_two max_three min_three max_four min_four   -- for this text's walks alone
set_option linter.unusedVariables false
set_option linter.unusedSimpArgs false

/-! ### impl_WindOf: function 10 -/
mutual
def impl_WindOf.l0 : Nat → List (S29) → List (S29) → Int → Int → Int → Int → Option (Int)
  | 0, _, _, _, _, _, _ => none
  | k + 1, x0, x15, x16, x17, x164000, x164001 => if x17 < x16 then (if 0 ≤ x17 then (if x17 < (x15.length : Int) then ((impl_isNear.f ((rd_T29 x15 x17).f0) ((rd_T29 x15 x17).f1)).bind fun t167 => (if t167 = true then (impl_WindOf.l0 k x0 x15 x16 (wrap64 (x17 + 1)) x164000 x164001) else (some 0))) else (none)) else (none)) else (impl_WindOf.l1 k x0 0 x0 (x0.length : Int) 0 x164000 x164001)
def impl_WindOf.l1 : Nat → List (S29) → Int → List (S29) → Int → Int → Int → Int → Option (Int)
  | 0, _, _, _, _, _, _, _ => none
  | k + 1, x0, x7, x25, x26, x27, x164000, x164001 => if x27 < x26 then (if 0 ≤ x27 then (if x27 < (x25.length : Int) then (if (x0.length : Int) = 0 then (none) else (if 0 ≤ (Int.tmod (wrap64 (x27 + 1)) (x0.length : Int)) then (if (Int.tmod (wrap64 (x27 + 1)) (x0.length : Int)) < (x0.length : Int) then (if ((rd_T29 x25 x27).f1) ≤ x164001 then (if x164001 < ((rd_T29 x0 (Int.tmod (wrap64 (x27 + 1)) (x0.length : Int))).f1) then (impl_WindOf.j2 k x0 x7 (wrap64 ((wrap64 ((wrap64 (((rd_T29 x0 (Int.tmod (wrap64 (x27 + 1)) (x0.length : Int))).f0) - ((rd_T29 x25 x27).f0))) * (wrap64 (x164001 - ((rd_T29 x25 x27).f1))))) - (wrap64 ((wrap64 (x164000 - ((rd_T29 x25 x27).f0))) * (wrap64 (((rd_T29 x0 (Int.tmod (wrap64 (x27 + 1)) (x0.length : Int))).f1) - ((rd_T29 x25 x27).f1))))))) x25 x26 x27 (decide ((wrap64 ((wrap64 ((wrap64 (((rd_T29 x0 (Int.tmod (wrap64 (x27 + 1)) (x0.length : Int))).f0) - ((rd_T29 x25 x27).f0))) * (wrap64 (x164001 - ((rd_T29 x25 x27).f1))))) - (wrap64 ((wrap64 (x164000 - ((rd_T29 x25 x27).f0))) * (wrap64 (((rd_T29 x0 (Int.tmod (wrap64 (x27 + 1)) (x0.length : Int))).f1) - ((rd_T29 x25 x27).f1))))))) > 0)) x164000 x164001 ((rd_T29 x25 x27).f0) ((rd_T29 x25 x27).f1) ((rd_T29 x0 (Int.tmod (wrap64 (x27 + 1)) (x0.length : Int))).f0) ((rd_T29 x0 (Int.tmod (wrap64 (x27 + 1)) (x0.length : Int))).f1)) else (impl_WindOf.j2 k x0 x7 (wrap64 ((wrap64 ((wrap64 (((rd_T29 x0 (Int.tmod (wrap64 (x27 + 1)) (x0.length : Int))).f0) - ((rd_T29 x25 x27).f0))) * (wrap64 (x164001 - ((rd_T29 x25 x27).f1))))) - (wrap64 ((wrap64 (x164000 - ((rd_T29 x25 x27).f0))) * (wrap64 (((rd_T29 x0 (Int.tmod (wrap64 (x27 + 1)) (x0.length : Int))).f1) - ((rd_T29 x25 x27).f1))))))) x25 x26 x27 false x164000 x164001 ((rd_T29 x25 x27).f0) ((rd_T29 x25 x27).f1) ((rd_T29 x0 (Int.tmod (wrap64 (x27 + 1)) (x0.length : Int))).f0) ((rd_T29 x0 (Int.tmod (wrap64 (x27 + 1)) (x0.length : Int))).f1))) else (impl_WindOf.j2 k x0 x7 (wrap64 ((wrap64 ((wrap64 (((rd_T29 x0 (Int.tmod (wrap64 (x27 + 1)) (x0.length : Int))).f0) - ((rd_T29 x25 x27).f0))) * (wrap64 (x164001 - ((rd_T29 x25 x27).f1))))) - (wrap64 ((wrap64 (x164000 - ((rd_T29 x25 x27).f0))) * (wrap64 (((rd_T29 x0 (Int.tmod (wrap64 (x27 + 1)) (x0.length : Int))).f1) - ((rd_T29 x25 x27).f1))))))) x25 x26 x27 false x164000 x164001 ((rd_T29 x25 x27).f0) ((rd_T29 x25 x27).f1) ((rd_T29 x0 (Int.tmod (wrap64 (x27 + 1)) (x0.length : Int))).f0) ((rd_T29 x0 (Int.tmod (wrap64 (x27 + 1)) (x0.length : Int))).f1))) else (none)) else (none))) else (none)) else (none)) else (some x7)
def impl_WindOf.j2 : Nat → List (S29) → Int → Int → List (S29) → Int → Int → Bool → Int → Int → Int → Int → Int → Int → Option (Int)
  | 0, _, _, _, _, _, _, _, _, _, _, _, _, _ => none
  | k + 1, x0, x7, x11, x25, x26, x27, x63, x164000, x164001, x170000, x170001, x172000, x172001 => if x63 = true then (impl_WindOf.l1 k x0 (wrap64 (x7 + 1)) x25 x26 (wrap64 (x27 + 1)) x164000 x164001) else (if x172001 ≤ x164001 then (if x164001 < x170001 then (if x11 < 0 then (impl_WindOf.l1 k x0 (wrap64 (x7 - 1)) x25 x26 (wrap64 (x27 + 1)) x164000 x164001) else (impl_WindOf.l1 k x0 x7 x25 x26 (wrap64 (x27 + 1)) x164000 x164001)) else (impl_WindOf.l1 k x0 x7 x25 x26 (wrap64 (x27 + 1)) x164000 x164001)) else (impl_WindOf.l1 k x0 x7 x25 x26 (wrap64 (x27 + 1)) x164000 x164001))
end
def impl_WindOf.f (k : Nat) (l0 : List (S29)) (a1_0 : Int) (a1_1 : Int) : Option (Int) := (impl_isNear.f a1_0 a1_1).bind fun t164 => (if t164 = true then (impl_WindOf.l0 k l0 l0 (l0.length : Int) 0 a1_0 a1_1) else (some 0))
theorem impl_WindOf.mono_l : ∀ k, (∀ y0 y1 y2 y3 y4 y5, LeO (impl_WindOf.l0 k y0 y1 y2 y3 y4 y5) (impl_WindOf.l0 (k + 1) y0 y1 y2 y3 y4 y5)) ∧ (∀ y0 y1 y2 y3 y4 y5 y6, LeO (impl_WindOf.l1 k y0 y1 y2 y3 y4 y5 y6) (impl_WindOf.l1 (k + 1) y0 y1 y2 y3 y4 y5 y6)) ∧ (∀ y0 y1 y2 y3 y4 y5 y6 y7 y8 y9 y10 y11 y12, LeO (impl_WindOf.j2 k y0 y1 y2 y3 y4 y5 y6 y7 y8 y9 y10 y11 y12) (impl_WindOf.j2 (k + 1) y0 y1 y2 y3 y4 y5 y6 y7 y8 y9 y10 y11 y12))
  | 0 => ⟨fun _ _ _ _ _ _ r h => by simp [impl_WindOf.l0] at h, fun _ _ _ _ _ _ _ r h => by simp [impl_WindOf.l1] at h, fun _ _ _ _ _ _ _ _ _ _ _ _ _ r h => by simp [impl_WindOf.j2] at h⟩
  | k + 1 => by
    obtain ⟨ih0, ih1, ih2⟩ := impl_WindOf.mono_l k
    refine ⟨?_, ?_, ?_⟩
    · intro y0 y1 y2 y3 y4 y5
      unfold impl_WindOf.l0
      repeat' first
      | (with_reducible exact ih0 _ _ _ _ _ _)
      | (with_reducible exact ih1 _ _ _ _ _ _ _)
      | (with_reducible exact ih2 _ _ _ _ _ _ _ _ _ _ _ _ _)
      | (with_reducible exact LeO.refl _)
      | (with_reducible exact LeO.none _)
      | (with_reducible refine LeO.ite ?_ ?_)
      | (with_reducible refine LeO.bind ?_ (fun _ => ?_))
      | exact ih0 _ _ _ _ _ _
      | exact ih1 _ _ _ _ _ _ _
      | exact ih2 _ _ _ _ _ _ _ _ _ _ _ _ _
      | exact LeO.none _
      | refine LeO.ite ?_ ?_
      | refine LeO.bind ?_ (fun _ => ?_)
    · intro y0 y1 y2 y3 y4 y5 y6
      unfold impl_WindOf.l1
      repeat' first
      | (with_reducible exact ih0 _ _ _ _ _ _)
      | (with_reducible exact ih1 _ _ _ _ _ _ _)
      | (with_reducible exact ih2 _ _ _ _ _ _ _ _ _ _ _ _ _)
      | (with_reducible exact LeO.refl _)
      | (with_reducible exact LeO.none _)
      | (with_reducible refine LeO.ite ?_ ?_)
      | (with_reducible refine LeO.bind ?_ (fun _ => ?_))
      | exact ih0 _ _ _ _ _ _
      | exact ih1 _ _ _ _ _ _ _
      | exact ih2 _ _ _ _ _ _ _ _ _ _ _ _ _
      | exact LeO.none _
      | refine LeO.ite ?_ ?_
      | refine LeO.bind ?_ (fun _ => ?_)
    · intro y0 y1 y2 y3 y4 y5 y6 y7 y8 y9 y10 y11 y12
      unfold impl_WindOf.j2
      repeat' first
      | (with_reducible exact ih0 _ _ _ _ _ _)
      | (with_reducible exact ih1 _ _ _ _ _ _ _)
      | (with_reducible exact ih2 _ _ _ _ _ _ _ _ _ _ _ _ _)
      | (with_reducible exact LeO.refl _)
      | (with_reducible exact LeO.none _)
      | (with_reducible refine LeO.ite ?_ ?_)
      | (with_reducible refine LeO.bind ?_ (fun _ => ?_))
      | exact ih0 _ _ _ _ _ _
      | exact ih1 _ _ _ _ _ _ _
      | exact ih2 _ _ _ _ _ _ _ _ _ _ _ _ _
      | exact LeO.none _
      | refine LeO.ite ?_ ?_
      | refine LeO.bind ?_ (fun _ => ?_)
theorem impl_WindOf.mono : ∀ a0 a1 a2 k, LeO (impl_WindOf.f k a0 a1 a2) (impl_WindOf.f (k + 1) a0 a1 a2) := by
  intro a0 a1 a2 k
  obtain ⟨ih0, ih1, ih2⟩ := impl_WindOf.mono_l k
  unfold impl_WindOf.f
  repeat' first
      | (with_reducible exact ih0 _ _ _ _ _ _)
      | (with_reducible exact ih1 _ _ _ _ _ _ _)
      | (with_reducible exact ih2 _ _ _ _ _ _ _ _ _ _ _ _ _)
      | (with_reducible exact LeO.refl _)
      | (with_reducible exact LeO.none _)
      | (with_reducible refine LeO.ite ?_ ?_)
      | (with_reducible refine LeO.bind ?_ (fun _ => ?_))
      | exact ih0 _ _ _ _ _ _
      | exact ih1 _ _ _ _ _ _ _
      | exact ih2 _ _ _ _ _ _ _ _ _ _ _ _ _
      | exact LeO.none _
      | refine LeO.ite ?_ ?_
      | refine LeO.bind ?_ (fun _ => ?_)
set_option maxHeartbeats 8000000 in
set_option maxRecDepth 100000 in
theorem impl_WindOf.calls (k : Nat) (A0 : Option Addr) (c0 : Nat) (l0 : List (S29)) (a1_0 : Int) (a1_1 : Int) (r : Int) (w : World) (hr0 : Kd.C k29 w A0 l0.length l0) (hc0 : l0.length ≤ c0) (h : impl_WindOf.f k l0 a1_0 a1_1 = some r) :
    Calls Try.prog 10 #[.slice A0 l0.length c0, .agg #[.int .i64 a1_0, .int .i64 a1_1]] w fun e w' => e = .returned (.int .i64 r) ∧ Below w.heap.size w w' := by
  have hu29 := Try.underlying29
  have HR0 := Aside0.mk hr0
  have HC0 := Aside0.mk hc0
  clear hr0 hc0
  have HB := Aside0.mk (Below.refl w.heap.size w)
  have H : ((impl_isNear.f a1_0 a1_1).bind fun t164 => (if t164 = true then (impl_WindOf.l0 k l0 l0 (l0.length : Int) 0 a1_0 a1_1) else (some 0))) = some r := h
  clear h
  replace H := Option.bind_eq_some_iff.mp H
  obtain ⟨t164, A30, H⟩ := H
  replace H : (if t164 = true then (impl_WindOf.l0 k l0 l0 (l0.length : Int) 0 a1_0 a1_1) else (some 0)) = some r := H
  have A3 := Aside0.mk A30
  clear A30
  by_cases c4 : t164 = true
  · subst c4
    have H1 : (impl_WindOf.l0 k l0 l0 (l0.length : Int) 0 a1_0 a1_1) = some r := by rw [if_pos rfl] at H; exact H
    clear H
    have H := H1
    clear H1
    have H' := Aside0.mk H
    clear H
    go_enter Try.func10, Try.ntmps10
    go_wp2_with (first | ((with_reducible refine gate_dst (N := 3) rfl ?_); refine box_event ?hg (N := 3) ?hd (cs := #[.int .i64 a1_0, .int .i64 a1_1]) (t := 29) ?hr ?_; (case hd => rfl); (case hg => rfl); (case hr => first | (go_simp; done) | (go_simp; rfl)); intro gb163 hg w5 hbox hb; have n0_ := Aside0.mk (below_step (by repeat (first | (with_reducible first | exact HB.out | apply below_alloc | apply pw_below_drewN | apply below_drew1) | exact HB.out)) hb); have n1_ := Aside0.mk (hbox); have n2_ := Aside0.mk ((by rw [hg]; exact (below_size (by repeat (first | (with_reducible first | exact HB.out | apply below_alloc | apply pw_below_drewN | apply below_drew1) | exact HB.out))) : w.heap.size ≤ gb163)); have n3_ := Aside0.mk ((by rw [hg]; exact (below_size (by repeat (first | (with_reducible first | exact HB.out | apply below_alloc | apply pw_below_drewN | apply below_drew1) | exact HB.out))) : w.heap.size ≤ gb163)); clear HB; have HB := n0_; have BK163 := n1_; have GW163 := n2_; have GE163 := n3_; clear n0_ n1_ n2_ n3_; clear hb hbox hg; have hcz6_0 : w5.cell? ⟨gb163, 0, none⟩ = some (.int .i64 a1_0) := (blk_cell BK163.out 0).trans rfl; have hcz6_1 : w5.cell? ⟨gb163, 1, none⟩ = some (.int .i64 a1_1) := (blk_cell BK163.out 1).trans rfl; have hfz6_0 := blk_frozen BK163.out 0; have hfz6_1 := blk_frozen BK163.out 1) | ((with_reducible refine gate_callee (f := 24) rfl ?_); refine goesL_ (some 13) rfl rfl Try.func24 (by kernel_rfl) rfl #[.agg #[.int .i64 a1_0, .int .i64 a1_1]] rfl (by (try simp only [List.map_toArray, List.map_cons, List.map_nil]); first | done | rfl | (simp only [List.length_drop, List.length_take]; rfl)) ?_; (with_reducible refine (impl_isNear.calls a1_0 a1_1 true _ A3.out).mono ?_); rintro e w7 ⟨rfl, hb⟩; refine ⟨_, rfl, ?_⟩; have n0_ := Aside0.mk (blk_below (g := gb163) (o := .cells #[.int .i64 a1_0, .int .i64 a1_1] 29 (0, 0)) (by (with_reducible repeat (first | refine blk_drewN ?_ _ | refine blk_drew ?_ | refine blk_alloc ?_ _)); exact BK163.out) hb); have n1_ := Aside0.mk (below_step (by repeat (first | (with_reducible first | exact HB.out | apply below_alloc | apply pw_below_drewN | apply below_drew1 | refine below_set ?_ GE163.out) | exact HB.out)) hb); clear BK163; clear HB; have BK163 := n0_; have HB := n1_; clear n0_ n1_; (try clear hb); (try clear hb2); (try clear hk); (try clear hi)))
    go_loopg [17] k (fun kq v17 w' => ∃ (x17_1 : Int), v17 = .int .i64 x17_1 ∧ Aside0 (impl_WindOf.l0 kq l0 l0 (l0.length : Int) x17_1 a1_0 a1_1 = some r) ∧ Aside0 (kq ≤ k) ∧ Aside0 (w'.heap[gb163]? = some (.cells #[.int .i64 a1_0, .int .i64 a1_1] 29 (0, 0))) ∧ Aside0 (Below w.heap.size w w'))
    case atStart => exact ⟨(0), (by first | rfl | (simp; done) | (simp [*]; done)), H', ⟨Nat.le_refl _⟩, ⟨by (with_reducible repeat (first | refine blk_drewN ?_ _ | refine blk_drew ?_ | refine blk_alloc ?_ _)); exact BK163.out⟩, ⟨by repeat (first | (with_reducible first | exact HB.out | apply below_alloc | apply pw_below_drewN | apply below_drew1 | refine below_set ?_ GE163.out) | exact HB.out)⟩⟩
    case round =>
      clear H'
      try clear c1
      try clear c2
      try clear p2
      try clear c4
      try clear hcz6_0
      try clear hcz6_1
      try clear hfz6_0
      try clear hfz6_1
      obtain ⟨x17_1, rfl, HA, HK1, BK163, HB⟩ := hrel
      cases gk with
      | zero => exact absurd HA.out (by simp [impl_WindOf.l0])
      | succ k1 =>
        have H := HA.out
        clear HA
        simp only [impl_WindOf.l0] at H
        by_cases c8 : x17_1 < (l0.length : Int)
        · rw [if_pos c8] at H
          have c8b0 : decide (x17_1 < (l0.length : Int)) = true := decide_eq_true c8
          clear c8
          by_cases c9 : 0 ≤ x17_1
          · rw [if_pos c9] at H
            have c9b0 : decide (0 ≤ x17_1) = true := decide_eq_true c9
            clear c9
            by_cases c10 : x17_1 < (l0.length : Int)
            · rw [if_pos c10] at H
              have c10b0 : decide (x17_1 < (l0.length : Int)) = true := decide_eq_true c10
              clear c10
              replace H := Option.bind_eq_some_iff.mp H
              obtain ⟨t167, A110, H⟩ := H
              replace H : (if t167 = true then (impl_WindOf.l0 k1 l0 l0 (l0.length : Int) (wrap64 (x17_1 + 1)) a1_0 a1_1) else (some 0)) = some r := H
              have A11 := Aside0.mk A110
              clear A110
              by_cases c12 : t167 = true
              · subst c12
                have H1 : (impl_WindOf.l0 k1 l0 l0 (l0.length : Int) (wrap64 (x17_1 + 1)) a1_0 a1_1) = some r := by rw [if_pos rfl] at H; exact H
                clear H
                have H := H1
                clear H1
                have H' := Aside0.mk H
                clear H
                have p165 : 0 ≤ (x17_1 : Int) := of_decide_eq_true (by first | (with_reducible assumption) | assumption)
                have q165 : x17_1 < (l0.length : Int) := of_decide_eq_true (by first | (with_reducible assumption) | assumption)
                obtain ⟨ad165, e165, hx165_0, hx165_1⟩ := at_T29 HR0.out x17_1 p165 q165
                cases e165
                replace hx165_0 := (HB.out.cell (World.block_lt_of_cell? w _ hx165_0)).trans hx165_0
                replace hx165_1 := (HB.out.cell (World.block_lt_of_cell? w _ hx165_1)).trans hx165_1
                replace p165 := eq_true p165
                replace q165 := eq_true q165
                go_wp2_with (first | ((with_reducible refine gate_dst (N := 6) rfl ?_); refine box_event ?hg (N := 6) ?hd (cs := #[.int .i64 0, .int .i64 0]) (t := 29) ?hr ?_; (case hd => rfl); (case hg => rfl); (case hr => first | (go_simp; done) | (go_simp; rfl)); intro gb166 hg w13 hbox hb; have n0_ := Aside0.mk (blk_below (g := gb163) (o := .cells #[.int .i64 a1_0, .int .i64 a1_1] 29 (0, 0)) (by (with_reducible repeat (first | refine blk_drewN ?_ _ | refine blk_drew ?_ | refine blk_alloc ?_ _)); exact BK163.out) hb); have n1_ := Aside0.mk (below_step (by repeat (first | (with_reducible first | exact HB.out | apply below_alloc | apply pw_below_drewN | apply below_drew1 | refine below_set ?_ GE163.out) | exact HB.out)) hb); have n2_ := Aside0.mk (hbox); have n3_ := Aside0.mk ((by rw [hg]; exact (below_size (by repeat (first | (with_reducible first | exact HB.out | apply below_alloc | apply pw_below_drewN | apply below_drew1 | refine below_set ?_ GE163.out) | exact HB.out))) : w.heap.size ≤ gb166)); have n4_ := Aside0.mk ((by rw [hg]; exact (below_size (by repeat (first | (with_reducible first | exact HB.out | apply below_alloc | apply pw_below_drewN | apply below_drew1 | refine below_set ?_ GE163.out) | exact HB.out))) : w.heap.size ≤ gb166)); have n5_ := Aside0.mk ((by rw [hg]; exact Nat.ne_of_lt (blk_lt (g := gb163) (o := .cells #[.int .i64 a1_0, .int .i64 a1_1] 29 (0, 0)) (by (with_reducible repeat (first | refine blk_drewN ?_ _ | refine blk_drew ?_ | refine blk_alloc ?_ _)); exact BK163.out)) : gb163 ≠ gb166)); have n6_ := Aside0.mk ((by rw [hg]; exact Nat.ne_of_gt (blk_lt (g := gb163) (o := .cells #[.int .i64 a1_0, .int .i64 a1_1] 29 (0, 0)) (by (with_reducible repeat (first | refine blk_drewN ?_ _ | refine blk_drew ?_ | refine blk_alloc ?_ _)); exact BK163.out)) : gb166 ≠ gb163)); clear BK163; clear HB; have BK163 := n0_; have HB := n1_; have BK166 := n2_; have GW166 := n3_; have GE166 := n4_; have NB163_166 := n5_; have NB166_163 := n6_; clear n0_ n1_ n2_ n3_ n4_ n5_ n6_; clear hb hbox hg; have hnb14 := NB166_163.out; have hnc14 := NB163_166.out; have hcz15_0 : w13.cell? ⟨gb166, 0, none⟩ = some (.int .i64 0) := (blk_cell BK166.out 0).trans rfl; have hcz15_1 : w13.cell? ⟨gb166, 1, none⟩ = some (.int .i64 0) := (blk_cell BK166.out 1).trans rfl; have hfz15_0 := blk_frozen BK166.out 0; have hfz15_1 := blk_frozen BK166.out 1) | ((with_reducible refine gate_callee (f := 24) rfl ?_); refine goesL_ (some 22) rfl rfl Try.func24 (by kernel_rfl) rfl #[.agg #[.int .i64 ((rd_T29 l0 x17_1).f0), .int .i64 ((rd_T29 l0 x17_1).f1)]] rfl (by (try simp only [List.map_toArray, List.map_cons, List.map_nil]); first | done | rfl | (simp only [List.length_drop, List.length_take]; rfl)) ?_; (with_reducible refine (impl_isNear.calls ((rd_T29 l0 x17_1).f0) ((rd_T29 l0 x17_1).f1) true _ A11.out).mono ?_); rintro e w16 ⟨rfl, hb⟩; refine ⟨_, rfl, ?_⟩; have n0_ := Aside0.mk (blk_below (g := gb163) (o := .cells #[.int .i64 a1_0, .int .i64 a1_1] 29 (0, 0)) (by (with_reducible repeat (first | refine blk_drewN ?_ _ | refine blk_drew ?_ | refine blk_alloc ?_ _)); refine blk_far ?_ NB163_166.out _; (with_reducible repeat (first | refine blk_drewN ?_ _ | refine blk_drew ?_ | refine blk_alloc ?_ _)); refine blk_far ?_ NB163_166.out _; (with_reducible repeat (first | refine blk_drewN ?_ _ | refine blk_drew ?_ | refine blk_alloc ?_ _)); exact BK163.out) hb); have n1_ := Aside0.mk (blk_below (g := gb166) (o := .cells #[.int .i64 ((rd_T29 l0 x17_1).f0), .int .i64 ((rd_T29 l0 x17_1).f1)] 29 (0, 0)) (by apply blk_fin; (focus ((with_reducible repeat (first | apply blk_putQ | refine blk_drewN ?_ _ | refine blk_drew ?_ | refine blk_alloc ?_ _)); exact BK166.out)); first | (simp only [List.setIfInBounds_toArray, List.set_cons_zero, List.set_cons_succ]; done) | rfl) hb); have n2_ := Aside0.mk (below_step (by repeat (first | (with_reducible first | exact HB.out | apply below_alloc | apply pw_below_drewN | apply below_drew1 | refine below_set ?_ GE163.out | refine below_set ?_ GE166.out) | exact HB.out)) hb); clear BK163; clear BK166; clear HB; have BK163 := n0_; have BK166 := n1_; have HB := n2_; clear n0_ n1_ n2_; (try clear hb); (try clear hb2); (try clear hk); (try clear hi)))
                go_roundg k1
                case measure => have := HK1.out; omega
                case rel => exact ⟨(wrap64 (x17_1 + 1)), (by first | rfl | (simp; done) | (simp [*]; done)), H', ⟨by have := HK1.out; omega⟩, ⟨by (with_reducible repeat (first | refine blk_drewN ?_ _ | refine blk_drew ?_ | refine blk_alloc ?_ _)); exact BK163.out⟩, ⟨by repeat (first | (with_reducible first | exact HB.out | apply below_alloc | apply pw_below_drewN | apply below_drew1 | refine below_set ?_ GE163.out | refine below_set ?_ GE166.out) | exact HB.out)⟩⟩
              · replace c12 := Bool.eq_false_iff.mpr c12
                subst c12
                have H1 : (some 0) = some r := by rw [if_neg (show ¬ (false = true) by decide)] at H; exact H
                clear H
                have H := H1
                clear H1
                obtain rfl := Option.some.inj H
                simp only [Option.some.injEq, Prod.mk.injEq] at H
                obtain ⟨rfl⟩ := H
                have p165 : 0 ≤ (x17_1 : Int) := of_decide_eq_true (by first | (with_reducible assumption) | assumption)
                have q165 : x17_1 < (l0.length : Int) := of_decide_eq_true (by first | (with_reducible assumption) | assumption)
                obtain ⟨ad165, e165, hx165_0, hx165_1⟩ := at_T29 HR0.out x17_1 p165 q165
                cases e165
                replace hx165_0 := (HB.out.cell (World.block_lt_of_cell? w _ hx165_0)).trans hx165_0
                replace hx165_1 := (HB.out.cell (World.block_lt_of_cell? w _ hx165_1)).trans hx165_1
                replace p165 := eq_true p165
                replace q165 := eq_true q165
                go_wp2_with (first | ((with_reducible refine gate_dst (N := 6) rfl ?_); refine box_event ?hg (N := 6) ?hd (cs := #[.int .i64 0, .int .i64 0]) (t := 29) ?hr ?_; (case hd => rfl); (case hg => rfl); (case hr => first | (go_simp; done) | (go_simp; rfl)); intro gb166 hg w17 hbox hb; have n0_ := Aside0.mk (blk_below (g := gb163) (o := .cells #[.int .i64 a1_0, .int .i64 a1_1] 29 (0, 0)) (by (with_reducible repeat (first | refine blk_drewN ?_ _ | refine blk_drew ?_ | refine blk_alloc ?_ _)); exact BK163.out) hb); have n1_ := Aside0.mk (below_step (by repeat (first | (with_reducible first | exact HB.out | apply below_alloc | apply pw_below_drewN | apply below_drew1 | refine below_set ?_ GE163.out) | exact HB.out)) hb); have n2_ := Aside0.mk (hbox); have n3_ := Aside0.mk ((by rw [hg]; exact (below_size (by repeat (first | (with_reducible first | exact HB.out | apply below_alloc | apply pw_below_drewN | apply below_drew1 | refine below_set ?_ GE163.out) | exact HB.out))) : w.heap.size ≤ gb166)); have n4_ := Aside0.mk ((by rw [hg]; exact (below_size (by repeat (first | (with_reducible first | exact HB.out | apply below_alloc | apply pw_below_drewN | apply below_drew1 | refine below_set ?_ GE163.out) | exact HB.out))) : w.heap.size ≤ gb166)); have n5_ := Aside0.mk ((by rw [hg]; exact Nat.ne_of_lt (blk_lt (g := gb163) (o := .cells #[.int .i64 a1_0, .int .i64 a1_1] 29 (0, 0)) (by (with_reducible repeat (first | refine blk_drewN ?_ _ | refine blk_drew ?_ | refine blk_alloc ?_ _)); exact BK163.out)) : gb163 ≠ gb166)); have n6_ := Aside0.mk ((by rw [hg]; exact Nat.ne_of_gt (blk_lt (g := gb163) (o := .cells #[.int .i64 a1_0, .int .i64 a1_1] 29 (0, 0)) (by (with_reducible repeat (first | refine blk_drewN ?_ _ | refine blk_drew ?_ | refine blk_alloc ?_ _)); exact BK163.out)) : gb166 ≠ gb163)); clear BK163; clear HB; have BK163 := n0_; have HB := n1_; have BK166 := n2_; have GW166 := n3_; have GE166 := n4_; have NB163_166 := n5_; have NB166_163 := n6_; clear n0_ n1_ n2_ n3_ n4_ n5_ n6_; clear hb hbox hg; have hnb18 := NB166_163.out; have hnc18 := NB163_166.out; have hcz19_0 : w17.cell? ⟨gb166, 0, none⟩ = some (.int .i64 0) := (blk_cell BK166.out 0).trans rfl; have hcz19_1 : w17.cell? ⟨gb166, 1, none⟩ = some (.int .i64 0) := (blk_cell BK166.out 1).trans rfl; have hfz19_0 := blk_frozen BK166.out 0; have hfz19_1 := blk_frozen BK166.out 1) | ((with_reducible refine gate_callee (f := 24) rfl ?_); refine goesL_ (some 22) rfl rfl Try.func24 (by kernel_rfl) rfl #[.agg #[.int .i64 ((rd_T29 l0 x17_1).f0), .int .i64 ((rd_T29 l0 x17_1).f1)]] rfl (by (try simp only [List.map_toArray, List.map_cons, List.map_nil]); first | done | rfl | (simp only [List.length_drop, List.length_take]; rfl)) ?_; (with_reducible refine (impl_isNear.calls ((rd_T29 l0 x17_1).f0) ((rd_T29 l0 x17_1).f1) false _ A11.out).mono ?_); rintro e w20 ⟨rfl, hb⟩; refine ⟨_, rfl, ?_⟩; have n0_ := Aside0.mk (blk_below (g := gb163) (o := .cells #[.int .i64 a1_0, .int .i64 a1_1] 29 (0, 0)) (by (with_reducible repeat (first | refine blk_drewN ?_ _ | refine blk_drew ?_ | refine blk_alloc ?_ _)); refine blk_far ?_ NB163_166.out _; (with_reducible repeat (first | refine blk_drewN ?_ _ | refine blk_drew ?_ | refine blk_alloc ?_ _)); refine blk_far ?_ NB163_166.out _; (with_reducible repeat (first | refine blk_drewN ?_ _ | refine blk_drew ?_ | refine blk_alloc ?_ _)); exact BK163.out) hb); have n1_ := Aside0.mk (blk_below (g := gb166) (o := .cells #[.int .i64 ((rd_T29 l0 x17_1).f0), .int .i64 ((rd_T29 l0 x17_1).f1)] 29 (0, 0)) (by apply blk_fin; (focus ((with_reducible repeat (first | apply blk_putQ | refine blk_drewN ?_ _ | refine blk_drew ?_ | refine blk_alloc ?_ _)); exact BK166.out)); first | (simp only [List.setIfInBounds_toArray, List.set_cons_zero, List.set_cons_succ]; done) | rfl) hb); have n2_ := Aside0.mk (below_step (by repeat (first | (with_reducible first | exact HB.out | apply below_alloc | apply pw_below_drewN | apply below_drew1 | refine below_set ?_ GE163.out | refine below_set ?_ GE166.out) | exact HB.out)) hb); clear BK163; clear BK166; clear HB; have BK163 := n0_; have BK166 := n1_; have HB := n2_; clear n0_ n1_ n2_; (try clear hb); (try clear hb2); (try clear hk); (try clear hi)))
                go_ret
                exact ⟨by first | rfl | (simp [errW_none, errW_some] <;> rfl) | (simp [*, errW_none, errW_some] <;> rfl), by repeat (first | (with_reducible first | exact HB.out | apply below_alloc | apply pw_below_drewN | apply below_drew1 | refine below_set ?_ GE163.out | refine below_set ?_ GE166.out) | exact HB.out)⟩
            · rw [if_neg c10] at H
              exact absurd H (by simp)
          · rw [if_neg c9] at H
            exact absurd H (by simp)
        · rw [if_neg c8] at H
          have c8b0 : decide (x17_1 < (l0.length : Int)) = false := decide_eq_false c8
          clear c8
          have H' := Aside0.mk H
          clear H
          go_wp2
          go_loopg [7, 27] k1 (fun kq v7 v27 w' => ∃ (x7_2 : Int) (x27_2 : Int), v7 = .int .i64 x7_2 ∧ v27 = .int .i64 x27_2 ∧ Aside0 (impl_WindOf.l1 kq l0 x7_2 l0 (l0.length : Int) x27_2 a1_0 a1_1 = some r) ∧ Aside0 (kq ≤ k1) ∧ Aside0 (w'.heap[gb163]? = some (.cells #[.int .i64 a1_0, .int .i64 a1_1] 29 (0, 0))) ∧ Aside0 (Below w.heap.size w w'))
          case atStart => exact ⟨(0), (0), (by first | rfl | (simp; done) | (simp [*]; done)), (by first | rfl | (simp; done) | (simp [*]; done)), H', ⟨Nat.le_refl _⟩, ⟨by (with_reducible repeat (first | refine blk_drewN ?_ _ | refine blk_drew ?_ | refine blk_alloc ?_ _)); exact BK163.out⟩, ⟨by repeat (first | (with_reducible first | exact HB.out | apply below_alloc | apply pw_below_drewN | apply below_drew1 | refine below_set ?_ GE163.out) | exact HB.out)⟩⟩
          case round =>
            clear H'
            try clear c1
            try clear p1
            try clear q1
            try clear hx1
            try clear c2
            try clear p2
            try clear c4
            try clear p6
            try clear c8
            try clear c8b0
            try clear c9
            try clear c9b0
            try clear c10
            try clear c10b0
            try clear c12
            try clear c14
            try clear p16
            try clear q16
            try clear hx16
            try clear c18
            try clear hcz15_0
            try clear hcz15_1
            try clear hcz19_0
            try clear hcz19_1
            try clear hcz6_0
            try clear hcz6_1
            try clear hfz15_0
            try clear hfz15_1
            try clear hfz19_0
            try clear hfz19_1
            try clear hfz6_0
            try clear hfz6_1
            try clear hx165_0
            try clear hx165_1
            try clear p165
            try clear p2
            try clear q165
            obtain ⟨x7_2, x27_2, rfl, rfl, HA, HK2, BK163, HB⟩ := hrel
            cases gk with
            | zero => exact absurd HA.out (by simp [impl_WindOf.l1])
            | succ k2 =>
              have H := HA.out
              clear HA
              simp only [impl_WindOf.l1] at H
              by_cases c21 : x27_2 < (l0.length : Int)
              · rw [if_pos c21] at H
                have c21b0 : decide (x27_2 < (l0.length : Int)) = true := decide_eq_true c21
                clear c21
                by_cases c22 : 0 ≤ x27_2
                · rw [if_pos c22] at H
                  have c22b0 : decide (0 ≤ x27_2) = true := decide_eq_true c22
                  clear c22
                  by_cases c23 : x27_2 < (l0.length : Int)
                  · rw [if_pos c23] at H
                    have c23b0 : decide (x27_2 < (l0.length : Int)) = true := decide_eq_true c23
                    clear c23
                    by_cases c24 : (l0.length : Int) = 0
                    · rw [if_pos c24] at H
                      exact absurd H (by simp)
                    · rw [if_neg c24] at H
                      have c24b0 : ((l0.length : Int) == 0) = false := beq_eq_false_iff_ne.mpr c24
                      have c24b1 : ((l0.length : Int) != 0) = true := bne_iff_ne.mpr c24
                      have c24b2 : ¬ (l0 = []) := fun h_ => c24 (by rw [h_]; rfl)
                      obtain ⟨ji25, hji25⟩ : ∃ j_ : Int, (Int.tmod (wrap64 (x27_2 + 1)) (l0.length : Int)) = j_ := ⟨_, rfl⟩
                      replace H : (if 0 ≤ (ji25) then (if (ji25) < (l0.length : Int) then (if ((rd_T29 l0 x27_2).f1) ≤ a1_1 then (if a1_1 < ((rd_T29 l0 (ji25)).f1) then (impl_WindOf.j2 k2 l0 x7_2 (wrap64 ((wrap64 ((wrap64 (((rd_T29 l0 (ji25)).f0) - ((rd_T29 l0 x27_2).f0))) * (wrap64 (a1_1 - ((rd_T29 l0 x27_2).f1))))) - (wrap64 ((wrap64 (a1_0 - ((rd_T29 l0 x27_2).f0))) * (wrap64 (((rd_T29 l0 (ji25)).f1) - ((rd_T29 l0 x27_2).f1))))))) l0 (l0.length : Int) x27_2 (decide ((wrap64 ((wrap64 ((wrap64 (((rd_T29 l0 (ji25)).f0) - ((rd_T29 l0 x27_2).f0))) * (wrap64 (a1_1 - ((rd_T29 l0 x27_2).f1))))) - (wrap64 ((wrap64 (a1_0 - ((rd_T29 l0 x27_2).f0))) * (wrap64 (((rd_T29 l0 (ji25)).f1) - ((rd_T29 l0 x27_2).f1))))))) > 0)) a1_0 a1_1 ((rd_T29 l0 x27_2).f0) ((rd_T29 l0 x27_2).f1) ((rd_T29 l0 (ji25)).f0) ((rd_T29 l0 (ji25)).f1)) else (impl_WindOf.j2 k2 l0 x7_2 (wrap64 ((wrap64 ((wrap64 (((rd_T29 l0 (ji25)).f0) - ((rd_T29 l0 x27_2).f0))) * (wrap64 (a1_1 - ((rd_T29 l0 x27_2).f1))))) - (wrap64 ((wrap64 (a1_0 - ((rd_T29 l0 x27_2).f0))) * (wrap64 (((rd_T29 l0 (ji25)).f1) - ((rd_T29 l0 x27_2).f1))))))) l0 (l0.length : Int) x27_2 false a1_0 a1_1 ((rd_T29 l0 x27_2).f0) ((rd_T29 l0 x27_2).f1) ((rd_T29 l0 (ji25)).f0) ((rd_T29 l0 (ji25)).f1))) else (impl_WindOf.j2 k2 l0 x7_2 (wrap64 ((wrap64 ((wrap64 (((rd_T29 l0 (ji25)).f0) - ((rd_T29 l0 x27_2).f0))) * (wrap64 (a1_1 - ((rd_T29 l0 x27_2).f1))))) - (wrap64 ((wrap64 (a1_0 - ((rd_T29 l0 x27_2).f0))) * (wrap64 (((rd_T29 l0 (ji25)).f1) - ((rd_T29 l0 x27_2).f1))))))) l0 (l0.length : Int) x27_2 false a1_0 a1_1 ((rd_T29 l0 x27_2).f0) ((rd_T29 l0 x27_2).f1) ((rd_T29 l0 (ji25)).f0) ((rd_T29 l0 (ji25)).f1))) else (none)) else (none)) = some r := by first | (rw [hji25] at H; exact H) | (simp only [hji25] at H ⊢; exact H)
                      by_cases c26 : 0 ≤ (ji25)
                      · rw [if_pos c26] at H
                        have c26b0 : decide (0 ≤ (ji25)) = true := decide_eq_true c26
                        clear c26
                        by_cases c27 : (ji25) < (l0.length : Int)
                        · rw [if_pos c27] at H
                          have c27b0 : decide ((ji25) < (l0.length : Int)) = true := decide_eq_true c27
                          clear c27
                          have HC28 := Aside0.mk H
                          clear H
                          have p168 : 0 ≤ (x27_2 : Int) := of_decide_eq_true (by first | (with_reducible assumption) | assumption)
                          have q168 : x27_2 < (l0.length : Int) := of_decide_eq_true (by first | (with_reducible assumption) | assumption)
                          obtain ⟨ad168, e168, hx168_0, hx168_1⟩ := at_T29 HR0.out x27_2 p168 q168
                          cases e168
                          replace hx168_0 := (HB.out.cell (World.block_lt_of_cell? w _ hx168_0)).trans hx168_0
                          replace hx168_1 := (HB.out.cell (World.block_lt_of_cell? w _ hx168_1)).trans hx168_1
                          replace p168 := eq_true p168
                          replace q168 := eq_true q168
                          go_upto_region 15 with (first | ((with_reducible refine gate_dst (N := 9) rfl ?_); refine box_event ?hg (N := 9) ?hd (cs := #[.int .i64 0, .int .i64 0]) (t := 29) ?hr ?_; (case hd => rfl); (case hg => rfl); (case hr => first | (go_simp; done) | (go_simp; rfl)); intro gb169 hg w29 hbox hb; have n0_ := Aside0.mk (blk_below (g := gb163) (o := .cells #[.int .i64 a1_0, .int .i64 a1_1] 29 (0, 0)) (by (with_reducible repeat (first | refine blk_drewN ?_ _ | refine blk_drew ?_ | refine blk_alloc ?_ _)); exact BK163.out) hb); have n1_ := Aside0.mk (below_step (by repeat (first | (with_reducible first | exact HB.out | apply below_alloc | apply pw_below_drewN | apply below_drew1 | refine below_set ?_ GE163.out) | exact HB.out)) hb); have n2_ := Aside0.mk (hbox); have n3_ := Aside0.mk ((by rw [hg]; exact (below_size (by repeat (first | (with_reducible first | exact HB.out | apply below_alloc | apply pw_below_drewN | apply below_drew1 | refine below_set ?_ GE163.out) | exact HB.out))) : w.heap.size ≤ gb169)); have n4_ := Aside0.mk ((by rw [hg]; exact (below_size (by repeat (first | (with_reducible first | exact HB.out | apply below_alloc | apply pw_below_drewN | apply below_drew1 | refine below_set ?_ GE163.out) | exact HB.out))) : w.heap.size ≤ gb169)); have n5_ := Aside0.mk ((by rw [hg]; exact Nat.ne_of_lt (blk_lt (g := gb163) (o := .cells #[.int .i64 a1_0, .int .i64 a1_1] 29 (0, 0)) (by (with_reducible repeat (first | refine blk_drewN ?_ _ | refine blk_drew ?_ | refine blk_alloc ?_ _)); exact BK163.out)) : gb163 ≠ gb169)); have n6_ := Aside0.mk ((by rw [hg]; exact Nat.ne_of_gt (blk_lt (g := gb163) (o := .cells #[.int .i64 a1_0, .int .i64 a1_1] 29 (0, 0)) (by (with_reducible repeat (first | refine blk_drewN ?_ _ | refine blk_drew ?_ | refine blk_alloc ?_ _)); exact BK163.out)) : gb169 ≠ gb163)); clear BK163; clear HB; have BK163 := n0_; have HB := n1_; have BK169 := n2_; have GW169 := n3_; have GE169 := n4_; have NB163_169 := n5_; have NB169_163 := n6_; clear n0_ n1_ n2_ n3_ n4_ n5_ n6_; clear hb hbox hg; have hnb30 := NB169_163.out; have hnc30 := NB163_169.out; have hcz31_0 : w29.cell? ⟨gb169, 0, none⟩ = some (.int .i64 0) := (blk_cell BK169.out 0).trans rfl; have hcz31_1 : w29.cell? ⟨gb169, 1, none⟩ = some (.int .i64 0) := (blk_cell BK169.out 1).trans rfl; have hfz31_0 := blk_frozen BK169.out 0; have hfz31_1 := blk_frozen BK169.out 1; have p170 : 0 ≤ ((ji25) : Int) := of_decide_eq_true (by first | (with_reducible assumption) | assumption); have q170 : (ji25) < (l0.length : Int) := of_decide_eq_true (by first | (with_reducible assumption) | assumption); obtain ⟨ad170, e170, hx170_0, hx170_1⟩ := at_T29 HR0.out (ji25) p170 q170; obtain rfl : ad168 = ad170 := (by injection e170); have hn170_0 : ad168.block ≠ gb169 := Nat.ne_of_lt (Nat.lt_of_lt_of_le (by have := World.block_lt_of_cell? _ _ hx170_0; first | rwa [add_block] at this | exact this) GW169.out); have hn170_1 : ad168.block ≠ gb169 := Nat.ne_of_lt (Nat.lt_of_lt_of_le (by have := World.block_lt_of_cell? _ _ hx170_0; first | rwa [add_block] at this | exact this) GW169.out); replace hx170_0 := (HB.out.cell (World.block_lt_of_cell? w _ hx170_0)).trans hx170_0; replace hx170_1 := (HB.out.cell (World.block_lt_of_cell? w _ hx170_1)).trans hx170_1; replace hx170_0 := (cell_far (p := ⟨gb169, 0, none⟩) (by first | (rw [add_block]; exact hn170_0) | (show (Addr.add _ _).block ≠ _; rw [add_block]; exact hn170_0) | exact hn170_0) (.int .i64 ((rd_T29 l0 x27_2).f0))).trans hx170_0; replace hx170_1 := (cell_far (p := ⟨gb169, 0, none⟩) (by first | (rw [add_block]; exact hn170_0) | (show (Addr.add _ _).block ≠ _; rw [add_block]; exact hn170_0) | exact hn170_0) (.int .i64 ((rd_T29 l0 x27_2).f0))).trans hx170_1; replace hx170_0 := (cell_far (p := ⟨gb169, 1, none⟩) (by first | (rw [add_block]; exact hn170_1) | (show (Addr.add _ _).block ≠ _; rw [add_block]; exact hn170_1) | exact hn170_1) (.int .i64 ((rd_T29 l0 x27_2).f1))).trans hx170_0; replace hx170_1 := (cell_far (p := ⟨gb169, 1, none⟩) (by first | (rw [add_block]; exact hn170_1) | (show (Addr.add _ _).block ≠ _; rw [add_block]; exact hn170_1) | exact hn170_1) (.int .i64 ((rd_T29 l0 x27_2).f1))).trans hx170_1; clear hn170_0; clear hn170_1; replace p170 := eq_true p170; replace q170 := eq_true q170) | ((with_reducible refine gate_dst (N := 10) rfl ?_); refine box_event ?hg (N := 10) ?hd (cs := #[.int .i64 0, .int .i64 0]) (t := 29) ?hr ?_; (case hd => rfl); (case hg => rfl); (case hr => first | (go_simp; done) | (go_simp; rfl)); intro gb171 hg w32 hbox hb; have n0_ := Aside0.mk (blk_below (g := gb163) (o := .cells #[.int .i64 a1_0, .int .i64 a1_1] 29 (0, 0)) (by (with_reducible repeat (first | refine blk_drewN ?_ _ | refine blk_drew ?_ | refine blk_alloc ?_ _)); refine blk_far ?_ NB163_169.out _; (with_reducible repeat (first | refine blk_drewN ?_ _ | refine blk_drew ?_ | refine blk_alloc ?_ _)); refine blk_far ?_ NB163_169.out _; (with_reducible repeat (first | refine blk_drewN ?_ _ | refine blk_drew ?_ | refine blk_alloc ?_ _)); exact BK163.out) hb); have n1_ := Aside0.mk (blk_below (g := gb169) (o := .cells #[.int .i64 ((rd_T29 l0 x27_2).f0), .int .i64 ((rd_T29 l0 x27_2).f1)] 29 (0, 0)) (by apply blk_fin; (focus ((with_reducible repeat (first | apply blk_putQ | refine blk_drewN ?_ _ | refine blk_drew ?_ | refine blk_alloc ?_ _)); exact BK169.out)); first | (simp only [List.setIfInBounds_toArray, List.set_cons_zero, List.set_cons_succ]; done) | rfl) hb); have n2_ := Aside0.mk (below_step (by repeat (first | (with_reducible first | exact HB.out | apply below_alloc | apply pw_below_drewN | apply below_drew1 | refine below_set ?_ GE163.out | refine below_set ?_ GE169.out) | exact HB.out)) hb); have n3_ := Aside0.mk (hbox); have n4_ := Aside0.mk ((by rw [hg]; exact (below_size (by repeat (first | (with_reducible first | exact HB.out | apply below_alloc | apply pw_below_drewN | apply below_drew1 | refine below_set ?_ GE163.out | refine below_set ?_ GE169.out) | exact HB.out))) : w.heap.size ≤ gb171)); have n5_ := Aside0.mk ((by rw [hg]; exact (below_size (by repeat (first | (with_reducible first | exact HB.out | apply below_alloc | apply pw_below_drewN | apply below_drew1 | refine below_set ?_ GE163.out | refine below_set ?_ GE169.out) | exact HB.out))) : w.heap.size ≤ gb171)); have n6_ := Aside0.mk ((by rw [hg]; exact Nat.ne_of_lt (blk_lt (g := gb163) (o := .cells #[.int .i64 a1_0, .int .i64 a1_1] 29 (0, 0)) (by (with_reducible repeat (first | refine blk_drewN ?_ _ | refine blk_drew ?_ | refine blk_alloc ?_ _)); refine blk_far ?_ NB163_169.out _; (with_reducible repeat (first | refine blk_drewN ?_ _ | refine blk_drew ?_ | refine blk_alloc ?_ _)); refine blk_far ?_ NB163_169.out _; (with_reducible repeat (first | refine blk_drewN ?_ _ | refine blk_drew ?_ | refine blk_alloc ?_ _)); exact BK163.out)) : gb163 ≠ gb171)); have n7_ := Aside0.mk ((by rw [hg]; exact Nat.ne_of_gt (blk_lt (g := gb163) (o := .cells #[.int .i64 a1_0, .int .i64 a1_1] 29 (0, 0)) (by (with_reducible repeat (first | refine blk_drewN ?_ _ | refine blk_drew ?_ | refine blk_alloc ?_ _)); refine blk_far ?_ NB163_169.out _; (with_reducible repeat (first | refine blk_drewN ?_ _ | refine blk_drew ?_ | refine blk_alloc ?_ _)); refine blk_far ?_ NB163_169.out _; (with_reducible repeat (first | refine blk_drewN ?_ _ | refine blk_drew ?_ | refine blk_alloc ?_ _)); exact BK163.out)) : gb171 ≠ gb163)); have n8_ := Aside0.mk ((by rw [hg]; exact Nat.ne_of_lt (blk_lt (g := gb169) (o := .cells #[.int .i64 ((rd_T29 l0 x27_2).f0), .int .i64 ((rd_T29 l0 x27_2).f1)] 29 (0, 0)) (by apply blk_fin; (focus ((with_reducible repeat (first | apply blk_putQ | refine blk_drewN ?_ _ | refine blk_drew ?_ | refine blk_alloc ?_ _)); exact BK169.out)); first | (simp only [List.setIfInBounds_toArray, List.set_cons_zero, List.set_cons_succ]; done) | rfl)) : gb169 ≠ gb171)); have n9_ := Aside0.mk ((by rw [hg]; exact Nat.ne_of_gt (blk_lt (g := gb169) (o := .cells #[.int .i64 ((rd_T29 l0 x27_2).f0), .int .i64 ((rd_T29 l0 x27_2).f1)] 29 (0, 0)) (by apply blk_fin; (focus ((with_reducible repeat (first | apply blk_putQ | refine blk_drewN ?_ _ | refine blk_drew ?_ | refine blk_alloc ?_ _)); exact BK169.out)); first | (simp only [List.setIfInBounds_toArray, List.set_cons_zero, List.set_cons_succ]; done) | rfl)) : gb171 ≠ gb169)); clear BK163; clear BK169; clear HB; have BK163 := n0_; have BK169 := n1_; have HB := n2_; have BK171 := n3_; have GW171 := n4_; have GE171 := n5_; have NB163_171 := n6_; have NB171_163 := n7_; have NB169_171 := n8_; have NB171_169 := n9_; clear n0_ n1_ n2_ n3_ n4_ n5_ n6_ n7_ n8_ n9_; clear hb hbox hg; have hnb33 := NB171_163.out; have hnc33 := NB163_171.out; have hnb34 := NB171_169.out; have hnc34 := NB169_171.out; have hcz35_0 : w32.cell? ⟨gb171, 0, none⟩ = some (.int .i64 0) := (blk_cell BK171.out 0).trans rfl; have hcz35_1 : w32.cell? ⟨gb171, 1, none⟩ = some (.int .i64 0) := (blk_cell BK171.out 1).trans rfl; have hfz35_0 := blk_frozen BK171.out 0; have hfz35_1 := blk_frozen BK171.out 1; have hcz36_0 : w32.cell? ⟨gb169, 0, none⟩ = some (.int .i64 ((rd_T29 l0 x27_2).f0)) := (blk_cell BK169.out 0).trans rfl; have hcz36_1 : w32.cell? ⟨gb169, 1, none⟩ = some (.int .i64 ((rd_T29 l0 x27_2).f1)) := (blk_cell BK169.out 1).trans rfl; have hfz36_0 := blk_frozen BK169.out 0; have hfz36_1 := blk_frozen BK169.out 1; have hcz37_0 : w32.cell? ⟨gb163, 0, none⟩ = some (.int .i64 a1_0) := (blk_cell BK163.out 0).trans rfl; have hcz37_1 : w32.cell? ⟨gb163, 1, none⟩ = some (.int .i64 a1_1) := (blk_cell BK163.out 1).trans rfl; have hfz37_0 := blk_frozen BK163.out 0; have hfz37_1 := blk_frozen BK163.out 1))
                          (try simp only [Act.put, List.setIfInBounds_toArray, List.set_cons_zero, List.set_cons_succ])
                          go_cut [63] (fun v63 wc => ∃ (kq : Nat) (x63_27 : Bool), v63 = .bool x63_27 ∧ Aside0 (impl_WindOf.j2 kq l0 x7_2 (wrap64 ((wrap64 ((wrap64 (((rd_T29 l0 (ji25)).f0) - ((rd_T29 l0 x27_2).f0))) * (wrap64 (a1_1 - ((rd_T29 l0 x27_2).f1))))) - (wrap64 ((wrap64 (a1_0 - ((rd_T29 l0 x27_2).f0))) * (wrap64 (((rd_T29 l0 (ji25)).f1) - ((rd_T29 l0 x27_2).f1))))))) l0 (l0.length : Int) x27_2 x63_27 a1_0 a1_1 ((rd_T29 l0 x27_2).f0) ((rd_T29 l0 x27_2).f1) ((rd_T29 l0 (ji25)).f0) ((rd_T29 l0 (ji25)).f1) = some r) ∧ Aside0 (kq ≤ k2) ∧ Aside0 (wc.heap[gb163]? = some (.cells #[.int .i64 a1_0, .int .i64 a1_1] 29 (0, 0))) ∧ Aside0 (wc.heap[gb169]? = some (.cells #[.int .i64 ((rd_T29 l0 x27_2).f0), .int .i64 ((rd_T29 l0 x27_2).f1)] 29 (0, 0))) ∧ Aside0 (wc.heap[gb171]? = some (.cells #[.int .i64 ((rd_T29 l0 (ji25)).f0), .int .i64 ((rd_T29 l0 (ji25)).f1)] 29 (0, 0))) ∧ Aside0 (Below w.heap.size w wc))
                          case first =>
                            have H := HC28.out
                            clear HC28
                            by_cases c38 : ((rd_T29 l0 x27_2).f1) ≤ a1_1
                            · rw [if_pos c38] at H
                              have c38b0 : decide (((rd_T29 l0 x27_2).f1) ≤ a1_1) = true := decide_eq_true c38
                              clear c38
                              (first | rw [c38b0] | (simp only [i64_w, i32_w]; rw [c38b0]) | skip)
                              by_cases c39 : a1_1 < ((rd_T29 l0 (ji25)).f1)
                              · rw [if_pos c39] at H
                                have c39b0 : decide (a1_1 < ((rd_T29 l0 (ji25)).f1)) = true := decide_eq_true c39
                                clear c39
                                have H' := Aside0.mk H
                                clear H
                                have hnb40 := NB169_163.out
                                have hnc40 := NB163_169.out
                                have hnb41 := NB169_171.out
                                have hnc41 := NB171_169.out
                                have hcz42_0 : w32.cell? ⟨gb169, 0, none⟩ = some (.int .i64 ((rd_T29 l0 x27_2).f0)) := (blk_cell BK169.out 0).trans rfl
                                have hcz42_1 : w32.cell? ⟨gb169, 1, none⟩ = some (.int .i64 ((rd_T29 l0 x27_2).f1)) := (blk_cell BK169.out 1).trans rfl
                                have hfz42_0 := blk_frozen BK169.out 0
                                have hfz42_1 := blk_frozen BK169.out 1
                                have hnb43 := NB163_171.out
                                have hnc43 := NB171_163.out
                                have hcz44_0 : w32.cell? ⟨gb163, 0, none⟩ = some (.int .i64 a1_0) := (blk_cell BK163.out 0).trans rfl
                                have hcz44_1 : w32.cell? ⟨gb163, 1, none⟩ = some (.int .i64 a1_1) := (blk_cell BK163.out 1).trans rfl
                                have hfz44_0 := blk_frozen BK163.out 0
                                have hfz44_1 := blk_frozen BK163.out 1
                                have hcz45_0 : w32.cell? ⟨gb171, 0, none⟩ = some (.int .i64 0) := (blk_cell BK171.out 0).trans rfl
                                have hcz45_1 : w32.cell? ⟨gb171, 1, none⟩ = some (.int .i64 0) := (blk_cell BK171.out 1).trans rfl
                                have hfz45_0 := blk_frozen BK171.out 0
                                have hfz45_1 := blk_frozen BK171.out 1
                                go_wp2
                                go_meet
                                case rel => exact ⟨_, (decide ((wrap64 ((wrap64 ((wrap64 (((rd_T29 l0 (ji25)).f0) - ((rd_T29 l0 x27_2).f0))) * (wrap64 (a1_1 - ((rd_T29 l0 x27_2).f1))))) - (wrap64 ((wrap64 (a1_0 - ((rd_T29 l0 x27_2).f0))) * (wrap64 (((rd_T29 l0 (ji25)).f1) - ((rd_T29 l0 x27_2).f1))))))) > 0)), (by first | rfl | (simp; done) | (simp only [← hji25] <;> (first | rfl | simp)) | (simp [*]; done)), H', ⟨by have := HK1.out; have := HK2.out; first | omega | exact Nat.le_refl _⟩, ⟨by (with_reducible repeat (first | refine blk_drewN ?_ _ | refine blk_drew ?_ | refine blk_alloc ?_ _)); refine blk_far ?_ NB163_171.out _; (with_reducible repeat (first | refine blk_drewN ?_ _ | refine blk_drew ?_ | refine blk_alloc ?_ _)); refine blk_far ?_ NB163_171.out _; (with_reducible repeat (first | refine blk_drewN ?_ _ | refine blk_drew ?_ | refine blk_alloc ?_ _)); exact BK163.out⟩, ⟨by (with_reducible repeat (first | refine blk_drewN ?_ _ | refine blk_drew ?_ | refine blk_alloc ?_ _)); refine blk_far ?_ NB169_171.out _; (with_reducible repeat (first | refine blk_drewN ?_ _ | refine blk_drew ?_ | refine blk_alloc ?_ _)); refine blk_far ?_ NB169_171.out _; (with_reducible repeat (first | refine blk_drewN ?_ _ | refine blk_drew ?_ | refine blk_alloc ?_ _)); exact BK169.out⟩, ⟨by (with_reducible repeat (first | refine blk_drewN ?_ _ | refine blk_drew ?_ | refine blk_alloc ?_ _)); refine blk_put (cs := #[.int .i64 ((rd_T29 l0 (ji25)).f0), .int .i64 0]) ?_ 1 _ rfl; (with_reducible repeat (first | refine blk_drewN ?_ _ | refine blk_drew ?_ | refine blk_alloc ?_ _)); refine blk_put (cs := #[.int .i64 0, .int .i64 0]) ?_ 0 _ rfl; (with_reducible repeat (first | refine blk_drewN ?_ _ | refine blk_drew ?_ | refine blk_alloc ?_ _)); exact BK171.out⟩, ⟨by repeat (first | (with_reducible first | exact HB.out | apply below_alloc | apply pw_below_drewN | apply below_drew1 | refine below_set ?_ GE163.out | refine below_set ?_ GE169.out | refine below_set ?_ GE171.out) | exact HB.out)⟩⟩
                              · rw [if_neg c39] at H
                                have c39b0 : decide (a1_1 < ((rd_T29 l0 (ji25)).f1)) = false := decide_eq_false c39
                                clear c39
                                have H' := Aside0.mk H
                                clear H
                                have hnb46 := NB169_163.out
                                have hnc46 := NB163_169.out
                                have hnb47 := NB169_171.out
                                have hnc47 := NB171_169.out
                                have hcz48_0 : w32.cell? ⟨gb169, 0, none⟩ = some (.int .i64 ((rd_T29 l0 x27_2).f0)) := (blk_cell BK169.out 0).trans rfl
                                have hcz48_1 : w32.cell? ⟨gb169, 1, none⟩ = some (.int .i64 ((rd_T29 l0 x27_2).f1)) := (blk_cell BK169.out 1).trans rfl
                                have hfz48_0 := blk_frozen BK169.out 0
                                have hfz48_1 := blk_frozen BK169.out 1
                                have hnb49 := NB163_171.out
                                have hnc49 := NB171_163.out
                                have hcz50_0 : w32.cell? ⟨gb163, 0, none⟩ = some (.int .i64 a1_0) := (blk_cell BK163.out 0).trans rfl
                                have hcz50_1 : w32.cell? ⟨gb163, 1, none⟩ = some (.int .i64 a1_1) := (blk_cell BK163.out 1).trans rfl
                                have hfz50_0 := blk_frozen BK163.out 0
                                have hfz50_1 := blk_frozen BK163.out 1
                                have hcz51_0 : w32.cell? ⟨gb171, 0, none⟩ = some (.int .i64 0) := (blk_cell BK171.out 0).trans rfl
                                have hcz51_1 : w32.cell? ⟨gb171, 1, none⟩ = some (.int .i64 0) := (blk_cell BK171.out 1).trans rfl
                                have hfz51_0 := blk_frozen BK171.out 0
                                have hfz51_1 := blk_frozen BK171.out 1
                                go_wp2
                                go_meet
                                case rel => exact ⟨_, (false), (by first | rfl | (simp; done) | (simp [*]; done)), H', ⟨by have := HK1.out; have := HK2.out; first | omega | exact Nat.le_refl _⟩, ⟨by (with_reducible repeat (first | refine blk_drewN ?_ _ | refine blk_drew ?_ | refine blk_alloc ?_ _)); refine blk_far ?_ NB163_171.out _; (with_reducible repeat (first | refine blk_drewN ?_ _ | refine blk_drew ?_ | refine blk_alloc ?_ _)); refine blk_far ?_ NB163_171.out _; (with_reducible repeat (first | refine blk_drewN ?_ _ | refine blk_drew ?_ | refine blk_alloc ?_ _)); exact BK163.out⟩, ⟨by (with_reducible repeat (first | refine blk_drewN ?_ _ | refine blk_drew ?_ | refine blk_alloc ?_ _)); refine blk_far ?_ NB169_171.out _; (with_reducible repeat (first | refine blk_drewN ?_ _ | refine blk_drew ?_ | refine blk_alloc ?_ _)); refine blk_far ?_ NB169_171.out _; (with_reducible repeat (first | refine blk_drewN ?_ _ | refine blk_drew ?_ | refine blk_alloc ?_ _)); exact BK169.out⟩, ⟨by (with_reducible repeat (first | refine blk_drewN ?_ _ | refine blk_drew ?_ | refine blk_alloc ?_ _)); refine blk_put (cs := #[.int .i64 ((rd_T29 l0 (ji25)).f0), .int .i64 0]) ?_ 1 _ rfl; (with_reducible repeat (first | refine blk_drewN ?_ _ | refine blk_drew ?_ | refine blk_alloc ?_ _)); refine blk_put (cs := #[.int .i64 0, .int .i64 0]) ?_ 0 _ rfl; (with_reducible repeat (first | refine blk_drewN ?_ _ | refine blk_drew ?_ | refine blk_alloc ?_ _)); exact BK171.out⟩, ⟨by repeat (first | (with_reducible first | exact HB.out | apply below_alloc | apply pw_below_drewN | apply below_drew1 | refine below_set ?_ GE163.out | refine below_set ?_ GE169.out | refine below_set ?_ GE171.out) | exact HB.out)⟩⟩
                            · rw [if_neg c38] at H
                              have c38b0 : decide (((rd_T29 l0 x27_2).f1) ≤ a1_1) = false := decide_eq_false c38
                              clear c38
                              (first | rw [c38b0] | (simp only [i64_w, i32_w]; rw [c38b0]) | skip)
                              have H' := Aside0.mk H
                              clear H
                              have hnb52 := NB169_163.out
                              have hnc52 := NB163_169.out
                              have hnb53 := NB169_171.out
                              have hnc53 := NB171_169.out
                              have hcz54_0 : w32.cell? ⟨gb169, 0, none⟩ = some (.int .i64 ((rd_T29 l0 x27_2).f0)) := (blk_cell BK169.out 0).trans rfl
                              have hcz54_1 : w32.cell? ⟨gb169, 1, none⟩ = some (.int .i64 ((rd_T29 l0 x27_2).f1)) := (blk_cell BK169.out 1).trans rfl
                              have hfz54_0 := blk_frozen BK169.out 0
                              have hfz54_1 := blk_frozen BK169.out 1
                              have hnb55 := NB163_171.out
                              have hnc55 := NB171_163.out
                              have hcz56_0 : w32.cell? ⟨gb163, 0, none⟩ = some (.int .i64 a1_0) := (blk_cell BK163.out 0).trans rfl
                              have hcz56_1 : w32.cell? ⟨gb163, 1, none⟩ = some (.int .i64 a1_1) := (blk_cell BK163.out 1).trans rfl
                              have hfz56_0 := blk_frozen BK163.out 0
                              have hfz56_1 := blk_frozen BK163.out 1
                              go_wp2
                              go_meet
                              case rel => exact ⟨_, (false), (by first | rfl | (simp; done) | (simp [*]; done)), H', ⟨by have := HK1.out; have := HK2.out; first | omega | exact Nat.le_refl _⟩, ⟨by (with_reducible repeat (first | refine blk_drewN ?_ _ | refine blk_drew ?_ | refine blk_alloc ?_ _)); refine blk_far ?_ NB163_171.out _; (with_reducible repeat (first | refine blk_drewN ?_ _ | refine blk_drew ?_ | refine blk_alloc ?_ _)); refine blk_far ?_ NB163_171.out _; (with_reducible repeat (first | refine blk_drewN ?_ _ | refine blk_drew ?_ | refine blk_alloc ?_ _)); exact BK163.out⟩, ⟨by (with_reducible repeat (first | refine blk_drewN ?_ _ | refine blk_drew ?_ | refine blk_alloc ?_ _)); refine blk_far ?_ NB169_171.out _; (with_reducible repeat (first | refine blk_drewN ?_ _ | refine blk_drew ?_ | refine blk_alloc ?_ _)); refine blk_far ?_ NB169_171.out _; (with_reducible repeat (first | refine blk_drewN ?_ _ | refine blk_drew ?_ | refine blk_alloc ?_ _)); exact BK169.out⟩, ⟨by (with_reducible repeat (first | refine blk_drewN ?_ _ | refine blk_drew ?_ | refine blk_alloc ?_ _)); refine blk_put (cs := #[.int .i64 ((rd_T29 l0 (ji25)).f0), .int .i64 0]) ?_ 1 _ rfl; (with_reducible repeat (first | refine blk_drewN ?_ _ | refine blk_drew ?_ | refine blk_alloc ?_ _)); refine blk_put (cs := #[.int .i64 0, .int .i64 0]) ?_ 0 _ rfl; (with_reducible repeat (first | refine blk_drewN ?_ _ | refine blk_drew ?_ | refine blk_alloc ?_ _)); exact BK171.out⟩, ⟨by repeat (first | (with_reducible first | exact HB.out | apply below_alloc | apply pw_below_drewN | apply below_drew1 | refine below_set ?_ GE163.out | refine below_set ?_ GE169.out | refine below_set ?_ GE171.out) | exact HB.out)⟩⟩
                          case rest =>
                            clear HC28
                            try clear c1
                            try clear p1
                            try clear q1
                            try clear hx1
                            try clear c2
                            try clear p2
                            try clear c3
                            try clear c4
                            try clear c5
                            try clear p6
                            try clear c8
                            try clear c8b0
                            try clear c9
                            try clear c9b0
                            try clear c10
                            try clear c10b0
                            try clear c12
                            try clear c14
                            try clear p16
                            try clear q16
                            try clear hx16
                            try clear p17
                            try clear q17
                            try clear hx17
                            try clear c18
                            try clear c21
                            try clear c21b0
                            try clear c22
                            try clear c22b0
                            try clear c23
                            try clear c23b0
                            try clear c24
                            try clear c24b0
                            try clear c24b1
                            try clear c24b2
                            try clear c26
                            try clear c26b0
                            try clear c27
                            try clear c27b0
                            try clear c30
                            try clear c33
                            try clear c34
                            try clear c38
                            try clear c38b0
                            try clear c39
                            try clear c39b0
                            try clear c40
                            try clear c41
                            try clear c43
                            try clear c46
                            try clear c47
                            try clear c49
                            try clear c52
                            try clear c53
                            try clear c55
                            try clear hcz15_0
                            try clear hcz15_1
                            try clear hcz19_0
                            try clear hcz19_1
                            try clear hcz31_0
                            try clear hcz31_1
                            try clear hcz35_0
                            try clear hcz35_1
                            try clear hcz36_0
                            try clear hcz36_1
                            try clear hcz37_0
                            try clear hcz37_1
                            try clear hcz42_0
                            try clear hcz42_1
                            try clear hcz44_0
                            try clear hcz44_1
                            try clear hcz45_0
                            try clear hcz45_1
                            try clear hcz48_0
                            try clear hcz48_1
                            try clear hcz50_0
                            try clear hcz50_1
                            try clear hcz51_0
                            try clear hcz51_1
                            try clear hcz54_0
                            try clear hcz54_1
                            try clear hcz56_0
                            try clear hcz56_1
                            try clear hcz6_0
                            try clear hcz6_1
                            try clear hfz15_0
                            try clear hfz15_1
                            try clear hfz19_0
                            try clear hfz19_1
                            try clear hfz31_0
                            try clear hfz31_1
                            try clear hfz35_0
                            try clear hfz35_1
                            try clear hfz36_0
                            try clear hfz36_1
                            try clear hfz37_0
                            try clear hfz37_1
                            try clear hfz42_0
                            try clear hfz42_1
                            try clear hfz44_0
                            try clear hfz44_1
                            try clear hfz45_0
                            try clear hfz45_1
                            try clear hfz48_0
                            try clear hfz48_1
                            try clear hfz50_0
                            try clear hfz50_1
                            try clear hfz51_0
                            try clear hfz51_1
                            try clear hfz54_0
                            try clear hfz54_1
                            try clear hfz56_0
                            try clear hfz56_1
                            try clear hfz6_0
                            try clear hfz6_1
                            try clear hx165_0
                            try clear hx165_1
                            try clear hx168_0
                            try clear hx168_1
                            try clear hx170_0
                            try clear hx170_1
                            try clear p1
                            try clear p16
                            try clear p165
                            try clear p168
                            try clear p170
                            try clear p2
                            try clear p6
                            try clear q1
                            try clear q16
                            try clear q165
                            try clear q168
                            try clear q170
                            obtain ⟨kq, x63_27, rfl, HA, HJ27, BK163, BK169, BK171, HB⟩ := hcut
                            cases kq with
                            | zero => exact absurd HA.out (by simp [impl_WindOf.j2])
                            | succ kj27 =>
                              have H := HA.out
                              clear HA
                              simp only [impl_WindOf.j2] at H
                              by_cases c57 : x63_27 = true
                              · subst c57
                                have H1 : (impl_WindOf.l1 kj27 l0 (wrap64 (x7_2 + 1)) l0 (l0.length : Int) (wrap64 (x27_2 + 1)) a1_0 a1_1) = some r := by rw [if_pos rfl] at H; exact H
                                clear H
                                have H := H1
                                clear H1
                                have H' := Aside0.mk H
                                clear H
                                go_wp2
                                go_roundg kj27
                                case measure => have := HK1.out; have := HK2.out; have := HJ27.out; omega
                                case rel => exact ⟨(wrap64 (x7_2 + 1)), (wrap64 (x27_2 + 1)), (by first | rfl | (simp; done) | (simp [*]; done)), (by first | rfl | (simp; done) | (simp [*]; done)), H', ⟨by have := HK1.out; have := HK2.out; have := HJ27.out; omega⟩, ⟨by (with_reducible repeat (first | refine blk_drewN ?_ _ | refine blk_drew ?_ | refine blk_alloc ?_ _)); exact BK163.out⟩, ⟨by repeat (first | (with_reducible first | exact HB.out | apply below_alloc | apply pw_below_drewN | apply below_drew1 | refine below_set ?_ GE163.out | refine below_set ?_ GE169.out | refine below_set ?_ GE171.out) | exact HB.out)⟩⟩
                              · replace c57 := Bool.eq_false_iff.mpr c57
                                subst c57
                                have H1 : (if ((rd_T29 l0 (ji25)).f1) ≤ a1_1 then (if a1_1 < ((rd_T29 l0 x27_2).f1) then (if (wrap64 ((wrap64 ((wrap64 (((rd_T29 l0 (ji25)).f0) - ((rd_T29 l0 x27_2).f0))) * (wrap64 (a1_1 - ((rd_T29 l0 x27_2).f1))))) - (wrap64 ((wrap64 (a1_0 - ((rd_T29 l0 x27_2).f0))) * (wrap64 (((rd_T29 l0 (ji25)).f1) - ((rd_T29 l0 x27_2).f1))))))) < 0 then (impl_WindOf.l1 kj27 l0 (wrap64 (x7_2 - 1)) l0 (l0.length : Int) (wrap64 (x27_2 + 1)) a1_0 a1_1) else (impl_WindOf.l1 kj27 l0 x7_2 l0 (l0.length : Int) (wrap64 (x27_2 + 1)) a1_0 a1_1)) else (impl_WindOf.l1 kj27 l0 x7_2 l0 (l0.length : Int) (wrap64 (x27_2 + 1)) a1_0 a1_1)) else (impl_WindOf.l1 kj27 l0 x7_2 l0 (l0.length : Int) (wrap64 (x27_2 + 1)) a1_0 a1_1)) = some r := by rw [if_neg (show ¬ (false = true) by decide)] at H; exact H
                                clear H
                                have H := H1
                                clear H1
                                by_cases c58 : ((rd_T29 l0 (ji25)).f1) ≤ a1_1
                                · rw [if_pos c58] at H
                                  have c58b0 : decide (((rd_T29 l0 (ji25)).f1) ≤ a1_1) = true := decide_eq_true c58
                                  clear c58
                                  by_cases c59 : a1_1 < ((rd_T29 l0 x27_2).f1)
                                  · rw [if_pos c59] at H
                                    have c59b0 : decide (a1_1 < ((rd_T29 l0 x27_2).f1)) = true := decide_eq_true c59
                                    clear c59
                                    by_cases c60 : (wrap64 ((wrap64 ((wrap64 (((rd_T29 l0 (ji25)).f0) - ((rd_T29 l0 x27_2).f0))) * (wrap64 (a1_1 - ((rd_T29 l0 x27_2).f1))))) - (wrap64 ((wrap64 (a1_0 - ((rd_T29 l0 x27_2).f0))) * (wrap64 (((rd_T29 l0 (ji25)).f1) - ((rd_T29 l0 x27_2).f1))))))) < 0
                                    · rw [if_pos c60] at H
                                      have c60b0 : decide ((wrap64 ((wrap64 ((wrap64 (((rd_T29 l0 (ji25)).f0) - ((rd_T29 l0 x27_2).f0))) * (wrap64 (a1_1 - ((rd_T29 l0 x27_2).f1))))) - (wrap64 ((wrap64 (a1_0 - ((rd_T29 l0 x27_2).f0))) * (wrap64 (((rd_T29 l0 (ji25)).f1) - ((rd_T29 l0 x27_2).f1))))))) < 0) = true := decide_eq_true c60
                                      clear c60
                                      have H' := Aside0.mk H
                                      clear H
                                      have hnb61 := NB171_163.out
                                      have hnc61 := NB163_171.out
                                      have hnb62 := NB171_169.out
                                      have hnc62 := NB169_171.out
                                      have hcz63_0 : wc.cell? ⟨gb171, 0, none⟩ = some (.int .i64 ((rd_T29 l0 (ji25)).f0)) := (blk_cell BK171.out 0).trans rfl
                                      have hcz63_1 : wc.cell? ⟨gb171, 1, none⟩ = some (.int .i64 ((rd_T29 l0 (ji25)).f1)) := (blk_cell BK171.out 1).trans rfl
                                      have hfz63_0 := blk_frozen BK171.out 0
                                      have hfz63_1 := blk_frozen BK171.out 1
                                      have hnb64 := NB163_169.out
                                      have hnc64 := NB169_163.out
                                      have hcz65_0 : wc.cell? ⟨gb163, 0, none⟩ = some (.int .i64 a1_0) := (blk_cell BK163.out 0).trans rfl
                                      have hcz65_1 : wc.cell? ⟨gb163, 1, none⟩ = some (.int .i64 a1_1) := (blk_cell BK163.out 1).trans rfl
                                      have hfz65_0 := blk_frozen BK163.out 0
                                      have hfz65_1 := blk_frozen BK163.out 1
                                      have hcz66_0 : wc.cell? ⟨gb169, 0, none⟩ = some (.int .i64 ((rd_T29 l0 x27_2).f0)) := (blk_cell BK169.out 0).trans rfl
                                      have hcz66_1 : wc.cell? ⟨gb169, 1, none⟩ = some (.int .i64 ((rd_T29 l0 x27_2).f1)) := (blk_cell BK169.out 1).trans rfl
                                      have hfz66_0 := blk_frozen BK169.out 0
                                      have hfz66_1 := blk_frozen BK169.out 1
                                      go_wp2
                                      go_roundg kj27
                                      case measure => have := HK1.out; have := HK2.out; have := HJ27.out; omega
                                      case rel => exact ⟨(wrap64 (x7_2 - 1)), (wrap64 (x27_2 + 1)), (by first | rfl | (simp; done) | (simp [*]; done)), (by first | rfl | (simp; done) | (simp [*]; done)), H', ⟨by have := HK1.out; have := HK2.out; have := HJ27.out; omega⟩, ⟨by (with_reducible repeat (first | refine blk_drewN ?_ _ | refine blk_drew ?_ | refine blk_alloc ?_ _)); exact BK163.out⟩, ⟨by repeat (first | (with_reducible first | exact HB.out | apply below_alloc | apply pw_below_drewN | apply below_drew1 | refine below_set ?_ GE163.out | refine below_set ?_ GE169.out | refine below_set ?_ GE171.out) | exact HB.out)⟩⟩
                                    · rw [if_neg c60] at H
                                      have c60b0 : decide ((wrap64 ((wrap64 ((wrap64 (((rd_T29 l0 (ji25)).f0) - ((rd_T29 l0 x27_2).f0))) * (wrap64 (a1_1 - ((rd_T29 l0 x27_2).f1))))) - (wrap64 ((wrap64 (a1_0 - ((rd_T29 l0 x27_2).f0))) * (wrap64 (((rd_T29 l0 (ji25)).f1) - ((rd_T29 l0 x27_2).f1))))))) < 0) = false := decide_eq_false c60
                                      clear c60
                                      have H' := Aside0.mk H
                                      clear H
                                      have hnb67 := NB171_163.out
                                      have hnc67 := NB163_171.out
                                      have hnb68 := NB171_169.out
                                      have hnc68 := NB169_171.out
                                      have hcz69_0 : wc.cell? ⟨gb171, 0, none⟩ = some (.int .i64 ((rd_T29 l0 (ji25)).f0)) := (blk_cell BK171.out 0).trans rfl
                                      have hcz69_1 : wc.cell? ⟨gb171, 1, none⟩ = some (.int .i64 ((rd_T29 l0 (ji25)).f1)) := (blk_cell BK171.out 1).trans rfl
                                      have hfz69_0 := blk_frozen BK171.out 0
                                      have hfz69_1 := blk_frozen BK171.out 1
                                      have hnb70 := NB163_169.out
                                      have hnc70 := NB169_163.out
                                      have hcz71_0 : wc.cell? ⟨gb163, 0, none⟩ = some (.int .i64 a1_0) := (blk_cell BK163.out 0).trans rfl
                                      have hcz71_1 : wc.cell? ⟨gb163, 1, none⟩ = some (.int .i64 a1_1) := (blk_cell BK163.out 1).trans rfl
                                      have hfz71_0 := blk_frozen BK163.out 0
                                      have hfz71_1 := blk_frozen BK163.out 1
                                      have hcz72_0 : wc.cell? ⟨gb169, 0, none⟩ = some (.int .i64 ((rd_T29 l0 x27_2).f0)) := (blk_cell BK169.out 0).trans rfl
                                      have hcz72_1 : wc.cell? ⟨gb169, 1, none⟩ = some (.int .i64 ((rd_T29 l0 x27_2).f1)) := (blk_cell BK169.out 1).trans rfl
                                      have hfz72_0 := blk_frozen BK169.out 0
                                      have hfz72_1 := blk_frozen BK169.out 1
                                      go_wp2
                                      go_roundg kj27
                                      case measure => have := HK1.out; have := HK2.out; have := HJ27.out; omega
                                      case rel => exact ⟨(x7_2), (wrap64 (x27_2 + 1)), (by first | rfl | (simp; done) | (simp [*]; done)), (by first | rfl | (simp; done) | (simp [*]; done)), H', ⟨by have := HK1.out; have := HK2.out; have := HJ27.out; omega⟩, ⟨by (with_reducible repeat (first | refine blk_drewN ?_ _ | refine blk_drew ?_ | refine blk_alloc ?_ _)); exact BK163.out⟩, ⟨by repeat (first | (with_reducible first | exact HB.out | apply below_alloc | apply pw_below_drewN | apply below_drew1 | refine below_set ?_ GE163.out | refine below_set ?_ GE169.out | refine below_set ?_ GE171.out) | exact HB.out)⟩⟩
                                  · rw [if_neg c59] at H
                                    have c59b0 : decide (a1_1 < ((rd_T29 l0 x27_2).f1)) = false := decide_eq_false c59
                                    clear c59
                                    have H' := Aside0.mk H
                                    clear H
                                    have hnb73 := NB171_163.out
                                    have hnc73 := NB163_171.out
                                    have hnb74 := NB171_169.out
                                    have hnc74 := NB169_171.out
                                    have hcz75_0 : wc.cell? ⟨gb171, 0, none⟩ = some (.int .i64 ((rd_T29 l0 (ji25)).f0)) := (blk_cell BK171.out 0).trans rfl
                                    have hcz75_1 : wc.cell? ⟨gb171, 1, none⟩ = some (.int .i64 ((rd_T29 l0 (ji25)).f1)) := (blk_cell BK171.out 1).trans rfl
                                    have hfz75_0 := blk_frozen BK171.out 0
                                    have hfz75_1 := blk_frozen BK171.out 1
                                    have hnb76 := NB163_169.out
                                    have hnc76 := NB169_163.out
                                    have hcz77_0 : wc.cell? ⟨gb163, 0, none⟩ = some (.int .i64 a1_0) := (blk_cell BK163.out 0).trans rfl
                                    have hcz77_1 : wc.cell? ⟨gb163, 1, none⟩ = some (.int .i64 a1_1) := (blk_cell BK163.out 1).trans rfl
                                    have hfz77_0 := blk_frozen BK163.out 0
                                    have hfz77_1 := blk_frozen BK163.out 1
                                    have hcz78_0 : wc.cell? ⟨gb169, 0, none⟩ = some (.int .i64 ((rd_T29 l0 x27_2).f0)) := (blk_cell BK169.out 0).trans rfl
                                    have hcz78_1 : wc.cell? ⟨gb169, 1, none⟩ = some (.int .i64 ((rd_T29 l0 x27_2).f1)) := (blk_cell BK169.out 1).trans rfl
                                    have hfz78_0 := blk_frozen BK169.out 0
                                    have hfz78_1 := blk_frozen BK169.out 1
                                    go_wp2
                                    go_roundg kj27
                                    case measure => have := HK1.out; have := HK2.out; have := HJ27.out; omega
                                    case rel => exact ⟨(x7_2), (wrap64 (x27_2 + 1)), (by first | rfl | (simp; done) | (simp [*]; done)), (by first | rfl | (simp; done) | (simp [*]; done)), H', ⟨by have := HK1.out; have := HK2.out; have := HJ27.out; omega⟩, ⟨by (with_reducible repeat (first | refine blk_drewN ?_ _ | refine blk_drew ?_ | refine blk_alloc ?_ _)); exact BK163.out⟩, ⟨by repeat (first | (with_reducible first | exact HB.out | apply below_alloc | apply pw_below_drewN | apply below_drew1 | refine below_set ?_ GE163.out | refine below_set ?_ GE169.out | refine below_set ?_ GE171.out) | exact HB.out)⟩⟩
                                · rw [if_neg c58] at H
                                  have c58b0 : decide (((rd_T29 l0 (ji25)).f1) ≤ a1_1) = false := decide_eq_false c58
                                  clear c58
                                  have H' := Aside0.mk H
                                  clear H
                                  have hnb79 := NB171_163.out
                                  have hnc79 := NB163_171.out
                                  have hnb80 := NB171_169.out
                                  have hnc80 := NB169_171.out
                                  have hcz81_0 : wc.cell? ⟨gb171, 0, none⟩ = some (.int .i64 ((rd_T29 l0 (ji25)).f0)) := (blk_cell BK171.out 0).trans rfl
                                  have hcz81_1 : wc.cell? ⟨gb171, 1, none⟩ = some (.int .i64 ((rd_T29 l0 (ji25)).f1)) := (blk_cell BK171.out 1).trans rfl
                                  have hfz81_0 := blk_frozen BK171.out 0
                                  have hfz81_1 := blk_frozen BK171.out 1
                                  have hnb82 := NB163_169.out
                                  have hnc82 := NB169_163.out
                                  have hcz83_0 : wc.cell? ⟨gb163, 0, none⟩ = some (.int .i64 a1_0) := (blk_cell BK163.out 0).trans rfl
                                  have hcz83_1 : wc.cell? ⟨gb163, 1, none⟩ = some (.int .i64 a1_1) := (blk_cell BK163.out 1).trans rfl
                                  have hfz83_0 := blk_frozen BK163.out 0
                                  have hfz83_1 := blk_frozen BK163.out 1
                                  go_wp2
                                  go_roundg kj27
                                  case measure => have := HK1.out; have := HK2.out; have := HJ27.out; omega
                                  case rel => exact ⟨(x7_2), (wrap64 (x27_2 + 1)), (by first | rfl | (simp; done) | (simp [*]; done)), (by first | rfl | (simp; done) | (simp [*]; done)), H', ⟨by have := HK1.out; have := HK2.out; have := HJ27.out; omega⟩, ⟨by (with_reducible repeat (first | refine blk_drewN ?_ _ | refine blk_drew ?_ | refine blk_alloc ?_ _)); exact BK163.out⟩, ⟨by repeat (first | (with_reducible first | exact HB.out | apply below_alloc | apply pw_below_drewN | apply below_drew1 | refine below_set ?_ GE163.out | refine below_set ?_ GE169.out | refine below_set ?_ GE171.out) | exact HB.out)⟩⟩
                        · rw [if_neg c27] at H
                          exact absurd H (by simp)
                      · rw [if_neg c26] at H
                        exact absurd H (by simp)
                  · rw [if_neg c23] at H
                    exact absurd H (by simp)
                · rw [if_neg c22] at H
                  exact absurd H (by simp)
              · rw [if_neg c21] at H
                have c21b0 : decide (x27_2 < (l0.length : Int)) = false := decide_eq_false c21
                clear c21
                obtain rfl := Option.some.inj H
                simp only [Option.some.injEq, Prod.mk.injEq] at H
                obtain ⟨rfl⟩ := H
                go_wp2
                go_ret
                exact ⟨by first | rfl | (simp [errW_none, errW_some] <;> rfl) | (simp [*, errW_none, errW_some] <;> rfl), by repeat (first | (with_reducible first | exact HB.out | apply below_alloc | apply pw_below_drewN | apply below_drew1 | refine below_set ?_ GE163.out) | exact HB.out)⟩
  · replace c4 := Bool.eq_false_iff.mpr c4
    subst c4
    have H1 : (some 0) = some r := by rw [if_neg (show ¬ (false = true) by decide)] at H; exact H
    clear H
    have H := H1
    clear H1
    obtain rfl := Option.some.inj H
    simp only [Option.some.injEq, Prod.mk.injEq] at H
    obtain ⟨rfl⟩ := H
    go_enter Try.func10, Try.ntmps10
    go_wp2_with (first | ((with_reducible refine gate_dst (N := 3) rfl ?_); refine box_event ?hg (N := 3) ?hd (cs := #[.int .i64 a1_0, .int .i64 a1_1]) (t := 29) ?hr ?_; (case hd => rfl); (case hg => rfl); (case hr => first | (go_simp; done) | (go_simp; rfl)); intro gb163 hg w84 hbox hb; have n0_ := Aside0.mk (below_step (by repeat (first | (with_reducible first | exact HB.out | apply below_alloc | apply pw_below_drewN | apply below_drew1) | exact HB.out)) hb); have n1_ := Aside0.mk (hbox); have n2_ := Aside0.mk ((by rw [hg]; exact (below_size (by repeat (first | (with_reducible first | exact HB.out | apply below_alloc | apply pw_below_drewN | apply below_drew1) | exact HB.out))) : w.heap.size ≤ gb163)); have n3_ := Aside0.mk ((by rw [hg]; exact (below_size (by repeat (first | (with_reducible first | exact HB.out | apply below_alloc | apply pw_below_drewN | apply below_drew1) | exact HB.out))) : w.heap.size ≤ gb163)); clear HB; have HB := n0_; have BK163 := n1_; have GW163 := n2_; have GE163 := n3_; clear n0_ n1_ n2_ n3_; clear hb hbox hg; have hcz85_0 : w84.cell? ⟨gb163, 0, none⟩ = some (.int .i64 a1_0) := (blk_cell BK163.out 0).trans rfl; have hcz85_1 : w84.cell? ⟨gb163, 1, none⟩ = some (.int .i64 a1_1) := (blk_cell BK163.out 1).trans rfl; have hfz85_0 := blk_frozen BK163.out 0; have hfz85_1 := blk_frozen BK163.out 1) | ((with_reducible refine gate_callee (f := 24) rfl ?_); refine goesL_ (some 13) rfl rfl Try.func24 (by kernel_rfl) rfl #[.agg #[.int .i64 a1_0, .int .i64 a1_1]] rfl (by (try simp only [List.map_toArray, List.map_cons, List.map_nil]); first | done | rfl | (simp only [List.length_drop, List.length_take]; rfl)) ?_; (with_reducible refine (impl_isNear.calls a1_0 a1_1 false _ A3.out).mono ?_); rintro e w86 ⟨rfl, hb⟩; refine ⟨_, rfl, ?_⟩; have n0_ := Aside0.mk (blk_below (g := gb163) (o := .cells #[.int .i64 a1_0, .int .i64 a1_1] 29 (0, 0)) (by (with_reducible repeat (first | refine blk_drewN ?_ _ | refine blk_drew ?_ | refine blk_alloc ?_ _)); exact BK163.out) hb); have n1_ := Aside0.mk (below_step (by repeat (first | (with_reducible first | exact HB.out | apply below_alloc | apply pw_below_drewN | apply below_drew1 | refine below_set ?_ GE163.out) | exact HB.out)) hb); clear BK163; clear HB; have BK163 := n0_; have HB := n1_; clear n0_ n1_; (try clear hb); (try clear hb2); (try clear hk); (try clear hi)))
    go_ret
    exact ⟨by first | rfl | (simp [errW_none, errW_some] <;> rfl) | (simp [*, errW_none, errW_some] <;> rfl), by repeat (first | (with_reducible first | exact HB.out | apply below_alloc | apply pw_below_drewN | apply below_drew1 | refine below_set ?_ GE163.out) | exact HB.out)⟩

/-! ### spec_l01In: function 29 -/
def spec_l01In.f (a0 : Int) (a1 : Int) (a2 : Int) : Option (Bool) := if a0 ≥ a1 then (some (decide (a0 ≤ a2))) else (some false)
set_option maxHeartbeats 8000000 in
set_option maxRecDepth 100000 in
theorem spec_l01In.calls (a0 : Int) (a1 : Int) (a2 : Int) (r : Bool) (w : World) (h : spec_l01In.f a0 a1 a2 = some r) :
    Calls Try.prog 29 #[.int .i64 a0, .int .i64 a1, .int .i64 a2] w fun e w' => e = .returned (.bool r) ∧ Drawn0 w w' := by
  have H : (if a0 ≥ a1 then (some (decide (a0 ≤ a2))) else (some false)) = some r := h
  clear h
  by_cases c4 : a0 ≥ a1
  · rw [if_pos c4] at H
    have c4b0 : decide (a1 ≤ a0) = true := decide_eq_true c4
    clear c4
    obtain rfl := Option.some.inj H
    simp only [Option.some.injEq, Prod.mk.injEq] at H
    obtain ⟨rfl⟩ := H
    go_enter Try.func29, Try.ntmps29
    go_wp2
    go_ret
    exact ⟨by first | rfl | (simp; done) | (simp [*]; done), by repeat (first | exact Drawn0.refl _ | apply Drawn0.step)⟩
  · rw [if_neg c4] at H
    have c4b0 : decide (a1 ≤ a0) = false := decide_eq_false c4
    clear c4
    obtain rfl := Option.some.inj H
    simp only [Option.some.injEq, Prod.mk.injEq] at H
    obtain ⟨rfl⟩ := H
    go_enter Try.func29, Try.ntmps29
    go_wp2
    go_ret
    exact ⟨by first | rfl | (simp; done) | (simp [*]; done), by repeat (first | exact Drawn0.refl _ | apply Drawn0.step)⟩

/-! ### spec_l10Near: function 25 -/
def spec_l10Near.f (a0_0 : Int) (a0_1 : Int) : Option (Bool) := (spec_l01In.f a0_0 (-33554432) 33554432).bind fun t173 => (if t173 = true then ((spec_l01In.f a0_1 (-33554432) 33554432).bind fun t174 => (some t174)) else (some false))
set_option maxHeartbeats 8000000 in
set_option maxRecDepth 100000 in
theorem spec_l10Near.calls (a0_0 : Int) (a0_1 : Int) (r : Bool) (w : World) (h : spec_l10Near.f a0_0 a0_1 = some r) :
    Calls Try.prog 25 #[.agg #[.int .i64 a0_0, .int .i64 a0_1]] w fun e w' => e = .returned (.bool r) ∧ Below w.heap.size w w' := by
  have hu29 := Try.underlying29
  have HB := Aside0.mk (Below.refl w.heap.size w)
  have H : ((spec_l01In.f a0_0 (-33554432) 33554432).bind fun t173 => (if t173 = true then ((spec_l01In.f a0_1 (-33554432) 33554432).bind fun t174 => (some t174)) else (some false))) = some r := h
  clear h
  replace H := Option.bind_eq_some_iff.mp H
  obtain ⟨t173, A20, H⟩ := H
  replace H : (if t173 = true then ((spec_l01In.f a0_1 (-33554432) 33554432).bind fun t174 => (some t174)) else (some false)) = some r := H
  have A2 := Aside0.mk A20
  clear A20
  by_cases c3 : t173 = true
  · subst c3
    have H1 : ((spec_l01In.f a0_1 (-33554432) 33554432).bind fun t174 => (some t174)) = some r := by rw [if_pos rfl] at H; exact H
    clear H
    have H := H1
    clear H1
    replace H := Option.bind_eq_some_iff.mp H
    obtain ⟨t174, A40, H⟩ := H
    replace H : (some t174) = some r := H
    have A4 := Aside0.mk A40
    clear A40
    obtain rfl := Option.some.inj H
    simp only [Option.some.injEq, Prod.mk.injEq] at H
    obtain ⟨rfl⟩ := H
    go_enter Try.func25, Try.ntmps25
    go_wp2_with (first | ((with_reducible refine gate_dst (N := 1) rfl ?_); refine box_event ?hg (N := 1) ?hd (cs := #[.int .i64 a0_0, .int .i64 a0_1]) (t := 29) ?hr ?_; (case hd => rfl); (case hg => rfl); (case hr => first | (go_simp; done) | (go_simp; rfl)); intro gb172 hg w5 hbox hb; have n0_ := Aside0.mk (below_step (by repeat (first | (with_reducible first | exact HB.out | apply below_alloc | apply pw_below_drewN | apply below_drew1) | exact HB.out)) hb); have n1_ := Aside0.mk (hbox); have n2_ := Aside0.mk ((by rw [hg]; exact (below_size (by repeat (first | (with_reducible first | exact HB.out | apply below_alloc | apply pw_below_drewN | apply below_drew1) | exact HB.out))) : w.heap.size ≤ gb172)); have n3_ := Aside0.mk ((by rw [hg]; exact (below_size (by repeat (first | (with_reducible first | exact HB.out | apply below_alloc | apply pw_below_drewN | apply below_drew1) | exact HB.out))) : w.heap.size ≤ gb172)); clear HB; have HB := n0_; have BK172 := n1_; have GW172 := n2_; have GE172 := n3_; clear n0_ n1_ n2_ n3_; clear hb hbox hg; have hcz6_0 : w5.cell? ⟨gb172, 0, none⟩ = some (.int .i64 a0_0) := (blk_cell BK172.out 0).trans rfl; have hcz6_1 : w5.cell? ⟨gb172, 1, none⟩ = some (.int .i64 a0_1) := (blk_cell BK172.out 1).trans rfl; have hfz6_0 := blk_frozen BK172.out 0; have hfz6_1 := blk_frozen BK172.out 1) | ((with_reducible refine gate_callee (f := 29) rfl ?_); refine goesL_ (some 5) rfl rfl Try.func29 (by kernel_rfl) rfl #[.int .i64 a0_0, .int .i64 (-33554432), .int .i64 33554432] rfl (by (try simp only [List.map_toArray, List.map_cons, List.map_nil]); first | done | rfl | (simp only [List.length_drop, List.length_take]; rfl)) ?_; (with_reducible refine (spec_l01In.calls a0_0 (-33554432) 33554432 true _ A2.out).mono ?_); rintro e w' ⟨rfl, ⟨nd, rfl⟩⟩; refine ⟨_, rfl, ?_⟩) | (go_at_call 29; (with_reducible refine (spec_l01In.calls a0_1 (-33554432) 33554432 t174 _ A4.out).mono ?_); rintro e w' ⟨rfl, ⟨nd, rfl⟩⟩))
    go_ret
    exact ⟨by first | rfl | (simp [errW_none, errW_some] <;> rfl) | (simp [*, errW_none, errW_some] <;> rfl), by repeat (first | (with_reducible first | exact HB.out | apply below_alloc | apply pw_below_drewN | apply below_drew1 | refine below_set ?_ GE172.out) | exact HB.out)⟩
  · replace c3 := Bool.eq_false_iff.mpr c3
    subst c3
    have H1 : (some false) = some r := by rw [if_neg (show ¬ (false = true) by decide)] at H; exact H
    clear H
    have H := H1
    clear H1
    obtain rfl := Option.some.inj H
    simp only [Option.some.injEq, Prod.mk.injEq] at H
    obtain ⟨rfl⟩ := H
    go_enter Try.func25, Try.ntmps25
    go_wp2_with (first | ((with_reducible refine gate_dst (N := 1) rfl ?_); refine box_event ?hg (N := 1) ?hd (cs := #[.int .i64 a0_0, .int .i64 a0_1]) (t := 29) ?hr ?_; (case hd => rfl); (case hg => rfl); (case hr => first | (go_simp; done) | (go_simp; rfl)); intro gb172 hg w7 hbox hb; have n0_ := Aside0.mk (below_step (by repeat (first | (with_reducible first | exact HB.out | apply below_alloc | apply pw_below_drewN | apply below_drew1) | exact HB.out)) hb); have n1_ := Aside0.mk (hbox); have n2_ := Aside0.mk ((by rw [hg]; exact (below_size (by repeat (first | (with_reducible first | exact HB.out | apply below_alloc | apply pw_below_drewN | apply below_drew1) | exact HB.out))) : w.heap.size ≤ gb172)); have n3_ := Aside0.mk ((by rw [hg]; exact (below_size (by repeat (first | (with_reducible first | exact HB.out | apply below_alloc | apply pw_below_drewN | apply below_drew1) | exact HB.out))) : w.heap.size ≤ gb172)); clear HB; have HB := n0_; have BK172 := n1_; have GW172 := n2_; have GE172 := n3_; clear n0_ n1_ n2_ n3_; clear hb hbox hg; have hcz8_0 : w7.cell? ⟨gb172, 0, none⟩ = some (.int .i64 a0_0) := (blk_cell BK172.out 0).trans rfl; have hcz8_1 : w7.cell? ⟨gb172, 1, none⟩ = some (.int .i64 a0_1) := (blk_cell BK172.out 1).trans rfl; have hfz8_0 := blk_frozen BK172.out 0; have hfz8_1 := blk_frozen BK172.out 1) | ((with_reducible refine gate_callee (f := 29) rfl ?_); refine goesL_ (some 5) rfl rfl Try.func29 (by kernel_rfl) rfl #[.int .i64 a0_0, .int .i64 (-33554432), .int .i64 33554432] rfl (by (try simp only [List.map_toArray, List.map_cons, List.map_nil]); first | done | rfl | (simp only [List.length_drop, List.length_take]; rfl)) ?_; (with_reducible refine (spec_l01In.calls a0_0 (-33554432) 33554432 false _ A2.out).mono ?_); rintro e w' ⟨rfl, ⟨nd, rfl⟩⟩; refine ⟨_, rfl, ?_⟩))
    go_ret
    exact ⟨by first | rfl | (simp [errW_none, errW_some] <;> rfl) | (simp [*, errW_none, errW_some] <;> rfl), by repeat (first | (with_reducible first | exact HB.out | apply below_alloc | apply pw_below_drewN | apply below_drew1 | refine below_set ?_ GE172.out) | exact HB.out)⟩

end Go.Proofs.Ytmgbefpidnaeoaa.MFnWinds
