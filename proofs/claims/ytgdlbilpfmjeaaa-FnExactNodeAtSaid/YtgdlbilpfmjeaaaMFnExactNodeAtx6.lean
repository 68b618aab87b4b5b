/- Functions of the program as Lean functions, and the proof that a call comes to just these: machine text of this session's own program (myprint.py). -/
import Derived.Test.YtgdlbilpfmjeaaaMFnExactNodeAtx0
import Derived.Test.YtgdlbilpfmjeaaaMFnExactNodeAtx1
import Derived.Test.YtgdlbilpfmjeaaaMFnExactNodeAtx3
import Derived.Test.YtgdlbilpfmjeaaaMFnExactNodeAtx5
namespace Go.Proofs.Ytgdlbilpfmjeaaa.MFnExactNodeAt
open Go.RowKit Go.Proofs.YtgdlbilpfmjeaaaW.PrintWords Go.Proofs.YtgdlbilpfmjeaaaW.PrintLast Go.Proofs.YtgdlbilpfmjeaaaW.PrintMore
attribute [local go_sem] max2_int min2_int max_two min_two max_three min_three max_four min_four   -- for this text's walks alone
set_option linter.unusedVariables false
set_option linter.unusedSimpArgs false

theorem z6_0 {P : Prop} (h : P := by repeat (first | (with_reducible first | exact HB.out | apply below_alloc | apply pw_below_drewN | apply below_drew1 | refine below_set ?_ GE288.out) | exact HB.out)) : P := h
theorem z6_1 {P : Prop} (h : P := by (with_reducible repeat (first | refine blk_drewN ?_ _ | refine blk_drew ?_ | refine blk_alloc ?_ _)); exact BK288.out) : P := h
theorem z6_2 {P : Prop} (h : P := by (try simp only [List.map_toArray, List.map_cons, List.map_nil]); first | done | rfl | (simp only [List.length_drop, List.length_take]; rfl)) : P := h
theorem z6_3 {P : Prop} (h : P := by repeat (first | (with_reducible first | exact HB.out | apply below_alloc | apply pw_below_drewN | apply below_drew1) | exact HB.out)) : P := h
theorem z6_4 {P : Prop} (h : P := by (with_reducible repeat (first | apply Kd.S_alloc | apply Kd.S_drewN | apply Kd.S_drew)); exact HO292.out) : P := h
theorem z6_5 {P : Prop} (h : P := by repeat (first | (with_reducible first | exact HB.out | apply below_alloc | apply pw_below_drewN | apply below_drew1 | refine below_set ?_ GE288.out | refine below_set ?_ GE297.out) | exact HB.out)) : P := h
theorem z6_6 {P : Prop} (h : P := by (with_reducible repeat (first | apply Kd.S_alloc | apply Kd.S_drewN | apply Kd.S_drew)); exact HO296.out) : P := h
theorem z6_7 {P : Prop} (h : P := by (with_reducible repeat (first | apply Kd.S_alloc | apply Kd.S_drewN | apply Kd.S_drew)); exact (Kd.S_mono (Kd.S_far (p := ⟨gb297, 0, none⟩) (Kd.S_types HO296.out BK297.out (by decide)) (fun _ hk => hk.2) (.slice Ao26 t294.length co26)) (fun _ h_ => h_.1))) : P := h
theorem z6_8 {P : Prop} (h : P := by (with_reducible repeat (first | refine blk_drewN ?_ _ | refine blk_drew ?_ | refine blk_alloc ?_ _)); exact BK297.out) : P := h
/-! ### laws_FnExactNodeAt: function 8 -/
def laws_FnExactNodeAt.f (k : Nat) (l0_0 : List (S173)) (a1 : Int) : Option (Bool) := (laws_szScene.f k l0_0 1048576).bind fun t289 => (if t289 < 0 then (some true) else ((laws_toScene.f k l0_0).bind fun t290 => ((spec_NodeAt.f k t290 a1).bind fun t293 => ((laws_toScene.f k l0_0).bind fun t294 => ((impl_NodeAt.f k t294 a1).bind fun t298 => (if t298 = t293 then ((laws_toScene.f k l0_0).bind fun t299 => ((laws_eqScene.f k t294 t299).bind fun t302 => (if t302 = true then (some true) else (some false)))) else (some false)))))))
theorem laws_FnExactNodeAt.mono : ∀ a0 a1 k, LeO (laws_FnExactNodeAt.f k a0 a1) (laws_FnExactNodeAt.f (k + 1) a0 a1) := by
 intro a0 a1 k
 unfold laws_FnExactNodeAt.f
 repeat' first
   | (with_reducible exact impl_NodeAt.mono _ _ _)
   | (with_reducible exact laws_eqScene.mono _ _ _)
   | (with_reducible exact laws_szScene.mono _ _ _)
   | (with_reducible exact laws_toScene.mono _ _)
   | (with_reducible exact spec_NodeAt.mono _ _ _)
   | (with_reducible exact LeO.refl _)
   | (with_reducible exact LeO.none _)
   | (with_reducible refine LeO.ite ?_ ?_)
   | (with_reducible refine LeO.bind ?_ (fun _ => ?_))
   | exact impl_NodeAt.mono _ _ _
   | exact laws_eqScene.mono _ _ _
   | exact laws_szScene.mono _ _ _
   | exact laws_toScene.mono _ _
   | exact spec_NodeAt.mono _ _ _
   | exact LeO.none _
   | refine LeO.ite ?_ ?_
   | refine LeO.bind ?_ (fun _ => ?_)
set_option maxHeartbeats 8000000 in
set_option maxRecDepth 100000 in
theorem laws_FnExactNodeAt.calls (k : Nat) (A0_0 : Option Addr) (c0_0 : Nat) (l0_0 : List (S173)) (a1 : Int) (r : Bool) (w : World) (hr0_0 : Kd.C k173 w A0_0 l0_0.length l0_0) (hc0_0 : l0_0.length ≤ c0_0) (hT : r = true) (h : laws_FnExactNodeAt.f k l0_0 a1 = some r) :
  Calls Try.prog 8 #[.agg #[.slice A0_0 l0_0.length c0_0], .int .i64 a1] w fun e w' => e = .returned (.bool r) ∧ Below w.heap.size w w' := by
 have hu72 := Try.underlying72
 have hu77 := Try.underlying77
 have HR0_0 := Aside0.mk hr0_0
 have HC0_0 := Aside0.mk hc0_0
 clear hr0_0 hc0_0
 have HB := Aside0.mk (Below.refl w.heap.size w)
 have H : ((laws_szScene.f k l0_0 1048576).bind fun t289 => (if t289 < 0 then (some true) else ((laws_toScene.f k l0_0).bind fun t290 => ((spec_NodeAt.f k t290 a1).bind fun t293 => ((laws_toScene.f k l0_0).bind fun t294 => ((impl_NodeAt.f k t294 a1).bind fun t298 => (if t298 = t293 then ((laws_toScene.f k l0_0).bind fun t299 => ((laws_eqScene.f k t294 t299).bind fun t302 => (if t302 = true then (some true) else (some false)))) else (some false)))))))) = some r := h
 clear h
 replace H := Option.bind_eq_some_iff.mp H
 obtain ⟨t289, A30, H⟩ := H
 replace H : (if t289 < 0 then (some true) else ((laws_toScene.f k l0_0).bind fun t290 => ((spec_NodeAt.f k t290 a1).bind fun t293 => ((laws_toScene.f k l0_0).bind fun t294 => ((impl_NodeAt.f k t294 a1).bind fun t298 => (if t298 = t293 then ((laws_toScene.f k l0_0).bind fun t299 => ((laws_eqScene.f k t294 t299).bind fun t302 => (if t302 = true then (some true) else (some false)))) else (some false))))))) = some r := H
 have A3 := Aside0.mk A30
 clear A30
 by_cases c4 : t289 < 0
 ·rw [if_pos c4] at H
  have c4b0 : decide (t289 < 0) = true := decide_eq_true c4
  clear c4
  obtain rfl := Option.some.inj H
  simp only [Option.some.injEq, Prod.mk.injEq] at H
  obtain ⟨rfl⟩ := H
  go_enter Try.func8, Try.ntmps8
  go_wp2_with (first | ((with_reducible refine gate_dst (N := 2) rfl ?_); refine box_event ?hg (N := 2) ?hd (cs := #[.slice A0_0 l0_0.length c0_0]) (t := 72) ?hr ?_; (case hd => rfl); (case hg => rfl); (case hr => first | (go_simp; done) | (go_simp; rfl)); intro gb288 hg w5 hbox hb; have n0_ := Aside0.mk (below_step z6_3 hb); have n1_ := Aside0.mk (hbox); have n2_ := Aside0.mk ((by rw [hg]; exact (below_size z6_3) : w.heap.size ≤ gb288)); have n3_ := Aside0.mk ((by rw [hg]; exact (below_size z6_3) : w.heap.size ≤ gb288)); clear HB; have HB := n0_; have BK288 := n1_; have GW288 := n2_; have GE288 := n3_; clear n0_ n1_ n2_ n3_; clear hb hbox hg; have hcz6_0 : w5.cell? ⟨gb288, 0, none⟩ = some (.slice A0_0 l0_0.length c0_0) := (blk_cell BK288.out 0).trans rfl; have hfz6_0 := blk_frozen BK288.out 0) | ((with_reducible refine gate_callee (f := 48) rfl ?_); refine goesL_ (some 11) rfl rfl Try.func48 (by kernel_rfl) rfl #[.agg #[.slice A0_0 l0_0.length c0_0], .int .i64 1048576] rfl z6_2 ?_; (with_reducible refine (laws_szScene.calls k _ _ l0_0 1048576 t289 _ ?side1 ?side2 A3.out).mono ?_); (case side1 => repeat (first | exact (Kd.C_below HR0_0.out HB.out) | (with_reducible refine Kd.C_alloc ?_ _) | (with_reducible refine Kd.C_drewN ?_ _) | (with_reducible refine Kd.C_drew ?_))); (case side2 => exact HC0_0.out); rintro e w7 ⟨rfl, hb⟩; refine ⟨_, rfl, ?_⟩; have n0_ := Aside0.mk (blk_below (g := gb288) (o := .cells #[.slice A0_0 l0_0.length c0_0] 72 (0, 0)) z6_1 hb); have n1_ := Aside0.mk (below_step z6_0 hb); clear BK288; clear HB; have BK288 := n0_; have HB := n1_; clear n0_ n1_; (try clear hb); (try clear hb2); (try clear hk); (try clear hi)))
  go_ret
  exact ⟨by first | rfl | (simp [errW_none, errW_some] <;> rfl) | (simp [*, errW_none, errW_some] <;> rfl), by repeat (first | (with_reducible first | exact HB.out | apply below_alloc | apply pw_below_drewN | apply below_drew1 | refine below_set ?_ GE288.out) | exact HB.out)⟩
 ·rw [if_neg c4] at H
  have c4b0 : decide (t289 < 0) = false := decide_eq_false c4
  clear c4
  replace H := Option.bind_eq_some_iff.mp H
  obtain ⟨t290, A80, H⟩ := H
  replace H : ((spec_NodeAt.f k t290 a1).bind fun t293 => ((laws_toScene.f k l0_0).bind fun t294 => ((impl_NodeAt.f k t294 a1).bind fun t298 => (if t298 = t293 then ((laws_toScene.f k l0_0).bind fun t299 => ((laws_eqScene.f k t294 t299).bind fun t302 => (if t302 = true then (some true) else (some false)))) else (some false))))) = some r := H
  have A8 := Aside0.mk A80
  clear A80
  replace H := Option.bind_eq_some_iff.mp H
  obtain ⟨t293, A90, H⟩ := H
  replace H : ((laws_toScene.f k l0_0).bind fun t294 => ((impl_NodeAt.f k t294 a1).bind fun t298 => (if t298 = t293 then ((laws_toScene.f k l0_0).bind fun t299 => ((laws_eqScene.f k t294 t299).bind fun t302 => (if t302 = true then (some true) else (some false)))) else (some false)))) = some r := H
  have A9 := Aside0.mk A90
  clear A90
  replace H := Option.bind_eq_some_iff.mp H
  obtain ⟨t294, A100, H⟩ := H
  replace H : ((impl_NodeAt.f k t294 a1).bind fun t298 => (if t298 = t293 then ((laws_toScene.f k l0_0).bind fun t299 => ((laws_eqScene.f k t294 t299).bind fun t302 => (if t302 = true then (some true) else (some false)))) else (some false))) = some r := H
  have A10 := Aside0.mk A100
  clear A100
  replace H := Option.bind_eq_some_iff.mp H
  obtain ⟨t298, A110, H⟩ := H
  replace H : (if t298 = t293 then ((laws_toScene.f k l0_0).bind fun t299 => ((laws_eqScene.f k t294 t299).bind fun t302 => (if t302 = true then (some true) else (some false)))) else (some false)) = some r := H
  have A11 := Aside0.mk A110
  clear A110
  by_cases c12 : t298 = t293
  ·rw [if_pos c12] at H
   have c12b0 : (t298 == t293) = true := beq_iff_eq.mpr c12
   have c12b1 : (t298 != t293) = false := bne_eq_false_iff_eq.mpr c12
   clear c12
   replace H := Option.bind_eq_some_iff.mp H
   obtain ⟨t299, A130, H⟩ := H
   replace H : ((laws_eqScene.f k t294 t299).bind fun t302 => (if t302 = true then (some true) else (some false))) = some r := H
   have A13 := Aside0.mk A130
   clear A130
   replace H := Option.bind_eq_some_iff.mp H
   obtain ⟨t302, A140, H⟩ := H
   replace H : (if t302 = true then (some true) else (some false)) = some r := H
   have A14 := Aside0.mk A140
   clear A140
   by_cases c15 : t302 = true
   ·subst c15
    have H1 : (some true) = some r := by rw [if_pos rfl] at H; exact H
    clear H; have H := H1; clear H1
    obtain rfl := Option.some.inj H
    simp only [Option.some.injEq, Prod.mk.injEq] at H
    obtain ⟨rfl⟩ := H
    go_enter Try.func8, Try.ntmps8
    try go_wp2_with (first | ((with_reducible refine gate_dst (N := 2) rfl ?_); refine box_event ?hg (N := 2) ?hd (cs := #[.slice A0_0 l0_0.length c0_0]) (t := 72) ?hr ?_; (case hd => rfl); (case hg => rfl); (case hr => first | (go_simp; done) | (go_simp; rfl)); intro gb288 hg w16 hbox hb; have n0_ := Aside0.mk (below_step z6_3 hb); have n1_ := Aside0.mk (hbox); have n2_ := Aside0.mk ((by rw [hg]; exact (below_size z6_3) : w.heap.size ≤ gb288)); have n3_ := Aside0.mk ((by rw [hg]; exact (below_size z6_3) : w.heap.size ≤ gb288)); clear HB; have HB := n0_; have BK288 := n1_; have GW288 := n2_; have GE288 := n3_; clear n0_ n1_ n2_ n3_; clear hb hbox hg; have hcz17_0 : w16.cell? ⟨gb288, 0, none⟩ = some (.slice A0_0 l0_0.length c0_0) := (blk_cell BK288.out 0).trans rfl; have hfz17_0 := blk_frozen BK288.out 0) | ((with_reducible refine gate_callee (f := 48) rfl ?_); refine goesL_ (some 11) rfl rfl Try.func48 (by kernel_rfl) rfl #[.agg #[.slice A0_0 l0_0.length c0_0], .int .i64 1048576] rfl z6_2 ?_; (with_reducible refine (laws_szScene.calls k _ _ l0_0 1048576 t289 _ ?side1 ?side2 A3.out).mono ?_); (case side1 => repeat (first | exact (Kd.C_below HR0_0.out HB.out) | (with_reducible refine Kd.C_alloc ?_ _) | (with_reducible refine Kd.C_drewN ?_ _) | (with_reducible refine Kd.C_drew ?_))); (case side2 => exact HC0_0.out); rintro e w18 ⟨rfl, hb⟩; refine ⟨_, rfl, ?_⟩; have n0_ := Aside0.mk (blk_below (g := gb288) (o := .cells #[.slice A0_0 l0_0.length c0_0] 72 (0, 0)) z6_1 hb); have n1_ := Aside0.mk (below_step z6_0 hb); clear BK288; clear HB; have BK288 := n0_; have HB := n1_; clear n0_ n1_; (try clear hb); (try clear hb2); (try clear hk); (try clear hi); have hcz19_0 : w18.cell? ⟨gb288, 0, none⟩ = some (.slice A0_0 l0_0.length c0_0) := (blk_cell BK288.out 0).trans rfl; have hfz19_0 := blk_frozen BK288.out 0) | ((with_reducible refine gate_callee (f := 50) rfl ?_); refine goesL_ (some 15) rfl rfl Try.func50 (by kernel_rfl) rfl #[.agg #[.slice A0_0 l0_0.length c0_0]] rfl z6_2 ?_; (with_reducible refine (laws_toScene.calls k _ _ l0_0 t290 _ ?side1 ?side2 A8.out).mono ?_); (case side1 => repeat (first | exact (Kd.C_below HR0_0.out HB.out) | (with_reducible refine Kd.C_alloc ?_ _) | (with_reducible refine Kd.C_drewN ?_ _) | (with_reducible refine Kd.C_drew ?_))); (case side2 => exact HC0_0.out); rintro e w20 ⟨v291, rfl, ho0, hb⟩; refine ⟨_, rfl, ?_⟩; have n0_ := Aside0.mk (Kd.S_lower ho0 (below_size z6_0)); have n1_ := Aside0.mk (blk_below (g := gb288) (o := .cells #[.slice A0_0 l0_0.length c0_0] 72 (0, 0)) z6_1 hb); have n2_ := Aside0.mk (below_step z6_0 hb); clear BK288; clear HB; have HO292 := n0_; have BK288 := n1_; have HB := n2_; clear n0_ n1_ n2_; (try clear hb); (try clear hb2); (try clear hk); (try clear hi); (try clear ho0); obtain ⟨Ao21, co21, eo21⟩ := Kd.S_slice HO292.out; subst eo21) | ((with_reducible refine gate_callee (f := 49) rfl ?_); refine goesL_ (some 17) rfl rfl Try.func49 (by kernel_rfl) rfl #[.agg #[.slice Ao21 t290.length co21], .int .i64 a1] rfl z6_2 ?_; (with_reducible refine (spec_NodeAt.calls k _ _ t290 a1 t293 _ ?side1 ?side2 A9.out).mono ?_); (case side1 => repeat (first | exact (Kd.S_reads' HO292.out).2.2 | (with_reducible refine Kd.C_alloc ?_ _) | (with_reducible refine Kd.C_drewN ?_ _) | (with_reducible refine Kd.C_drew ?_))); (case side2 => exact (Kd.S_reads' HO292.out).2.1); rintro e w22 ⟨rfl, hb⟩; refine ⟨_, rfl, ?_⟩; have n0_ := Aside0.mk (Kd.S_below z6_4 hb); have n1_ := Aside0.mk (blk_below (g := gb288) (o := .cells #[.slice A0_0 l0_0.length c0_0] 72 (0, 0)) z6_1 hb); have n2_ := Aside0.mk (below_step z6_0 hb); clear HO292; clear BK288; clear HB; have HO292 := n0_; have BK288 := n1_; have HB := n2_; clear n0_ n1_ n2_; (try clear hb); (try clear hb2); (try clear hk); (try clear hi); have hcz23_0 : w22.cell? ⟨gb288, 0, none⟩ = some (.slice A0_0 l0_0.length c0_0) := (blk_cell BK288.out 0).trans rfl; have hfz23_0 := blk_frozen BK288.out 0) | ((with_reducible refine gate_callee (f := 50) rfl ?_); refine goesL_ (some 19) rfl rfl Try.func50 (by kernel_rfl) rfl #[.agg #[.slice A0_0 l0_0.length c0_0]] rfl z6_2 ?_; (with_reducible refine (laws_toScene.calls k _ _ l0_0 t294 _ ?side1 ?side2 A10.out).mono ?_); (case side1 => repeat (first | exact (Kd.C_below HR0_0.out HB.out) | (with_reducible refine Kd.C_alloc ?_ _) | (with_reducible refine Kd.C_drewN ?_ _) | (with_reducible refine Kd.C_drew ?_))); (case side2 => exact HC0_0.out); rintro e w24 ⟨v295, rfl, ho0, hb⟩; refine ⟨_, rfl, ?_⟩; have n0_ := Aside0.mk (Kd.S_elder' z6_4 (Kd.S_base ho0) hb); have n1_ := Aside0.mk (Kd.S_lower (Kd.S_new' ho0 (Kd.S_lt z6_4)) (below_size z6_0)); have n2_ := Aside0.mk (blk_below (g := gb288) (o := .cells #[.slice A0_0 l0_0.length c0_0] 72 (0, 0)) z6_1 hb); have n3_ := Aside0.mk (below_step z6_0 hb); clear HO292; clear BK288; clear HB; have HO292 := n0_; have HO296 := n1_; have BK288 := n2_; have HB := n3_; clear n0_ n1_ n2_ n3_; (try clear hb); (try clear hb2); (try clear hk); (try clear hi); (try clear ho0)) | ((with_reducible refine gate_dst (N := 7) rfl ?_); refine box_event ?hg (N := 7) ?hd (cs := #[.slice none 0 0]) (t := 77) ?hr ?_; (case hd => rfl); (case hg => rfl); (case hr => first | (go_simp; done) | (go_simp; rfl)); intro gb297 hg w25 hbox hb; have n0_ := Aside0.mk (Kd.S_below z6_4 hb); have n1_ := Aside0.mk (Kd.S_below z6_6 hb); have n2_ := Aside0.mk (blk_below (g := gb288) (o := .cells #[.slice A0_0 l0_0.length c0_0] 72 (0, 0)) z6_1 hb); have n3_ := Aside0.mk (below_step z6_0 hb); have n4_ := Aside0.mk (hbox); have n5_ := Aside0.mk ((by rw [hg]; exact (below_size z6_0) : w.heap.size ≤ gb297)); have n6_ := Aside0.mk ((by rw [hg]; exact (below_size z6_0) : w.heap.size ≤ gb297)); have n7_ := Aside0.mk ((by rw [hg]; exact Nat.ne_of_lt (blk_lt (g := gb288) (o := .cells #[.slice A0_0 l0_0.length c0_0] 72 (0, 0)) z6_1) : gb288 ≠ gb297)); have n8_ := Aside0.mk ((by rw [hg]; exact Nat.ne_of_gt (blk_lt (g := gb288) (o := .cells #[.slice A0_0 l0_0.length c0_0] 72 (0, 0)) z6_1) : gb297 ≠ gb288)); clear HO292; clear HO296; clear BK288; clear HB; have HO292 := n0_; have HO296 := n1_; have BK288 := n2_; have HB := n3_; have BK297 := n4_; have GW297 := n5_; have GE297 := n6_; have NB288_297 := n7_; have NB297_288 := n8_; clear n0_ n1_ n2_ n3_ n4_ n5_ n6_ n7_ n8_; clear hb hbox hg; obtain ⟨Ao26, co26, eo26⟩ := Kd.S_slice HO296.out; subst eo26; have hnb27 := NB297_288.out; have hnc27 := NB288_297.out; have hcz28_0 : w25.cell? ⟨gb297, 0, none⟩ = some (.slice none 0 0) := (blk_cell BK297.out 0).trans rfl; have hfz28_0 := blk_frozen BK297.out 0) | ((with_reducible refine gate_callee (f := 51) rfl ?_); refine goesL_ (some 22) rfl rfl Try.func51 (by kernel_rfl) rfl #[.agg #[.slice Ao26 t294.length co26], .int .i64 a1] rfl z6_2 ?_; (with_reducible refine (impl_NodeAt.calls k _ _ t294 a1 t298 _ ?side1 ?side2 A11.out).mono ?_); (case side1 => refine (Kd.S_reads' (e := 96) (base := w.heap.size) (ok := fun k_ => (True ∧ some k_ ≠ (.slice Ao21 t290.length co21 : Value).ownBlock)) (n := t294.length) (c := co26) ?_).2.2; exact z6_7); (case side2 => exact (Kd.S_reads' HO296.out).2.1); rintro e w29 ⟨rfl, hb⟩; refine ⟨_, rfl, ?_⟩; have n0_ := Aside0.mk (Kd.S_below (by (with_reducible repeat (first | apply Kd.S_alloc | apply Kd.S_drewN | apply Kd.S_drew)); exact (Kd.S_mono (Kd.S_far (p := ⟨gb297, 0, none⟩) (Kd.S_types HO292.out BK297.out (by decide)) (fun _ hk => hk.2) (.slice Ao26 t294.length co26)) (fun _ h_ => h_.1))) hb); have n1_ := Aside0.mk (Kd.S_below z6_7 hb); have n2_ := Aside0.mk (blk_below (g := gb288) (o := .cells #[.slice A0_0 l0_0.length c0_0] 72 (0, 0)) (by (with_reducible repeat (first | refine blk_drewN ?_ _ | refine blk_drew ?_ | refine blk_alloc ?_ _)); refine blk_far ?_ NB288_297.out _; (with_reducible repeat (first | refine blk_drewN ?_ _ | refine blk_drew ?_ | refine blk_alloc ?_ _)); exact BK288.out) hb); have n3_ := Aside0.mk (blk_below (g := gb297) (o := .cells #[.slice Ao26 t294.length co26] 77 (0, 0)) (by (with_reducible repeat (first | refine blk_drewN ?_ _ | refine blk_drew ?_ | refine blk_alloc ?_ _)); refine blk_put (cs := #[.slice none 0 0]) ?_ 0 _ rfl; (with_reducible repeat (first | refine blk_drewN ?_ _ | refine blk_drew ?_ | refine blk_alloc ?_ _)); exact BK297.out) hb); have n4_ := Aside0.mk (below_step z6_5 hb); clear HO292; clear HO296; clear BK288; clear BK297; clear HB; have HO292 := n0_; have HO296 := n1_; have BK288 := n2_; have BK297 := n3_; have HB := n4_; clear n0_ n1_ n2_ n3_ n4_; (try clear hb); (try clear hb2); (try clear hk); (try clear hi)))
    have n0_ := Aside0.mk (Kd.S_drew HO292.out)
    have n1_ := Aside0.mk (Kd.S_drew HO296.out)
    have n2_ := Aside0.mk (blk_drew BK288.out)
    have n3_ := Aside0.mk (blk_drew BK297.out)
    have n4_ := Aside0.mk (below_drew1 HB.out)
    clear HO292; clear HO296; clear BK288; clear BK297; clear HB; have HO292 := n0_; have HO296 := n1_; have BK288 := n2_; have BK297 := n3_; have HB := n4_; clear n0_ n1_ n2_ n3_ n4_
    refine start_ (n := 5) (S := fun w' => w'.cell? ⟨gb297, 0, none⟩ = some (.slice Ao26 t294.length co26) ∧ w'.cell? ⟨gb288, 0, none⟩ = some (.slice A0_0 l0_0.length c0_0)) (ds := []) #[false, false, false, false, false] (by kernel_rfl) rfl rfl ⟨(blk_cell BK297.out 0).trans rfl, (blk_cell BK288.out 0).trans rfl⟩ (fun hHeld => ?_)
    generalize w29.drew = w30 at HO292 HO296 BK288 BK297 HB hHeld ⊢
    refine take_ (i := 0) (N := some 26) (v := ?_) (a' := ?_) #[true, false, false, false, false] rfl rfl (by kernel_rfl) (fun _ _ _ h => h) (Or.inl ⟨by rfl, ?_⟩) hHeld ?_ ?_
    rotate_left
    ·rintro w' ⟨s0, s1⟩
     go_simp; with_reducible rfl
    rotate_left
    ·simp only [Act.put, List.setIfInBounds_toArray, List.set_cons_zero, List.set_cons_succ, i64_w, i32_w]
     rfl
    refine take_ (i := 1) (N := some 27) (v := ?_) (a' := ?_) #[true, true, false, false, false] rfl rfl (by kernel_rfl) (fun _ _ _ h => h) (Or.inl ⟨by rfl, ?_⟩) hHeld ?_ ?_
    rotate_left
    ·rintro w' ⟨s0, s1⟩
     go_simp; with_reducible rfl
    rotate_left
    ·simp only [Act.put, List.setIfInBounds_toArray, List.set_cons_zero, List.set_cons_succ, i64_w, i32_w]
     rfl
    refine one_ (i := 2) (N := some 28) #[true, true, true, false, false] rfl rfl (by kernel_rfl) (by decide) (fun K hK => ?_)
    refine goes_ Try.func50 (by kernel_rfl) rfl #[.agg #[.slice A0_0 l0_0.length c0_0]] (by rfl) rfl rfl z6_2 ?_
    with_reducible refine (laws_toScene.calls k _ _ l0_0 t299 _ ?side1 ?side2 A13.out).mono ?_
    (case side1 => repeat (first | exact (Kd.C_below HR0_0.out HB.out) | (with_reducible refine Kd.C_alloc ?_ _) | (with_reducible refine Kd.C_drewN ?_ _) | (with_reducible refine Kd.C_drew ?_)))
    (case side2 => exact HC0_0.out)
    rintro e w31 ⟨v300, rfl, ho0, hb⟩
    refine ⟨_, rfl, ?_⟩
    have n0_ := Aside0.mk (Kd.S_elder' z6_4 (Kd.S_base ho0) hb)
    have n1_ := Aside0.mk (Kd.S_elder' z6_6 (Kd.S_base ho0) hb)
    have n2_ := Aside0.mk (Kd.S_lower (Kd.S_new' (Kd.S_new' ho0 (Kd.S_lt z6_4)) (Kd.S_lt z6_6)) (below_size z6_5))
    have n3_ := Aside0.mk (blk_below (g := gb288) (o := .cells #[.slice A0_0 l0_0.length c0_0] 72 (0, 0)) z6_1 hb)
    have n4_ := Aside0.mk (blk_below (g := gb297) (o := .cells #[.slice Ao26 t294.length co26] 77 (0, 0)) z6_8 hb)
    have n5_ := Aside0.mk (below_step z6_5 hb)
    clear HO292; clear HO296; clear BK288; clear BK297; clear HB; have HO292 := n0_; have HO296 := n1_; have HO301 := n2_; have BK288 := n3_; have BK297 := n4_; have HB := n5_; clear n0_ n1_ n2_ n3_ n4_ n5_; (try clear hb); (try clear hb2); (try clear hk); (try clear hi); (try clear ho0)
    obtain ⟨Ao32, co32, eo32⟩ := Kd.S_slice HO301.out
    (first | subst eo32 | (injection eo32 with f1_ f2_ f3_; have f4_ := f1_.symm; have f5_ := f3_.symm; clear f1_ f2_ f3_; subst f4_; subst f5_))
    refine hK.out _ _ ⟨(blk_cell BK297.out 0).trans rfl, (blk_cell BK288.out 0).trans rfl⟩ (fun hHeld => ?_)
    clear hK K
    refine norm_ (a' := ?_) ?_ ?_
    rotate_left
    ·show Act.put _ (some 28) _ = _
     simp only [Act.put, List.setIfInBounds_toArray, List.set_cons_zero, List.set_cons_succ, i64_w, i32_w]
     rfl
    refine one_ (i := 3) (N := some 29) #[true, true, true, true, false] rfl rfl (by kernel_rfl) (by decide) (fun K hK => ?_)
    refine goes_ Try.func52 (by kernel_rfl) rfl #[.agg #[.slice Ao26 t294.length co26], .agg #[.slice Ao32 t299.length co32]] (by rfl) rfl rfl z6_2 ?_
    with_reducible refine (laws_eqScene.calls k _ _ t294 _ _ t299 true _ ?side1 ?side2 ?side3 ?side4 (by first | rfl | assumption) A14.out).mono ?_
    (case side1 => repeat (first | exact (Kd.S_reads' HO296.out).2.2 | (with_reducible refine Kd.C_alloc ?_ _) | (with_reducible refine Kd.C_drewN ?_ _) | (with_reducible refine Kd.C_drew ?_)))
    (case side2 => exact (Kd.S_reads' HO296.out).2.1)
    (case side3 => repeat (first | exact (Kd.S_reads' HO301.out).2.2 | (with_reducible refine Kd.C_alloc ?_ _) | (with_reducible refine Kd.C_drewN ?_ _) | (with_reducible refine Kd.C_drew ?_)))
    (case side4 => exact (Kd.S_reads' HO301.out).2.1)
    rintro e w33 ⟨rfl, hb⟩
    refine ⟨_, rfl, ?_⟩
    have n0_ := Aside0.mk (Kd.S_below z6_4 hb)
    have n1_ := Aside0.mk (Kd.S_below z6_6 hb)
    have n2_ := Aside0.mk (Kd.S_below (by (with_reducible repeat (first | apply Kd.S_alloc | apply Kd.S_drewN | apply Kd.S_drew)); exact HO301.out) hb)
    have n3_ := Aside0.mk (blk_below (g := gb288) (o := .cells #[.slice A0_0 l0_0.length c0_0] 72 (0, 0)) z6_1 hb)
    have n4_ := Aside0.mk (blk_below (g := gb297) (o := .cells #[.slice Ao26 t294.length co26] 77 (0, 0)) z6_8 hb)
    have n5_ := Aside0.mk (below_step z6_5 hb)
    clear HO292; clear HO296; clear HO301; clear BK288; clear BK297; clear HB; have HO292 := n0_; have HO296 := n1_; have HO301 := n2_; have BK288 := n3_; have BK297 := n4_; have HB := n5_; clear n0_ n1_ n2_ n3_ n4_ n5_; (try clear hb); (try clear hb2); (try clear hk); (try clear hi)
    refine hK.out _ _ ⟨(blk_cell BK297.out 0).trans rfl, (blk_cell BK288.out 0).trans rfl⟩ (fun hHeld => ?_)
    clear hK K
    refine norm_ (a' := ?_) ?_ ?_
    rotate_left
    ·show Act.put _ (some 29) _ = _
     simp only [Act.put, List.setIfInBounds_toArray, List.set_cons_zero, List.set_cons_succ, i64_w, i32_w]
     rfl
    refine pure_ (i := 4) (N := some 30) (v := ?_) (a' := ?_) #[true, true, true, true, true] rfl rfl (by kernel_rfl) (fun _ _ _ h => h) (Or.inl ⟨by rfl, ?_⟩) ?_ ?_; rotate_left
    ·intro w'
     go_simp; with_reducible rfl
    rotate_left
    ·simp only [Act.put, List.setIfInBounds_toArray, List.set_cons_zero, List.set_cons_succ, i64_w, i32_w]
     rfl
    refine done_ (by kernel_rfl) ?_
    try go_wp2
    go_ret
    exact ⟨by first | rfl | (simp [errW_none, errW_some] <;> rfl) | (simp [*, errW_none, errW_some] <;> rfl), by repeat (first | (with_reducible first | exact HB.out | apply below_alloc | apply pw_below_drewN | apply below_drew1 | refine below_set ?_ GE288.out | refine below_set ?_ GE297.out) | exact HB.out)⟩
   ·replace c15 := Bool.eq_false_iff.mpr c15
    subst c15
    have H1 : (some false) = some r := by rw [if_neg (show ¬ (false = true) by decide)] at H; exact H
    clear H; have H := H1; clear H1
    obtain rfl := Option.some.inj H
    exact absurd hT Bool.false_ne_true
  ·rw [if_neg c12] at H
   have c12b0 : (t298 == t293) = false := beq_eq_false_iff_ne.mpr c12
   have c12b1 : (t298 != t293) = true := bne_iff_ne.mpr c12
   obtain rfl := Option.some.inj H
   exact absurd hT Bool.false_ne_true

end Go.Proofs.Ytgdlbilpfmjeaaa.MFnExactNodeAt
