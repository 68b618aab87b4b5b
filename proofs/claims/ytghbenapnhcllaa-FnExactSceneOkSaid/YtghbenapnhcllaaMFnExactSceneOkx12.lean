/- Functions of the program as Lean functions, and the proof that a call comes to just these: machine text of this session's own program (myprint.py). -/
import Derived.Test.YtghbenapnhcllaaMFnExactSceneOkx0
import Derived.Test.YtghbenapnhcllaaMFnExactSceneOkx7
import Derived.Test.YtghbenapnhcllaaMFnExactSceneOkx10
import Derived.Test.YtghbenapnhcllaaMFnExactSceneOkx11
namespace Go.Proofs.Ytghbenapnhcllaa.MFnExactSceneOk
open Go.RowKit Go.Proofs.YtghbenapnhcllaaW.PrintWords Go.Proofs.YtghbenapnhcllaaW.PrintLast Go.Proofs.YtghbenapnhcllaaW.PrintMore
attribute [local go_sem] max2_int min2_int max_two min_two max_three min_three max_four min_four   -- for this text's walks alone
set_option linter.unusedVariables false
set_option linter.unusedSimpArgs false

theorem z12_0 {P : Prop} (h : P := by (with_reducible repeat (first | refine blk_drewN ?_ _ | refine blk_drew ?_ | refine blk_alloc ?_ _)); refine blk_far ?_ NB337_339.out _; (with_reducible repeat (first | refine blk_drewN ?_ _ | refine blk_drew ?_ | refine blk_alloc ?_ _)); refine blk_far ?_ NB337_339.out _; (with_reducible repeat (first | refine blk_drewN ?_ _ | refine blk_drew ?_ | refine blk_alloc ?_ _)); refine blk_far ?_ NB337_339.out _; (with_reducible repeat (first | refine blk_drewN ?_ _ | refine blk_drew ?_ | refine blk_alloc ?_ _)); refine blk_far ?_ NB337_339.out _; (with_reducible repeat (first | refine blk_drewN ?_ _ | refine blk_drew ?_ | refine blk_alloc ?_ _)); refine blk_far ?_ NB337_339.out _; (with_reducible repeat (first | refine blk_drewN ?_ _ | refine blk_drew ?_ | refine blk_alloc ?_ _)); refine blk_far ?_ NB337_339.out _; (with_reducible repeat (first | refine blk_drewN ?_ _ | refine blk_drew ?_ | refine blk_alloc ?_ _)); refine blk_far ?_ NB337_339.out _; (with_reducible repeat (first | refine blk_drewN ?_ _ | refine blk_drew ?_ | refine blk_alloc ?_ _)); refine blk_far ?_ NB337_339.out _; (with_reducible repeat (first | refine blk_drewN ?_ _ | refine blk_drew ?_ | refine blk_alloc ?_ _)); refine blk_far ?_ NB337_339.out _; (with_reducible repeat (first | refine blk_drewN ?_ _ | refine blk_drew ?_ | refine blk_alloc ?_ _)); refine blk_far ?_ NB337_339.out _; (with_reducible repeat (first | refine blk_drewN ?_ _ | refine blk_drew ?_ | refine blk_alloc ?_ _)); refine blk_far ?_ NB337_339.out _; (with_reducible repeat (first | refine blk_drewN ?_ _ | refine blk_drew ?_ | refine blk_alloc ?_ _)); refine blk_far ?_ NB337_339.out _; (with_reducible repeat (first | refine blk_drewN ?_ _ | refine blk_drew ?_ | refine blk_alloc ?_ _)); refine blk_far ?_ NB337_339.out _; (with_reducible repeat (first | refine blk_drewN ?_ _ | refine blk_drew ?_ | refine blk_alloc ?_ _)); refine blk_far ?_ NB337_339.out _; (with_reducible repeat (first | refine blk_drewN ?_ _ | refine blk_drew ?_ | refine blk_alloc ?_ _)); refine blk_far ?_ NB337_339.out _; (with_reducible repeat (first | refine blk_drewN ?_ _ | refine blk_drew ?_ | refine blk_alloc ?_ _)); refine blk_far ?_ NB337_339.out _; (with_reducible repeat (first | refine blk_drewN ?_ _ | refine blk_drew ?_ | refine blk_alloc ?_ _)); refine blk_far ?_ NB337_339.out _; (with_reducible repeat (first | refine blk_drewN ?_ _ | refine blk_drew ?_ | refine blk_alloc ?_ _)); refine blk_far ?_ NB337_339.out _; (with_reducible repeat (first | refine blk_drewN ?_ _ | refine blk_drew ?_ | refine blk_alloc ?_ _)); refine blk_far ?_ NB337_339.out _; (with_reducible repeat (first | refine blk_drewN ?_ _ | refine blk_drew ?_ | refine blk_alloc ?_ _)); refine blk_far ?_ NB337_339.out _; (with_reducible repeat (first | refine blk_drewN ?_ _ | refine blk_drew ?_ | refine blk_alloc ?_ _)); refine blk_far ?_ NB337_339.out _; (with_reducible repeat (first | refine blk_drewN ?_ _ | refine blk_drew ?_ | refine blk_alloc ?_ _)); refine blk_far ?_ NB337_339.out _; (with_reducible repeat (first | refine blk_drewN ?_ _ | refine blk_drew ?_ | refine blk_alloc ?_ _)); refine blk_far ?_ NB337_339.out _; (with_reducible repeat (first | refine blk_drewN ?_ _ | refine blk_drew ?_ | refine blk_alloc ?_ _)); refine blk_far ?_ NB337_339.out _; (with_reducible repeat (first | refine blk_drewN ?_ _ | refine blk_drew ?_ | refine blk_alloc ?_ _)); refine blk_far ?_ NB337_339.out _; (with_reducible repeat (first | refine blk_drewN ?_ _ | refine blk_drew ?_ | refine blk_alloc ?_ _)); refine blk_far ?_ NB337_339.out _; (with_reducible repeat (first | refine blk_drewN ?_ _ | refine blk_drew ?_ | refine blk_alloc ?_ _)); refine blk_far ?_ NB337_339.out _; (with_reducible repeat (first | refine blk_drewN ?_ _ | refine blk_drew ?_ | refine blk_alloc ?_ _)); refine blk_far ?_ NB337_339.out _; (with_reducible repeat (first | refine blk_drewN ?_ _ | refine blk_drew ?_ | refine blk_alloc ?_ _)); refine blk_far ?_ NB337_339.out _; (with_reducible repeat (first | refine blk_drewN ?_ _ | refine blk_drew ?_ | refine blk_alloc ?_ _)); refine blk_far ?_ NB337_339.out _; (with_reducible repeat (first | refine blk_drewN ?_ _ | refine blk_drew ?_ | refine blk_alloc ?_ _)); refine blk_far ?_ NB337_339.out _; (with_reducible repeat (first | refine blk_drewN ?_ _ | refine blk_drew ?_ | refine blk_alloc ?_ _)); exact BK337.out) : P := h
theorem z12_1 {P : Prop} (h : P := by repeat (first | (with_reducible first | exact HB.out | apply below_alloc | apply pw_below_drewN | apply below_drew1 | refine below_set ?_ GE337.out | refine below_set ?_ GE339.out) | exact HB.out)) : P := h
theorem z12_2 {P : Prop} (h : P := by (with_reducible repeat (first | refine blk_drewN ?_ _ | refine blk_drew ?_ | refine blk_alloc ?_ _)); with_reducible exact BK339.out) : P := h
theorem z12_3 {P : Prop} (h : P := by apply blk_fin; (focus ((with_reducible repeat (first | apply blk_putQ | refine blk_drewN ?_ _ | refine blk_drew ?_ | refine blk_alloc ?_ _)); exact BK339.out)); first | (simp only [List.setIfInBounds_toArray, List.set_cons_zero, List.set_cons_succ]; done) | rfl) : P := h
theorem z12_4 {P : Prop} (h : P := by (with_reducible repeat (first | refine blk_drewN ?_ _ | refine blk_drew ?_ | refine blk_alloc ?_ _)); exact BK337.out) : P := h
theorem z12_5 {P : Prop} (h : P := by repeat (first | exact (Kd.C_below HR0_0.out HB.out) | (with_reducible refine Kd.C_alloc ?_ _) | (with_reducible refine Kd.C_drewN ?_ _) | (with_reducible refine Kd.C_drew ?_))) : P := h
theorem z12_6 {P : Prop} (h : P := by (try simp only [List.map_toArray, List.map_cons, List.map_nil]); first | done | rfl | (simp only [List.length_drop, List.length_take]; rfl)) : P := h
theorem z12_7 {P : Prop} (h : P := by (with_reducible repeat (first | refine blk_drewN ?_ _ | refine blk_drew ?_ | refine blk_alloc ?_ _)); exact BK339.out) : P := h
theorem z12_8 {P : Prop} (h : P := by repeat (first | (with_reducible first | exact HB.out | apply below_alloc | apply pw_below_drewN | apply below_drew1) | exact HB.out)) : P := h
theorem z12_9 {P : Prop} (h : P := by repeat (first | (with_reducible first | exact HB.out | apply below_alloc | apply pw_below_drewN | apply below_drew1 | refine below_set ?_ GE337.out) | exact HB.out)) : P := h
theorem z12_10 {P : Prop} (h : P := by first | rfl | (simp [errW_none, errW_some] <;> rfl) | (simp [*, errW_none, errW_some] <;> rfl)) : P := h
/-! ### spec_SceneOk: function 48 -/
mutual
def spec_SceneOk.l0 : Nat → Int → List (S56) → Option (Bool)
 | 0, _, _ => none
 | k + 1, x3, x338000 => if x3 < (x338000.length : Int) then (if 0 ≤ x3 then ((spec_NodeOk.f k ((rd_T56 x338000 x3).f0) ((rd_T56 x338000 x3).f1) ((rd_T56 x338000 x3).f2) ((rd_T56 x338000 x3).f3.f0) ((rd_T56 x338000 x3).f3.f1) ((rd_T56 x338000 x3).f3.f2) ((rd_T56 x338000 x3).f3.f3) ((rd_T56 x338000 x3).f3.f4) ((rd_T56 x338000 x3).f3.f5) ((rd_T56 x338000 x3).f4.f0) ((rd_T56 x338000 x3).f4.f1) ((rd_T56 x338000 x3).f5) ((rd_T56 x338000 x3).f6) ((rd_T56 x338000 x3).f7) ((rd_T56 x338000 x3).f8.f0) ((rd_T56 x338000 x3).f8.f1.f0) ((rd_T56 x338000 x3).f8.f1.f1) ((rd_T56 x338000 x3).f8.f1.f2) ((rd_T56 x338000 x3).f8.f1.f3) ((rd_T56 x338000 x3).f8.f2.f0) ((rd_T56 x338000 x3).f8.f2.f1) ((rd_T56 x338000 x3).f8.f2.f2) ((rd_T56 x338000 x3).f8.f2.f3) ((rd_T56 x338000 x3).f8.f3.f0) ((rd_T56 x338000 x3).f8.f3.f1) ((rd_T56 x338000 x3).f8.f4.f0) ((rd_T56 x338000 x3).f8.f4.f1) ((rd_T56 x338000 x3).f9) ((rd_T56 x338000 x3).f10) ((rd_T56 x338000 x3).f11.f0) ((rd_T56 x338000 x3).f11.f1)).bind fun t340 => (if t340 = true then ((spec_NodeAt.f k x338000 ((rd_T56 x338000 x3).f0)).bind fun t341 => (if t341 = x3 then ((spec_DepthOf.f k x338000 ((rd_T56 x338000 x3).f0)).bind fun t342 => ((spec_l01In.f t342 1 4).bind fun t343 => (spec_SceneOk.j1 k x3 (!t343) x338000 ((rd_T56 x338000 x3).f0) ((rd_T56 x338000 x3).f1) ((rd_T56 x338000 x3).f2) ((rd_T56 x338000 x3).f3.f0) ((rd_T56 x338000 x3).f3.f1) ((rd_T56 x338000 x3).f3.f2) ((rd_T56 x338000 x3).f3.f3) ((rd_T56 x338000 x3).f3.f4) ((rd_T56 x338000 x3).f3.f5) ((rd_T56 x338000 x3).f4.f0) ((rd_T56 x338000 x3).f4.f1) ((rd_T56 x338000 x3).f5) ((rd_T56 x338000 x3).f6) ((rd_T56 x338000 x3).f7) ((rd_T56 x338000 x3).f8.f0) ((rd_T56 x338000 x3).f8.f1.f0) ((rd_T56 x338000 x3).f8.f1.f1) ((rd_T56 x338000 x3).f8.f1.f2) ((rd_T56 x338000 x3).f8.f1.f3) ((rd_T56 x338000 x3).f8.f2.f0) ((rd_T56 x338000 x3).f8.f2.f1) ((rd_T56 x338000 x3).f8.f2.f2) ((rd_T56 x338000 x3).f8.f2.f3) ((rd_T56 x338000 x3).f8.f3.f0) ((rd_T56 x338000 x3).f8.f3.f1) ((rd_T56 x338000 x3).f8.f4.f0) ((rd_T56 x338000 x3).f8.f4.f1) ((rd_T56 x338000 x3).f9) ((rd_T56 x338000 x3).f10) ((rd_T56 x338000 x3).f11.f0) ((rd_T56 x338000 x3).f11.f1)))) else (spec_SceneOk.j1 k x3 true x338000 ((rd_T56 x338000 x3).f0) ((rd_T56 x338000 x3).f1) ((rd_T56 x338000 x3).f2) ((rd_T56 x338000 x3).f3.f0) ((rd_T56 x338000 x3).f3.f1) ((rd_T56 x338000 x3).f3.f2) ((rd_T56 x338000 x3).f3.f3) ((rd_T56 x338000 x3).f3.f4) ((rd_T56 x338000 x3).f3.f5) ((rd_T56 x338000 x3).f4.f0) ((rd_T56 x338000 x3).f4.f1) ((rd_T56 x338000 x3).f5) ((rd_T56 x338000 x3).f6) ((rd_T56 x338000 x3).f7) ((rd_T56 x338000 x3).f8.f0) ((rd_T56 x338000 x3).f8.f1.f0) ((rd_T56 x338000 x3).f8.f1.f1) ((rd_T56 x338000 x3).f8.f1.f2) ((rd_T56 x338000 x3).f8.f1.f3) ((rd_T56 x338000 x3).f8.f2.f0) ((rd_T56 x338000 x3).f8.f2.f1) ((rd_T56 x338000 x3).f8.f2.f2) ((rd_T56 x338000 x3).f8.f2.f3) ((rd_T56 x338000 x3).f8.f3.f0) ((rd_T56 x338000 x3).f8.f3.f1) ((rd_T56 x338000 x3).f8.f4.f0) ((rd_T56 x338000 x3).f8.f4.f1) ((rd_T56 x338000 x3).f9) ((rd_T56 x338000 x3).f10) ((rd_T56 x338000 x3).f11.f0) ((rd_T56 x338000 x3).f11.f1)))) else (spec_SceneOk.j1 k x3 true x338000 ((rd_T56 x338000 x3).f0) ((rd_T56 x338000 x3).f1) ((rd_T56 x338000 x3).f2) ((rd_T56 x338000 x3).f3.f0) ((rd_T56 x338000 x3).f3.f1) ((rd_T56 x338000 x3).f3.f2) ((rd_T56 x338000 x3).f3.f3) ((rd_T56 x338000 x3).f3.f4) ((rd_T56 x338000 x3).f3.f5) ((rd_T56 x338000 x3).f4.f0) ((rd_T56 x338000 x3).f4.f1) ((rd_T56 x338000 x3).f5) ((rd_T56 x338000 x3).f6) ((rd_T56 x338000 x3).f7) ((rd_T56 x338000 x3).f8.f0) ((rd_T56 x338000 x3).f8.f1.f0) ((rd_T56 x338000 x3).f8.f1.f1) ((rd_T56 x338000 x3).f8.f1.f2) ((rd_T56 x338000 x3).f8.f1.f3) ((rd_T56 x338000 x3).f8.f2.f0) ((rd_T56 x338000 x3).f8.f2.f1) ((rd_T56 x338000 x3).f8.f2.f2) ((rd_T56 x338000 x3).f8.f2.f3) ((rd_T56 x338000 x3).f8.f3.f0) ((rd_T56 x338000 x3).f8.f3.f1) ((rd_T56 x338000 x3).f8.f4.f0) ((rd_T56 x338000 x3).f8.f4.f1) ((rd_T56 x338000 x3).f9) ((rd_T56 x338000 x3).f10) ((rd_T56 x338000 x3).f11.f0) ((rd_T56 x338000 x3).f11.f1)))) else (none)) else (some true)
def spec_SceneOk.j1 : Nat → Int → Bool → List (S56) → Int → Int → Bool → Int → Int → Int → Int → Int → Int → List Int → List (S52) → Bool → Int → List Int → Int → Int → Int → Int → Int → Int → Int → Int → Int → Int → Int → Int → Int → Int → Int → List Int → List (S52) → Option (Bool)
 | 0, _, _, _, _, _, _, _, _, _, _, _, _, _, _, _, _, _, _, _, _, _, _, _, _, _, _, _, _, _, _, _, _, _, _ => none
 | k + 1, x3, x40, x338000, x340000, x340001, x340002, x340003, x340004, x340005, x340006, x340007, x340008, x340009, x340010, x340011, x340012, x340013, x340014, x340015, x340016, x340017, x340018, x340019, x340020, x340021, x340022, x340023, x340024, x340025, x340026, x340027, x340028, x340029, x340030 => if x40 = true then (some false) else ((spec_NodeAt.f k x338000 x340001).bind fun t344 => (if x340001 = 0 then (spec_SceneOk.l0 k (wrap64 (x3 + 1)) x338000) else (if t344 < 0 then (some false) else (if 0 ≤ t344 then (if t344 < (x338000.length : Int) then (if ((rd_T56 x338000 t344).f2 = true) then (spec_SceneOk.l0 k (wrap64 (x3 + 1)) x338000) else (some false)) else (none)) else (none)))))
end
def spec_SceneOk.f (k : Nat) (l0_0 : List (S56)) : Option (Bool) := if (l0_0.length : Int) > 8 then (some false) else (spec_SceneOk.l0 k 0 l0_0)
theorem spec_SceneOk.mono_l : ∀ k, (∀ y0 y1, LeO (spec_SceneOk.l0 k y0 y1) (spec_SceneOk.l0 (k + 1) y0 y1)) ∧ (∀ y0 y1 y2 y3 y4 y5 y6 y7 y8 y9 y10 y11 y12 y13 y14 y15 y16 y17 y18 y19 y20 y21 y22 y23 y24 y25 y26 y27 y28 y29 y30 y31 y32 y33, LeO (spec_SceneOk.j1 k y0 y1 y2 y3 y4 y5 y6 y7 y8 y9 y10 y11 y12 y13 y14 y15 y16 y17 y18 y19 y20 y21 y22 y23 y24 y25 y26 y27 y28 y29 y30 y31 y32 y33) (spec_SceneOk.j1 (k + 1) y0 y1 y2 y3 y4 y5 y6 y7 y8 y9 y10 y11 y12 y13 y14 y15 y16 y17 y18 y19 y20 y21 y22 y23 y24 y25 y26 y27 y28 y29 y30 y31 y32 y33))
 | 0 => ⟨fun _ _ r h => by simp [spec_SceneOk.l0] at h, fun _ _ _ _ _ _ _ _ _ _ _ _ _ _ _ _ _ _ _ _ _ _ _ _ _ _ _ _ _ _ _ _ _ _ r h => by simp [spec_SceneOk.j1] at h⟩
 | k + 1 => by
  obtain ⟨ih0, ih1⟩ := spec_SceneOk.mono_l k
  refine ⟨?_, ?_⟩
  ·intro y0 y1
   unfold spec_SceneOk.l0
   repeat' first
   | (with_reducible exact ih0 _ _)
   | (with_reducible exact ih1 _ _ _ _ _ _ _ _ _ _ _ _ _ _ _ _ _ _ _ _ _ _ _ _ _ _ _ _ _ _ _ _ _ _)
   | (with_reducible exact spec_DepthOf.mono _ _ _)
   | (with_reducible exact spec_NodeAt.mono _ _ _)
   | (with_reducible exact spec_NodeOk.mono _ _ _ _ _ _ _ _ _ _ _ _ _ _ _ _ _ _ _ _ _ _ _ _ _ _ _ _ _ _ _ _)
   | (with_reducible exact LeO.refl _)
   | (with_reducible exact LeO.none _)
   | (with_reducible refine LeO.ite ?_ ?_)
   | (with_reducible refine LeO.bind ?_ (fun _ => ?_))
   | exact ih0 _ _
   | exact ih1 _ _ _ _ _ _ _ _ _ _ _ _ _ _ _ _ _ _ _ _ _ _ _ _ _ _ _ _ _ _ _ _ _ _
   | exact spec_DepthOf.mono _ _ _
   | exact spec_NodeAt.mono _ _ _
   | exact spec_NodeOk.mono _ _ _ _ _ _ _ _ _ _ _ _ _ _ _ _ _ _ _ _ _ _ _ _ _ _ _ _ _ _ _ _
   | exact LeO.none _
   | refine LeO.ite ?_ ?_
   | refine LeO.bind ?_ (fun _ => ?_)
  ·intro y0 y1 y2 y3 y4 y5 y6 y7 y8 y9 y10 y11 y12 y13 y14 y15 y16 y17 y18 y19 y20 y21 y22 y23 y24 y25 y26 y27 y28 y29 y30 y31 y32 y33
   unfold spec_SceneOk.j1
   repeat' first
   | (with_reducible exact ih0 _ _)
   | (with_reducible exact ih1 _ _ _ _ _ _ _ _ _ _ _ _ _ _ _ _ _ _ _ _ _ _ _ _ _ _ _ _ _ _ _ _ _ _)
   | (with_reducible exact spec_DepthOf.mono _ _ _)
   | (with_reducible exact spec_NodeAt.mono _ _ _)
   | (with_reducible exact spec_NodeOk.mono _ _ _ _ _ _ _ _ _ _ _ _ _ _ _ _ _ _ _ _ _ _ _ _ _ _ _ _ _ _ _ _)
   | (with_reducible exact LeO.refl _)
   | (with_reducible exact LeO.none _)
   | (with_reducible refine LeO.ite ?_ ?_)
   | (with_reducible refine LeO.bind ?_ (fun _ => ?_))
   | exact ih0 _ _
   | exact ih1 _ _ _ _ _ _ _ _ _ _ _ _ _ _ _ _ _ _ _ _ _ _ _ _ _ _ _ _ _ _ _ _ _ _
   | exact spec_DepthOf.mono _ _ _
   | exact spec_NodeAt.mono _ _ _
   | exact spec_NodeOk.mono _ _ _ _ _ _ _ _ _ _ _ _ _ _ _ _ _ _ _ _ _ _ _ _ _ _ _ _ _ _ _ _
   | exact LeO.none _
   | refine LeO.ite ?_ ?_
   | refine LeO.bind ?_ (fun _ => ?_)
theorem spec_SceneOk.mono : ∀ a0 k, LeO (spec_SceneOk.f k a0) (spec_SceneOk.f (k + 1) a0) := by
 intro a0 k
 obtain ⟨ih0, ih1⟩ := spec_SceneOk.mono_l k
 unfold spec_SceneOk.f
 repeat' first
   | (with_reducible exact ih0 _ _)
   | (with_reducible exact ih1 _ _ _ _ _ _ _ _ _ _ _ _ _ _ _ _ _ _ _ _ _ _ _ _ _ _ _ _ _ _ _ _ _ _)
   | (with_reducible exact spec_DepthOf.mono _ _ _)
   | (with_reducible exact spec_NodeAt.mono _ _ _)
   | (with_reducible exact spec_NodeOk.mono _ _ _ _ _ _ _ _ _ _ _ _ _ _ _ _ _ _ _ _ _ _ _ _ _ _ _ _ _ _ _ _)
   | (with_reducible exact LeO.refl _)
   | (with_reducible exact LeO.none _)
   | (with_reducible refine LeO.ite ?_ ?_)
   | (with_reducible refine LeO.bind ?_ (fun _ => ?_))
   | exact ih0 _ _
   | exact ih1 _ _ _ _ _ _ _ _ _ _ _ _ _ _ _ _ _ _ _ _ _ _ _ _ _ _ _ _ _ _ _ _ _ _
   | exact spec_DepthOf.mono _ _ _
   | exact spec_NodeAt.mono _ _ _
   | exact spec_NodeOk.mono _ _ _ _ _ _ _ _ _ _ _ _ _ _ _ _ _ _ _ _ _ _ _ _ _ _ _ _ _ _ _ _
   | exact LeO.none _
   | refine LeO.ite ?_ ?_
   | refine LeO.bind ?_ (fun _ => ?_)
set_option maxHeartbeats 8000000 in
set_option maxRecDepth 100000 in
theorem spec_SceneOk.calls (k : Nat) (A0_0 : Option Addr) (c0_0 : Nat) (l0_0 : List (S56)) (r : Bool) (w : World) (hr0_0 : Kd.C k56 w A0_0 l0_0.length l0_0) (hc0_0 : l0_0.length ≤ c0_0) (h : spec_SceneOk.f k l0_0 = some r) :
  Calls Try.prog 48 #[.agg #[.slice A0_0 l0_0.length c0_0]] w fun e w' => e = .returned (.bool r) ∧ Below w.heap.size w w' := by
 have hu83 := Try.underlying83
 have hu56 := Try.underlying56
 have HR0_0 := Aside0.mk hr0_0
 have HC0_0 := Aside0.mk hc0_0
 clear hr0_0 hc0_0
 have HB := Aside0.mk (Below.refl w.heap.size w)
 have H : (if (l0_0.length : Int) > 8 then (some false) else (spec_SceneOk.l0 k 0 l0_0)) = some r := h
 clear h
 by_cases c2 : (l0_0.length : Int) > 8
 ·rw [if_pos c2] at H
  have c2b0 : decide (8 < (l0_0.length : Int)) = true := decide_eq_true c2
  have c2b1 : decide (8 < l0_0.length) = true := decide_eq_true (by omega)
  clear c2
  obtain rfl := Option.some.inj H
  simp only [Option.some.injEq, Prod.mk.injEq] at H
  obtain ⟨rfl⟩ := H
  go_enter Try.func48, Try.ntmps48
  go_wp2_with (first | ((with_reducible refine gate_dst (N := 1) rfl ?_); refine boxz (cs := #[.slice A0_0 l0_0.length c0_0]) (t := 83) rfl ?_; intro gb337 hg w3 hbox hb; have n0_ := Aside0.mk (below_step z12_8 hb); have n1_ := Aside0.mk (hbox); have n2_ := Aside0.mk (ge_go (a := w.heap.size) hg (below_size z12_8)); have n3_ := Aside0.mk (ge_go (a := w.heap.size) hg (below_size z12_8)); clear HB; have HB := n0_; have BK337 := n1_; have GW337 := n2_; have GE337 := n3_; clear n0_ n1_ n2_ n3_; clear hb hbox hg; obtain ⟨_, _⟩ := be_1 BK337.out))
  go_ret
  exact ⟨z12_10, z12_9⟩
 ·rw [if_neg c2] at H
  have c2b0 : decide (8 < (l0_0.length : Int)) = false := decide_eq_false c2
  have c2b1 : decide (8 < l0_0.length) = false := decide_eq_false (by omega)
  clear c2
  have H' := Aside0.mk H
  clear H
  go_enter Try.func48, Try.ntmps48
  go_wp2_with (first | ((with_reducible refine gate_dst (N := 1) rfl ?_); refine boxz (cs := #[.slice A0_0 l0_0.length c0_0]) (t := 83) rfl ?_; intro gb337 hg w5 hbox hb; have n0_ := Aside0.mk (below_step z12_8 hb); have n1_ := Aside0.mk (hbox); have n2_ := Aside0.mk (ge_go (a := w.heap.size) hg (below_size z12_8)); have n3_ := Aside0.mk (ge_go (a := w.heap.size) hg (below_size z12_8)); clear HB; have HB := n0_; have BK337 := n1_; have GW337 := n2_; have GE337 := n3_; clear n0_ n1_ n2_ n3_; clear hb hbox hg; obtain ⟨_, _⟩ := be_1 BK337.out))
  go_loopg [3] k (fun kq v3 w' => ∃ (x3_1 : Int), v3 = .int .i64 x3_1 ∧ Aside0 (spec_SceneOk.l0 kq x3_1 l0_0 = some r) ∧ Aside0 (kq ≤ k) ∧ Aside0 (w'.heap[gb337]? = some (.cells #[(.slice A0_0 l0_0.length c0_0)] 83 (0, 0))) ∧ Aside0 (Below w.heap.size w w'))
  case atStart => exact ⟨(0), (by first | rfl | (simp; done) | (simp [*]; done)), H', ⟨Nat.le_refl _⟩, ⟨by (with_reducible repeat (first | refine blk_drewN ?_ _ | refine blk_drew ?_ | refine blk_alloc ?_ _)); exact BK337.out⟩, ⟨by repeat (first | (with_reducible first | exact HB.out | apply below_alloc | apply pw_below_drewN | apply below_drew1 | refine below_set ?_ GE337.out) | exact HB.out)⟩⟩
  case round =>
   clear H'
   try clear c2
   try clear c2b0
   try clear c2b1
   try clear p2
   try clear c4
   try clear hcz4_0
   try clear hcz6_0
   try clear hfz4_0
   try clear hfz6_0
   obtain ⟨x3_1, rfl, HA, HK1, BK337, HB⟩ := hrel
   cases gk with
   | zero => exact absurd HA.out (by simp [spec_SceneOk.l0])
   | succ k1 =>
    have H := HA.out; clear HA
    simp only [spec_SceneOk.l0] at H
    by_cases c7 : x3_1 < (l0_0.length : Int)
    ·rw [if_pos c7] at H
     have c7b0 : decide (x3_1 < (l0_0.length : Int)) = true := decide_eq_true c7
     clear c7
     by_cases c8 : 0 ≤ x3_1
     ·rw [if_pos c8] at H
      have c8b0 : decide (0 ≤ x3_1) = true := decide_eq_true c8
      clear c8
      have HC9 := Aside0.mk H
      clear H
      obtain ⟨_, _⟩ := be_1 BK337.out
      have p338 : 0 ≤ (x3_1 : Int) := of_decide_eq_true (by first | (with_reducible assumption) | assumption)
      have q338 : x3_1 < (l0_0.length : Int) := of_decide_eq_true (by first | (with_reducible assumption) | assumption)
      obtain ⟨ad338, A338_9, c338_9, A338_10, c338_10, A338_13, c338_13, A338_29, c338_29, A338_30, c338_30, e338, hx338_0, hx338_1, hx338_2, hx338_3, hx338_4, hx338_5, hx338_6, hx338_7, hx338_8, hx338_9, hx338_10, hx338_11, hx338_12, hx338_13, hx338_14, hx338_15, hx338_16, hx338_17, hx338_18, hx338_19, hx338_20, hx338_21, hx338_22, hx338_23, hx338_24, hx338_25, hx338_26, hx338_27, hx338_28, hx338_29, hx338_30, hl338_9, hi338_9, hl338_10, hi338_10, hl338_13, hi338_13, hl338_29, hi338_29, hl338_30, hi338_30⟩ := at_T56 HR0_0.out x3_1 p338 q338
      have hM338 := lie_zero hx338_0 (lie_n hx338_1 (lie_n hx338_2 (lie_n hx338_3 (lie_n hx338_4 (lie_n hx338_5 (lie_n hx338_6 (lie_n hx338_7 (lie_n hx338_8 (lie_n hx338_9 (lie_n hx338_10 (lie_n hx338_11 (lie_n hx338_12 (lie_n hx338_13 (lie_n hx338_14 (lie_n hx338_15 (lie_n hx338_16 (lie_n hx338_17 (lie_n hx338_18 (lie_n hx338_19 (lie_n hx338_20 (lie_n hx338_21 (lie_n hx338_22 (lie_n hx338_23 (lie_n hx338_24 (lie_n hx338_25 (lie_n hx338_26 (lie_n hx338_27 (lie_n hx338_28 (lie_n hx338_29 (lie_n hx338_30 (lie_nil _ _ _)))))))))))))))))))))))))))))))
      cases e338
      replace hx338_0 := cell_go HB hx338_0
      replace hx338_1 := cell_go HB hx338_1
      replace hx338_2 := cell_go HB hx338_2
      replace hx338_3 := cell_go HB hx338_3
      replace hx338_4 := cell_go HB hx338_4
      replace hx338_5 := cell_go HB hx338_5
      replace hx338_6 := cell_go HB hx338_6
      replace hx338_7 := cell_go HB hx338_7
      replace hx338_8 := cell_go HB hx338_8
      replace hx338_9 := cell_go HB hx338_9
      replace hx338_10 := cell_go HB hx338_10
      replace hx338_11 := cell_go HB hx338_11
      replace hx338_12 := cell_go HB hx338_12
      replace hx338_13 := cell_go HB hx338_13
      replace hx338_14 := cell_go HB hx338_14
      replace hx338_15 := cell_go HB hx338_15
      replace hx338_16 := cell_go HB hx338_16
      replace hx338_17 := cell_go HB hx338_17
      replace hx338_18 := cell_go HB hx338_18
      replace hx338_19 := cell_go HB hx338_19
      replace hx338_20 := cell_go HB hx338_20
      replace hx338_21 := cell_go HB hx338_21
      replace hx338_22 := cell_go HB hx338_22
      replace hx338_23 := cell_go HB hx338_23
      replace hx338_24 := cell_go HB hx338_24
      replace hx338_25 := cell_go HB hx338_25
      replace hx338_26 := cell_go HB hx338_26
      replace hx338_27 := cell_go HB hx338_27
      replace hx338_28 := cell_go HB hx338_28
      replace hx338_29 := cell_go HB hx338_29
      replace hx338_30 := cell_go HB hx338_30
      have HR338_9 := Aside0.mk hi338_9
      have HC338_9 := Aside0.mk hl338_9
      clear hi338_9 hl338_9
      have HR338_10 := Aside0.mk hi338_10
      have HC338_10 := Aside0.mk hl338_10
      clear hi338_10 hl338_10
      have HR338_13 := Aside0.mk hi338_13
      have HC338_13 := Aside0.mk hl338_13
      clear hi338_13 hl338_13
      have HR338_29 := Aside0.mk hi338_29
      have HC338_29 := Aside0.mk hl338_29
      clear hi338_29 hl338_29
      have HR338_30 := Aside0.mk hi338_30
      have HC338_30 := Aside0.mk hl338_30
      clear hi338_30 hl338_30
      replace p338 := eq_true p338
      replace q338 := eq_true q338
      go_upto_region 7 with (first | ((with_reducible refine gate_load (t := 56) rfl ?_); refine load_lie (t := 56) rfl rfl hM338 HB (by with_reducible rfl) rfl Try.underlying56 rfl (show (Try.prog.info? 56).map (·.size) = some 31 by kernel_rfl) rfl ?_) | ((with_reducible refine gate_load (t := 56) rfl ?_); refine load_lie0 (t := 56) rfl rfl hM338 (by with_reducible rfl) rfl Try.underlying56 rfl (show (Try.prog.info? 56).map (·.size) = some 31 by kernel_rfl) rfl ?_) | ((with_reducible refine gate_dst (N := 4) rfl ?_); refine boxz (cs := #[.int .i64 0, .int .i64 0, .bool false, .int .i64 0, .int .i64 0, .int .i64 0, .int .i64 0, .int .i64 0, .int .i64 0, .slice none 0 0, .slice none 0 0, .bool false, .int .i64 0, .slice none 0 0, .int .i64 0, .int .i64 0, .int .i64 0, .int .i64 0, .int .i64 0, .int .i64 0, .int .i64 0, .int .i64 0, .int .i64 0, .int .i64 0, .int .i64 0, .int .i64 0, .int .i64 0, .int .i64 0, .int .i64 0, .slice none 0 0, .slice none 0 0]) (t := 56) rfl ?_; intro gb339 hg w11 hbox hb; have n0_ := Aside0.mk (blk_belowB BK337 z12_4 hb); have n1_ := Aside0.mk (below_step z12_9 hb); have n2_ := Aside0.mk (hbox); have n3_ := Aside0.mk (ge_go (a := w.heap.size) hg (below_size z12_9)); have n4_ := Aside0.mk (ge_go (a := w.heap.size) hg (below_size z12_9)); have n5_ := Aside0.mk (nb_lt hg (blk_ltB BK337 z12_4)); have n6_ := Aside0.mk (nb_gt hg (blk_ltB BK337 z12_4)); clear BK337; clear HB; have BK337 := n0_; have HB := n1_; have BK339 := n2_; have GW339 := n3_; have GE339 := n4_; have NB337_339 := n5_; have NB339_337 := n6_; clear n0_ n1_ n2_ n3_ n4_ n5_ n6_; clear hb hbox hg; have hnb12 := NB339_337.out; have hnc12 := NB337_339.out; obtain ⟨_, _, _, _, _, _, _, _, _, _, _, _, _, _, _, _, _, _, _, _, _, _, _, _, _, _, _, _, _, _, _, _, _, _, _, _, _, _, _, _, _, _, _, _, _, _, _, _, _, _, _, _, _, _, _, _, _, _, _, _, _, _⟩ := be_31 BK339.out) | ((with_reducible refine gate_load (t := 56) rfl ?_); refine load_blk (t := 56) rfl rfl BK339 rfl z12_2 Try.underlying56 rfl (show (Try.prog.info? 56).map (·.size) = some 31 by kernel_rfl) rfl ?_) | ((with_reducible refine gate_store (t := 56) rfl ?_); refine wstore_blk (t := 56) rfl rfl BK339 rfl rfl z12_2 rfl (show (Try.prog.info? 56).map (·.size) = some 31 by kernel_rfl) rfl ?_; simp only [World.setCells, Nat.reduceAdd]))
      (try simp only [Act.put, List.setIfInBounds_toArray, List.set_cons_zero, List.set_cons_succ])
      go_cut [40] (fun v40 wc => ∃ (kq : Nat) (x40_8 : Bool), v40 = .bool x40_8 ∧ Aside0 (spec_SceneOk.j1 kq x3_1 x40_8 l0_0 ((rd_T56 l0_0 x3_1).f0) ((rd_T56 l0_0 x3_1).f1) ((rd_T56 l0_0 x3_1).f2) ((rd_T56 l0_0 x3_1).f3.f0) ((rd_T56 l0_0 x3_1).f3.f1) ((rd_T56 l0_0 x3_1).f3.f2) ((rd_T56 l0_0 x3_1).f3.f3) ((rd_T56 l0_0 x3_1).f3.f4) ((rd_T56 l0_0 x3_1).f3.f5) ((rd_T56 l0_0 x3_1).f4.f0) ((rd_T56 l0_0 x3_1).f4.f1) ((rd_T56 l0_0 x3_1).f5) ((rd_T56 l0_0 x3_1).f6) ((rd_T56 l0_0 x3_1).f7) ((rd_T56 l0_0 x3_1).f8.f0) ((rd_T56 l0_0 x3_1).f8.f1.f0) ((rd_T56 l0_0 x3_1).f8.f1.f1) ((rd_T56 l0_0 x3_1).f8.f1.f2) ((rd_T56 l0_0 x3_1).f8.f1.f3) ((rd_T56 l0_0 x3_1).f8.f2.f0) ((rd_T56 l0_0 x3_1).f8.f2.f1) ((rd_T56 l0_0 x3_1).f8.f2.f2) ((rd_T56 l0_0 x3_1).f8.f2.f3) ((rd_T56 l0_0 x3_1).f8.f3.f0) ((rd_T56 l0_0 x3_1).f8.f3.f1) ((rd_T56 l0_0 x3_1).f8.f4.f0) ((rd_T56 l0_0 x3_1).f8.f4.f1) ((rd_T56 l0_0 x3_1).f9) ((rd_T56 l0_0 x3_1).f10) ((rd_T56 l0_0 x3_1).f11.f0) ((rd_T56 l0_0 x3_1).f11.f1) = some r) ∧ Aside0 (kq ≤ k1) ∧ Aside0 (wc.heap[gb337]? = some (.cells #[(.slice (some ad338) l0_0.length c0_0)] 83 (0, 0))) ∧ Aside0 (wc.heap[gb339]? = some (.cells #[.int .i64 ((rd_T56 l0_0 x3_1).f0), .int .i64 ((rd_T56 l0_0 x3_1).f1), .bool ((rd_T56 l0_0 x3_1).f2), .int .i64 ((rd_T56 l0_0 x3_1).f3.f0), .int .i64 ((rd_T56 l0_0 x3_1).f3.f1), .int .i64 ((rd_T56 l0_0 x3_1).f3.f2), .int .i64 ((rd_T56 l0_0 x3_1).f3.f3), .int .i64 ((rd_T56 l0_0 x3_1).f3.f4), .int .i64 ((rd_T56 l0_0 x3_1).f3.f5), (.slice A338_9 ((rd_T56 l0_0 x3_1).f4.f0).length c338_9), (.slice A338_10 ((rd_T56 l0_0 x3_1).f4.f1).length c338_10), .bool ((rd_T56 l0_0 x3_1).f5), .int .i64 ((rd_T56 l0_0 x3_1).f6), (.slice A338_13 ((rd_T56 l0_0 x3_1).f7).length c338_13), .int .i64 ((rd_T56 l0_0 x3_1).f8.f0), .int .i64 ((rd_T56 l0_0 x3_1).f8.f1.f0), .int .i64 ((rd_T56 l0_0 x3_1).f8.f1.f1), .int .i64 ((rd_T56 l0_0 x3_1).f8.f1.f2), .int .i64 ((rd_T56 l0_0 x3_1).f8.f1.f3), .int .i64 ((rd_T56 l0_0 x3_1).f8.f2.f0), .int .i64 ((rd_T56 l0_0 x3_1).f8.f2.f1), .int .i64 ((rd_T56 l0_0 x3_1).f8.f2.f2), .int .i64 ((rd_T56 l0_0 x3_1).f8.f2.f3), .int .i64 ((rd_T56 l0_0 x3_1).f8.f3.f0), .int .i64 ((rd_T56 l0_0 x3_1).f8.f3.f1), .int .i64 ((rd_T56 l0_0 x3_1).f8.f4.f0), .int .i64 ((rd_T56 l0_0 x3_1).f8.f4.f1), .int .i64 ((rd_T56 l0_0 x3_1).f9), .int .i64 ((rd_T56 l0_0 x3_1).f10), (.slice A338_29 ((rd_T56 l0_0 x3_1).f11.f0).length c338_29), (.slice A338_30 ((rd_T56 l0_0 x3_1).f11.f1).length c338_30)] 56 (0, 0))) ∧ Aside0 (Below w.heap.size w wc))
      case first =>
       have H := HC9.out; clear HC9
       replace H := Option.bind_eq_some_iff.mp H
       obtain ⟨t340, A140, H⟩ := H
       try dsimp only at H
       have A14 := Aside0.mk A140
       clear A140
       by_cases c15 : t340 = true
       ·subst c15
        have H1 : ((spec_NodeAt.f k1 l0_0 ((rd_T56 l0_0 x3_1).f0)).bind fun t341 => (if t341 = x3_1 then ((spec_DepthOf.f k1 l0_0 ((rd_T56 l0_0 x3_1).f0)).bind fun t342 => ((spec_l01In.f t342 1 4).bind fun t343 => (spec_SceneOk.j1 k1 x3_1 (!t343) l0_0 ((rd_T56 l0_0 x3_1).f0) ((rd_T56 l0_0 x3_1).f1) ((rd_T56 l0_0 x3_1).f2) ((rd_T56 l0_0 x3_1).f3.f0) ((rd_T56 l0_0 x3_1).f3.f1) ((rd_T56 l0_0 x3_1).f3.f2) ((rd_T56 l0_0 x3_1).f3.f3) ((rd_T56 l0_0 x3_1).f3.f4) ((rd_T56 l0_0 x3_1).f3.f5) ((rd_T56 l0_0 x3_1).f4.f0) ((rd_T56 l0_0 x3_1).f4.f1) ((rd_T56 l0_0 x3_1).f5) ((rd_T56 l0_0 x3_1).f6) ((rd_T56 l0_0 x3_1).f7) ((rd_T56 l0_0 x3_1).f8.f0) ((rd_T56 l0_0 x3_1).f8.f1.f0) ((rd_T56 l0_0 x3_1).f8.f1.f1) ((rd_T56 l0_0 x3_1).f8.f1.f2) ((rd_T56 l0_0 x3_1).f8.f1.f3) ((rd_T56 l0_0 x3_1).f8.f2.f0) ((rd_T56 l0_0 x3_1).f8.f2.f1) ((rd_T56 l0_0 x3_1).f8.f2.f2) ((rd_T56 l0_0 x3_1).f8.f2.f3) ((rd_T56 l0_0 x3_1).f8.f3.f0) ((rd_T56 l0_0 x3_1).f8.f3.f1) ((rd_T56 l0_0 x3_1).f8.f4.f0) ((rd_T56 l0_0 x3_1).f8.f4.f1) ((rd_T56 l0_0 x3_1).f9) ((rd_T56 l0_0 x3_1).f10) ((rd_T56 l0_0 x3_1).f11.f0) ((rd_T56 l0_0 x3_1).f11.f1)))) else (spec_SceneOk.j1 k1 x3_1 true l0_0 ((rd_T56 l0_0 x3_1).f0) ((rd_T56 l0_0 x3_1).f1) ((rd_T56 l0_0 x3_1).f2) ((rd_T56 l0_0 x3_1).f3.f0) ((rd_T56 l0_0 x3_1).f3.f1) ((rd_T56 l0_0 x3_1).f3.f2) ((rd_T56 l0_0 x3_1).f3.f3) ((rd_T56 l0_0 x3_1).f3.f4) ((rd_T56 l0_0 x3_1).f3.f5) ((rd_T56 l0_0 x3_1).f4.f0) ((rd_T56 l0_0 x3_1).f4.f1) ((rd_T56 l0_0 x3_1).f5) ((rd_T56 l0_0 x3_1).f6) ((rd_T56 l0_0 x3_1).f7) ((rd_T56 l0_0 x3_1).f8.f0) ((rd_T56 l0_0 x3_1).f8.f1.f0) ((rd_T56 l0_0 x3_1).f8.f1.f1) ((rd_T56 l0_0 x3_1).f8.f1.f2) ((rd_T56 l0_0 x3_1).f8.f1.f3) ((rd_T56 l0_0 x3_1).f8.f2.f0) ((rd_T56 l0_0 x3_1).f8.f2.f1) ((rd_T56 l0_0 x3_1).f8.f2.f2) ((rd_T56 l0_0 x3_1).f8.f2.f3) ((rd_T56 l0_0 x3_1).f8.f3.f0) ((rd_T56 l0_0 x3_1).f8.f3.f1) ((rd_T56 l0_0 x3_1).f8.f4.f0) ((rd_T56 l0_0 x3_1).f8.f4.f1) ((rd_T56 l0_0 x3_1).f9) ((rd_T56 l0_0 x3_1).f10) ((rd_T56 l0_0 x3_1).f11.f0) ((rd_T56 l0_0 x3_1).f11.f1)))) = some r := by rw [if_pos rfl] at H; exact H
        clear H; have H := H1; clear H1
        replace H := Option.bind_eq_some_iff.mp H
        obtain ⟨t341, A160, H⟩ := H
        try dsimp only at H
        have A16 := Aside0.mk A160
        clear A160
        by_cases c17 : t341 = x3_1
        ·rw [if_pos c17] at H
         have c17b0 : (t341 == x3_1) = true := beq_iff_eq.mpr c17
         have c17b1 : (t341 != x3_1) = false := bne_eq_false_iff_eq.mpr c17
         clear c17
         (first | rw [c17b0] | (simp only [i64_w, i32_w]; rw [c17b0]) | skip)
         replace H := Option.bind_eq_some_iff.mp H
         obtain ⟨t342, A180, H⟩ := H
         try dsimp only at H
         have A18 := Aside0.mk A180
         clear A180
         replace H := Option.bind_eq_some_iff.mp H
         obtain ⟨t343, A190, H⟩ := H
         try dsimp only at H
         have A19 := Aside0.mk A190
         clear A190
         have H' := Aside0.mk H
         clear H; have hnb20 := NB339_337.out; have hnc20 := NB337_339.out
         obtain ⟨_, _, _, _, _, _, _, _, _, _, _, _, _, _, _, _, _, _, _, _, _, _, _, _, _, _, _, _, _, _, _, _, _, _, _, _, _, _, _, _, _, _, _, _, _, _, _, _, _, _, _, _, _, _, _, _, _, _, _, _, _, _⟩ := be_31 BK339.out
         go_wp2_with (first | ((with_reducible refine gate_load (t := 56) rfl ?_); refine load_lie (t := 56) rfl rfl hM338 HB (by with_reducible rfl) rfl Try.underlying56 rfl (show (Try.prog.info? 56).map (·.size) = some 31 by kernel_rfl) rfl ?_) | ((with_reducible refine gate_load (t := 56) rfl ?_); refine load_lie0 (t := 56) rfl rfl hM338 (by with_reducible rfl) rfl Try.underlying56 rfl (show (Try.prog.info? 56).map (·.size) = some 31 by kernel_rfl) rfl ?_) | ((with_reducible refine gate_callee (f := 20) rfl ?_); refine goesL_ (some 23) rfl rfl Try.func20 (by kernel_rfl) rfl #[.agg #[.int .i64 ((rd_T56 l0_0 x3_1).f0), .int .i64 ((rd_T56 l0_0 x3_1).f1), .bool ((rd_T56 l0_0 x3_1).f2), .int .i64 ((rd_T56 l0_0 x3_1).f3.f0), .int .i64 ((rd_T56 l0_0 x3_1).f3.f1), .int .i64 ((rd_T56 l0_0 x3_1).f3.f2), .int .i64 ((rd_T56 l0_0 x3_1).f3.f3), .int .i64 ((rd_T56 l0_0 x3_1).f3.f4), .int .i64 ((rd_T56 l0_0 x3_1).f3.f5), .slice A338_9 ((rd_T56 l0_0 x3_1).f4.f0).length c338_9, .slice A338_10 ((rd_T56 l0_0 x3_1).f4.f1).length c338_10, .bool ((rd_T56 l0_0 x3_1).f5), .int .i64 ((rd_T56 l0_0 x3_1).f6), .slice A338_13 ((rd_T56 l0_0 x3_1).f7).length c338_13, .int .i64 ((rd_T56 l0_0 x3_1).f8.f0), .int .i64 ((rd_T56 l0_0 x3_1).f8.f1.f0), .int .i64 ((rd_T56 l0_0 x3_1).f8.f1.f1), .int .i64 ((rd_T56 l0_0 x3_1).f8.f1.f2), .int .i64 ((rd_T56 l0_0 x3_1).f8.f1.f3), .int .i64 ((rd_T56 l0_0 x3_1).f8.f2.f0), .int .i64 ((rd_T56 l0_0 x3_1).f8.f2.f1), .int .i64 ((rd_T56 l0_0 x3_1).f8.f2.f2), .int .i64 ((rd_T56 l0_0 x3_1).f8.f2.f3), .int .i64 ((rd_T56 l0_0 x3_1).f8.f3.f0), .int .i64 ((rd_T56 l0_0 x3_1).f8.f3.f1), .int .i64 ((rd_T56 l0_0 x3_1).f8.f4.f0), .int .i64 ((rd_T56 l0_0 x3_1).f8.f4.f1), .int .i64 ((rd_T56 l0_0 x3_1).f9), .int .i64 ((rd_T56 l0_0 x3_1).f10), .slice A338_29 ((rd_T56 l0_0 x3_1).f11.f0).length c338_29, .slice A338_30 ((rd_T56 l0_0 x3_1).f11.f1).length c338_30]] rfl z12_6 ?_; (with_reducible refine (spec_NodeOk.calls k1 ((rd_T56 l0_0 x3_1).f0) ((rd_T56 l0_0 x3_1).f1) ((rd_T56 l0_0 x3_1).f2) ((rd_T56 l0_0 x3_1).f3.f0) ((rd_T56 l0_0 x3_1).f3.f1) ((rd_T56 l0_0 x3_1).f3.f2) ((rd_T56 l0_0 x3_1).f3.f3) ((rd_T56 l0_0 x3_1).f3.f4) ((rd_T56 l0_0 x3_1).f3.f5) _ _ ((rd_T56 l0_0 x3_1).f4.f0) _ _ ((rd_T56 l0_0 x3_1).f4.f1) ((rd_T56 l0_0 x3_1).f5) ((rd_T56 l0_0 x3_1).f6) _ _ ((rd_T56 l0_0 x3_1).f7) ((rd_T56 l0_0 x3_1).f8.f0) ((rd_T56 l0_0 x3_1).f8.f1.f0) ((rd_T56 l0_0 x3_1).f8.f1.f1) ((rd_T56 l0_0 x3_1).f8.f1.f2) ((rd_T56 l0_0 x3_1).f8.f1.f3) ((rd_T56 l0_0 x3_1).f8.f2.f0) ((rd_T56 l0_0 x3_1).f8.f2.f1) ((rd_T56 l0_0 x3_1).f8.f2.f2) ((rd_T56 l0_0 x3_1).f8.f2.f3) ((rd_T56 l0_0 x3_1).f8.f3.f0) ((rd_T56 l0_0 x3_1).f8.f3.f1) ((rd_T56 l0_0 x3_1).f8.f4.f0) ((rd_T56 l0_0 x3_1).f8.f4.f1) ((rd_T56 l0_0 x3_1).f9) ((rd_T56 l0_0 x3_1).f10) _ _ ((rd_T56 l0_0 x3_1).f11.f0) _ _ ((rd_T56 l0_0 x3_1).f11.f1) true _ ?side1 ?side2 ?side3 ?side4 ?side5 ?side6 ?side7 ?side8 ?side9 ?side10 A14.out).mono ?_); (case side1 => exact Kd.C_below HR338_9.out z12_1); (case side2 => exact HC338_9.out); (case side3 => exact Kd.C_below HR338_10.out z12_1); (case side4 => exact HC338_10.out); (case side5 => exact Kd.C_below HR338_13.out z12_1); (case side6 => exact HC338_13.out); (case side7 => exact Kd.C_below HR338_29.out z12_1); (case side8 => exact HC338_29.out); (case side9 => exact Kd.C_below HR338_30.out z12_1); (case side10 => exact HC338_30.out); rintro e w22 ⟨rfl, hb⟩; refine ⟨_, rfl, ?_⟩; have n0_ := Aside0.mk (blk_belowB BK337 z12_0 hb); have n1_ := Aside0.mk (blk_below (g := gb339) (o := .cells #[.int .i64 ((rd_T56 l0_0 x3_1).f0), .int .i64 ((rd_T56 l0_0 x3_1).f1), .bool ((rd_T56 l0_0 x3_1).f2), .int .i64 ((rd_T56 l0_0 x3_1).f3.f0), .int .i64 ((rd_T56 l0_0 x3_1).f3.f1), .int .i64 ((rd_T56 l0_0 x3_1).f3.f2), .int .i64 ((rd_T56 l0_0 x3_1).f3.f3), .int .i64 ((rd_T56 l0_0 x3_1).f3.f4), .int .i64 ((rd_T56 l0_0 x3_1).f3.f5), .slice A338_9 ((rd_T56 l0_0 x3_1).f4.f0).length c338_9, .slice A338_10 ((rd_T56 l0_0 x3_1).f4.f1).length c338_10, .bool ((rd_T56 l0_0 x3_1).f5), .int .i64 ((rd_T56 l0_0 x3_1).f6), .slice A338_13 ((rd_T56 l0_0 x3_1).f7).length c338_13, .int .i64 ((rd_T56 l0_0 x3_1).f8.f0), .int .i64 ((rd_T56 l0_0 x3_1).f8.f1.f0), .int .i64 ((rd_T56 l0_0 x3_1).f8.f1.f1), .int .i64 ((rd_T56 l0_0 x3_1).f8.f1.f2), .int .i64 ((rd_T56 l0_0 x3_1).f8.f1.f3), .int .i64 ((rd_T56 l0_0 x3_1).f8.f2.f0), .int .i64 ((rd_T56 l0_0 x3_1).f8.f2.f1), .int .i64 ((rd_T56 l0_0 x3_1).f8.f2.f2), .int .i64 ((rd_T56 l0_0 x3_1).f8.f2.f3), .int .i64 ((rd_T56 l0_0 x3_1).f8.f3.f0), .int .i64 ((rd_T56 l0_0 x3_1).f8.f3.f1), .int .i64 ((rd_T56 l0_0 x3_1).f8.f4.f0), .int .i64 ((rd_T56 l0_0 x3_1).f8.f4.f1), .int .i64 ((rd_T56 l0_0 x3_1).f9), .int .i64 ((rd_T56 l0_0 x3_1).f10), .slice A338_29 ((rd_T56 l0_0 x3_1).f11.f0).length c338_29, .slice A338_30 ((rd_T56 l0_0 x3_1).f11.f1).length c338_30] 56 (0, 0)) z12_3 hb); have n2_ := Aside0.mk (below_step z12_1 hb); clear BK337; clear BK339; clear HB; have BK337 := n0_; have BK339 := n1_; have HB := n2_; clear n0_ n1_ n2_; (try clear hb); obtain ⟨_, _⟩ := be_1 BK337.out; obtain ⟨_, _, _, _, _, _, _, _, _, _, _, _, _, _, _, _, _, _, _, _, _, _, _, _, _, _, _, _, _, _, _, _, _, _, _, _, _, _, _, _, _, _, _, _, _, _, _, _, _, _, _, _, _, _, _, _, _, _, _, _, _, _⟩ := be_31 BK339.out) | (go_at_call 103; (with_reducible refine (spec_NodeAt.calls k1 _ _ l0_0 ((rd_T56 l0_0 x3_1).f0) t341 _ ?side1 ?side2 A16.out).mono ?_); (case side1 => exact z12_5); (case side2 => exact HC0_0.out); rintro e w25 ⟨rfl, hb⟩; have n0_ := Aside0.mk (blk_belowB BK337 z12_4 hb); have n1_ := Aside0.mk (blk_belowB BK339 z12_7 hb); have n2_ := Aside0.mk (below_step z12_1 hb); clear BK337; clear BK339; clear HB; have BK337 := n0_; have BK339 := n1_; have HB := n2_; clear n0_ n1_ n2_; (try clear hb); obtain ⟨_, _⟩ := be_1 BK337.out; obtain ⟨_, _, _, _, _, _, _, _, _, _, _, _, _, _, _, _, _, _, _, _, _, _, _, _, _, _, _, _, _, _, _, _, _, _, _, _, _, _, _, _, _, _, _, _, _, _, _, _, _, _, _, _, _, _, _, _, _, _, _, _, _, _⟩ := be_31 BK339.out) | (go_at_call 114; (with_reducible refine (spec_DepthOf.calls k1 _ _ l0_0 ((rd_T56 l0_0 x3_1).f0) t342 _ ?side1 ?side2 A18.out).mono ?_); (case side1 => exact z12_5); (case side2 => exact HC0_0.out); rintro e w28 ⟨rfl, hb⟩; have n0_ := Aside0.mk (blk_belowB BK337 z12_4 hb); have n1_ := Aside0.mk (blk_belowB BK339 z12_7 hb); have n2_ := Aside0.mk (below_step z12_1 hb); clear BK337; clear BK339; clear HB; have BK337 := n0_; have BK339 := n1_; have HB := n2_; clear n0_ n1_ n2_; (try clear hb)) | (go_at_call 64; (with_reducible refine (spec_l01In.calls t342 1 4 t343 _ A19.out).mono ?_); rintro e w' ⟨rfl, ⟨nd, rfl⟩⟩) | ((with_reducible refine gate_load (t := 56) rfl ?_); refine load_blk (t := 56) rfl rfl BK339 rfl z12_2 Try.underlying56 rfl (show (Try.prog.info? 56).map (·.size) = some 31 by kernel_rfl) rfl ?_) | ((with_reducible refine gate_store (t := 56) rfl ?_); refine wstore_blk (t := 56) rfl rfl BK339 rfl rfl z12_2 rfl (show (Try.prog.info? 56).map (·.size) = some 31 by kernel_rfl) rfl ?_; simp only [World.setCells, Nat.reduceAdd]) | ((with_reducible refine gate_load (t := 56) rfl ?_); refine load_event (t := 56) rfl rfl (p := ⟨gb339, 0, none⟩) rfl [.int .i64 ((rd_T56 l0_0 x3_1).f0), .int .i64 ((rd_T56 l0_0 x3_1).f1), .bool ((rd_T56 l0_0 x3_1).f2), .int .i64 ((rd_T56 l0_0 x3_1).f3.f0), .int .i64 ((rd_T56 l0_0 x3_1).f3.f1), .int .i64 ((rd_T56 l0_0 x3_1).f3.f2), .int .i64 ((rd_T56 l0_0 x3_1).f3.f3), .int .i64 ((rd_T56 l0_0 x3_1).f3.f4), .int .i64 ((rd_T56 l0_0 x3_1).f3.f5), .slice A338_9 ((rd_T56 l0_0 x3_1).f4.f0).length c338_9, .slice A338_10 ((rd_T56 l0_0 x3_1).f4.f1).length c338_10, .bool ((rd_T56 l0_0 x3_1).f5), .int .i64 ((rd_T56 l0_0 x3_1).f6), .slice A338_13 ((rd_T56 l0_0 x3_1).f7).length c338_13, .int .i64 ((rd_T56 l0_0 x3_1).f8.f0), .int .i64 ((rd_T56 l0_0 x3_1).f8.f1.f0), .int .i64 ((rd_T56 l0_0 x3_1).f8.f1.f1), .int .i64 ((rd_T56 l0_0 x3_1).f8.f1.f2), .int .i64 ((rd_T56 l0_0 x3_1).f8.f1.f3), .int .i64 ((rd_T56 l0_0 x3_1).f8.f2.f0), .int .i64 ((rd_T56 l0_0 x3_1).f8.f2.f1), .int .i64 ((rd_T56 l0_0 x3_1).f8.f2.f2), .int .i64 ((rd_T56 l0_0 x3_1).f8.f2.f3), .int .i64 ((rd_T56 l0_0 x3_1).f8.f3.f0), .int .i64 ((rd_T56 l0_0 x3_1).f8.f3.f1), .int .i64 ((rd_T56 l0_0 x3_1).f8.f4.f0), .int .i64 ((rd_T56 l0_0 x3_1).f8.f4.f1), .int .i64 ((rd_T56 l0_0 x3_1).f9), .int .i64 ((rd_T56 l0_0 x3_1).f10), .slice A338_29 ((rd_T56 l0_0 x3_1).f11.f0).length c338_29, .slice A338_30 ((rd_T56 l0_0 x3_1).f11.f1).length c338_30] _ (lie_of_blk (cs := #[.int .i64 ((rd_T56 l0_0 x3_1).f0), .int .i64 ((rd_T56 l0_0 x3_1).f1), .bool ((rd_T56 l0_0 x3_1).f2), .int .i64 ((rd_T56 l0_0 x3_1).f3.f0), .int .i64 ((rd_T56 l0_0 x3_1).f3.f1), .int .i64 ((rd_T56 l0_0 x3_1).f3.f2), .int .i64 ((rd_T56 l0_0 x3_1).f3.f3), .int .i64 ((rd_T56 l0_0 x3_1).f3.f4), .int .i64 ((rd_T56 l0_0 x3_1).f3.f5), .slice A338_9 ((rd_T56 l0_0 x3_1).f4.f0).length c338_9, .slice A338_10 ((rd_T56 l0_0 x3_1).f4.f1).length c338_10, .bool ((rd_T56 l0_0 x3_1).f5), .int .i64 ((rd_T56 l0_0 x3_1).f6), .slice A338_13 ((rd_T56 l0_0 x3_1).f7).length c338_13, .int .i64 ((rd_T56 l0_0 x3_1).f8.f0), .int .i64 ((rd_T56 l0_0 x3_1).f8.f1.f0), .int .i64 ((rd_T56 l0_0 x3_1).f8.f1.f1), .int .i64 ((rd_T56 l0_0 x3_1).f8.f1.f2), .int .i64 ((rd_T56 l0_0 x3_1).f8.f1.f3), .int .i64 ((rd_T56 l0_0 x3_1).f8.f2.f0), .int .i64 ((rd_T56 l0_0 x3_1).f8.f2.f1), .int .i64 ((rd_T56 l0_0 x3_1).f8.f2.f2), .int .i64 ((rd_T56 l0_0 x3_1).f8.f2.f3), .int .i64 ((rd_T56 l0_0 x3_1).f8.f3.f0), .int .i64 ((rd_T56 l0_0 x3_1).f8.f3.f1), .int .i64 ((rd_T56 l0_0 x3_1).f8.f4.f0), .int .i64 ((rd_T56 l0_0 x3_1).f8.f4.f1), .int .i64 ((rd_T56 l0_0 x3_1).f9), .int .i64 ((rd_T56 l0_0 x3_1).f10), .slice A338_29 ((rd_T56 l0_0 x3_1).f11.f0).length c338_29, .slice A338_30 ((rd_T56 l0_0 x3_1).f11.f1).length c338_30]) (t := 56) z12_3) Try.underlying56 rfl (show (Try.prog.info? 56).map (·.size) = some 31 by kernel_rfl) ?_))
         go_meet
         case rel => exact ⟨_, (!t343), (by first | rfl | (simp; done) | (simp [*]; done)), H', ⟨by have := HK1.out; first | omega | exact Nat.le_refl _⟩, ⟨by (with_reducible repeat (first | refine blk_drewN ?_ _ | refine blk_drew ?_ | refine blk_alloc ?_ _)); exact BK337.out⟩, ⟨by (with_reducible repeat (first | refine blk_drewN ?_ _ | refine blk_drew ?_ | refine blk_alloc ?_ _)); exact BK339.out⟩, ⟨by repeat (first | (with_reducible first | exact HB.out | apply below_alloc | apply pw_below_drewN | apply below_drew1 | refine below_set ?_ GE337.out | refine below_set ?_ GE339.out) | exact HB.out)⟩⟩
        ·rw [if_neg c17] at H
         have c17b0 : (t341 == x3_1) = false := beq_eq_false_iff_ne.mpr c17
         have c17b1 : (t341 != x3_1) = true := bne_iff_ne.mpr c17
         (first | rw [c17b0] | (simp only [i64_w, i32_w]; rw [c17b0]) | skip)
         have H' := Aside0.mk H
         clear H; have hnb29 := NB339_337.out; have hnc29 := NB337_339.out
         obtain ⟨_, _, _, _, _, _, _, _, _, _, _, _, _, _, _, _, _, _, _, _, _, _, _, _, _, _, _, _, _, _, _, _, _, _, _, _, _, _, _, _, _, _, _, _, _, _, _, _, _, _, _, _, _, _, _, _, _, _, _, _, _, _⟩ := be_31 BK339.out
         go_wp2_with (first | ((with_reducible refine gate_load (t := 56) rfl ?_); refine load_lie (t := 56) rfl rfl hM338 HB (by with_reducible rfl) rfl Try.underlying56 rfl (show (Try.prog.info? 56).map (·.size) = some 31 by kernel_rfl) rfl ?_) | ((with_reducible refine gate_load (t := 56) rfl ?_); refine load_lie0 (t := 56) rfl rfl hM338 (by with_reducible rfl) rfl Try.underlying56 rfl (show (Try.prog.info? 56).map (·.size) = some 31 by kernel_rfl) rfl ?_) | ((with_reducible refine gate_callee (f := 20) rfl ?_); refine goesL_ (some 23) rfl rfl Try.func20 (by kernel_rfl) rfl #[.agg #[.int .i64 ((rd_T56 l0_0 x3_1).f0), .int .i64 ((rd_T56 l0_0 x3_1).f1), .bool ((rd_T56 l0_0 x3_1).f2), .int .i64 ((rd_T56 l0_0 x3_1).f3.f0), .int .i64 ((rd_T56 l0_0 x3_1).f3.f1), .int .i64 ((rd_T56 l0_0 x3_1).f3.f2), .int .i64 ((rd_T56 l0_0 x3_1).f3.f3), .int .i64 ((rd_T56 l0_0 x3_1).f3.f4), .int .i64 ((rd_T56 l0_0 x3_1).f3.f5), .slice A338_9 ((rd_T56 l0_0 x3_1).f4.f0).length c338_9, .slice A338_10 ((rd_T56 l0_0 x3_1).f4.f1).length c338_10, .bool ((rd_T56 l0_0 x3_1).f5), .int .i64 ((rd_T56 l0_0 x3_1).f6), .slice A338_13 ((rd_T56 l0_0 x3_1).f7).length c338_13, .int .i64 ((rd_T56 l0_0 x3_1).f8.f0), .int .i64 ((rd_T56 l0_0 x3_1).f8.f1.f0), .int .i64 ((rd_T56 l0_0 x3_1).f8.f1.f1), .int .i64 ((rd_T56 l0_0 x3_1).f8.f1.f2), .int .i64 ((rd_T56 l0_0 x3_1).f8.f1.f3), .int .i64 ((rd_T56 l0_0 x3_1).f8.f2.f0), .int .i64 ((rd_T56 l0_0 x3_1).f8.f2.f1), .int .i64 ((rd_T56 l0_0 x3_1).f8.f2.f2), .int .i64 ((rd_T56 l0_0 x3_1).f8.f2.f3), .int .i64 ((rd_T56 l0_0 x3_1).f8.f3.f0), .int .i64 ((rd_T56 l0_0 x3_1).f8.f3.f1), .int .i64 ((rd_T56 l0_0 x3_1).f8.f4.f0), .int .i64 ((rd_T56 l0_0 x3_1).f8.f4.f1), .int .i64 ((rd_T56 l0_0 x3_1).f9), .int .i64 ((rd_T56 l0_0 x3_1).f10), .slice A338_29 ((rd_T56 l0_0 x3_1).f11.f0).length c338_29, .slice A338_30 ((rd_T56 l0_0 x3_1).f11.f1).length c338_30]] rfl z12_6 ?_; (with_reducible refine (spec_NodeOk.calls k1 ((rd_T56 l0_0 x3_1).f0) ((rd_T56 l0_0 x3_1).f1) ((rd_T56 l0_0 x3_1).f2) ((rd_T56 l0_0 x3_1).f3.f0) ((rd_T56 l0_0 x3_1).f3.f1) ((rd_T56 l0_0 x3_1).f3.f2) ((rd_T56 l0_0 x3_1).f3.f3) ((rd_T56 l0_0 x3_1).f3.f4) ((rd_T56 l0_0 x3_1).f3.f5) _ _ ((rd_T56 l0_0 x3_1).f4.f0) _ _ ((rd_T56 l0_0 x3_1).f4.f1) ((rd_T56 l0_0 x3_1).f5) ((rd_T56 l0_0 x3_1).f6) _ _ ((rd_T56 l0_0 x3_1).f7) ((rd_T56 l0_0 x3_1).f8.f0) ((rd_T56 l0_0 x3_1).f8.f1.f0) ((rd_T56 l0_0 x3_1).f8.f1.f1) ((rd_T56 l0_0 x3_1).f8.f1.f2) ((rd_T56 l0_0 x3_1).f8.f1.f3) ((rd_T56 l0_0 x3_1).f8.f2.f0) ((rd_T56 l0_0 x3_1).f8.f2.f1) ((rd_T56 l0_0 x3_1).f8.f2.f2) ((rd_T56 l0_0 x3_1).f8.f2.f3) ((rd_T56 l0_0 x3_1).f8.f3.f0) ((rd_T56 l0_0 x3_1).f8.f3.f1) ((rd_T56 l0_0 x3_1).f8.f4.f0) ((rd_T56 l0_0 x3_1).f8.f4.f1) ((rd_T56 l0_0 x3_1).f9) ((rd_T56 l0_0 x3_1).f10) _ _ ((rd_T56 l0_0 x3_1).f11.f0) _ _ ((rd_T56 l0_0 x3_1).f11.f1) true _ ?side1 ?side2 ?side3 ?side4 ?side5 ?side6 ?side7 ?side8 ?side9 ?side10 A14.out).mono ?_); (case side1 => exact Kd.C_below HR338_9.out z12_1); (case side2 => exact HC338_9.out); (case side3 => exact Kd.C_below HR338_10.out z12_1); (case side4 => exact HC338_10.out); (case side5 => exact Kd.C_below HR338_13.out z12_1); (case side6 => exact HC338_13.out); (case side7 => exact Kd.C_below HR338_29.out z12_1); (case side8 => exact HC338_29.out); (case side9 => exact Kd.C_below HR338_30.out z12_1); (case side10 => exact HC338_30.out); rintro e w31 ⟨rfl, hb⟩; refine ⟨_, rfl, ?_⟩; have n0_ := Aside0.mk (blk_belowB BK337 z12_0 hb); have n1_ := Aside0.mk (blk_below (g := gb339) (o := .cells #[.int .i64 ((rd_T56 l0_0 x3_1).f0), .int .i64 ((rd_T56 l0_0 x3_1).f1), .bool ((rd_T56 l0_0 x3_1).f2), .int .i64 ((rd_T56 l0_0 x3_1).f3.f0), .int .i64 ((rd_T56 l0_0 x3_1).f3.f1), .int .i64 ((rd_T56 l0_0 x3_1).f3.f2), .int .i64 ((rd_T56 l0_0 x3_1).f3.f3), .int .i64 ((rd_T56 l0_0 x3_1).f3.f4), .int .i64 ((rd_T56 l0_0 x3_1).f3.f5), .slice A338_9 ((rd_T56 l0_0 x3_1).f4.f0).length c338_9, .slice A338_10 ((rd_T56 l0_0 x3_1).f4.f1).length c338_10, .bool ((rd_T56 l0_0 x3_1).f5), .int .i64 ((rd_T56 l0_0 x3_1).f6), .slice A338_13 ((rd_T56 l0_0 x3_1).f7).length c338_13, .int .i64 ((rd_T56 l0_0 x3_1).f8.f0), .int .i64 ((rd_T56 l0_0 x3_1).f8.f1.f0), .int .i64 ((rd_T56 l0_0 x3_1).f8.f1.f1), .int .i64 ((rd_T56 l0_0 x3_1).f8.f1.f2), .int .i64 ((rd_T56 l0_0 x3_1).f8.f1.f3), .int .i64 ((rd_T56 l0_0 x3_1).f8.f2.f0), .int .i64 ((rd_T56 l0_0 x3_1).f8.f2.f1), .int .i64 ((rd_T56 l0_0 x3_1).f8.f2.f2), .int .i64 ((rd_T56 l0_0 x3_1).f8.f2.f3), .int .i64 ((rd_T56 l0_0 x3_1).f8.f3.f0), .int .i64 ((rd_T56 l0_0 x3_1).f8.f3.f1), .int .i64 ((rd_T56 l0_0 x3_1).f8.f4.f0), .int .i64 ((rd_T56 l0_0 x3_1).f8.f4.f1), .int .i64 ((rd_T56 l0_0 x3_1).f9), .int .i64 ((rd_T56 l0_0 x3_1).f10), .slice A338_29 ((rd_T56 l0_0 x3_1).f11.f0).length c338_29, .slice A338_30 ((rd_T56 l0_0 x3_1).f11.f1).length c338_30] 56 (0, 0)) z12_3 hb); have n2_ := Aside0.mk (below_step z12_1 hb); clear BK337; clear BK339; clear HB; have BK337 := n0_; have BK339 := n1_; have HB := n2_; clear n0_ n1_ n2_; (try clear hb); obtain ⟨_, _⟩ := be_1 BK337.out; obtain ⟨_, _, _, _, _, _, _, _, _, _, _, _, _, _, _, _, _, _, _, _, _, _, _, _, _, _, _, _, _, _, _, _, _, _, _, _, _, _, _, _, _, _, _, _, _, _, _, _, _, _, _, _, _, _, _, _, _, _, _, _, _, _⟩ := be_31 BK339.out) | (go_at_call 103; (with_reducible refine (spec_NodeAt.calls k1 _ _ l0_0 ((rd_T56 l0_0 x3_1).f0) t341 _ ?side1 ?side2 A16.out).mono ?_); (case side1 => exact z12_5); (case side2 => exact HC0_0.out); rintro e w34 ⟨rfl, hb⟩; have n0_ := Aside0.mk (blk_belowB BK337 z12_4 hb); have n1_ := Aside0.mk (blk_belowB BK339 z12_7 hb); have n2_ := Aside0.mk (below_step z12_1 hb); clear BK337; clear BK339; clear HB; have BK337 := n0_; have BK339 := n1_; have HB := n2_; clear n0_ n1_ n2_; (try clear hb)) | ((with_reducible refine gate_load (t := 56) rfl ?_); refine load_blk (t := 56) rfl rfl BK339 rfl z12_2 Try.underlying56 rfl (show (Try.prog.info? 56).map (·.size) = some 31 by kernel_rfl) rfl ?_) | ((with_reducible refine gate_store (t := 56) rfl ?_); refine wstore_blk (t := 56) rfl rfl BK339 rfl rfl z12_2 rfl (show (Try.prog.info? 56).map (·.size) = some 31 by kernel_rfl) rfl ?_; simp only [World.setCells, Nat.reduceAdd]) | ((with_reducible refine gate_load (t := 56) rfl ?_); refine load_event (t := 56) rfl rfl (p := ⟨gb339, 0, none⟩) rfl [.int .i64 ((rd_T56 l0_0 x3_1).f0), .int .i64 ((rd_T56 l0_0 x3_1).f1), .bool ((rd_T56 l0_0 x3_1).f2), .int .i64 ((rd_T56 l0_0 x3_1).f3.f0), .int .i64 ((rd_T56 l0_0 x3_1).f3.f1), .int .i64 ((rd_T56 l0_0 x3_1).f3.f2), .int .i64 ((rd_T56 l0_0 x3_1).f3.f3), .int .i64 ((rd_T56 l0_0 x3_1).f3.f4), .int .i64 ((rd_T56 l0_0 x3_1).f3.f5), .slice A338_9 ((rd_T56 l0_0 x3_1).f4.f0).length c338_9, .slice A338_10 ((rd_T56 l0_0 x3_1).f4.f1).length c338_10, .bool ((rd_T56 l0_0 x3_1).f5), .int .i64 ((rd_T56 l0_0 x3_1).f6), .slice A338_13 ((rd_T56 l0_0 x3_1).f7).length c338_13, .int .i64 ((rd_T56 l0_0 x3_1).f8.f0), .int .i64 ((rd_T56 l0_0 x3_1).f8.f1.f0), .int .i64 ((rd_T56 l0_0 x3_1).f8.f1.f1), .int .i64 ((rd_T56 l0_0 x3_1).f8.f1.f2), .int .i64 ((rd_T56 l0_0 x3_1).f8.f1.f3), .int .i64 ((rd_T56 l0_0 x3_1).f8.f2.f0), .int .i64 ((rd_T56 l0_0 x3_1).f8.f2.f1), .int .i64 ((rd_T56 l0_0 x3_1).f8.f2.f2), .int .i64 ((rd_T56 l0_0 x3_1).f8.f2.f3), .int .i64 ((rd_T56 l0_0 x3_1).f8.f3.f0), .int .i64 ((rd_T56 l0_0 x3_1).f8.f3.f1), .int .i64 ((rd_T56 l0_0 x3_1).f8.f4.f0), .int .i64 ((rd_T56 l0_0 x3_1).f8.f4.f1), .int .i64 ((rd_T56 l0_0 x3_1).f9), .int .i64 ((rd_T56 l0_0 x3_1).f10), .slice A338_29 ((rd_T56 l0_0 x3_1).f11.f0).length c338_29, .slice A338_30 ((rd_T56 l0_0 x3_1).f11.f1).length c338_30] _ (lie_of_blk (cs := #[.int .i64 ((rd_T56 l0_0 x3_1).f0), .int .i64 ((rd_T56 l0_0 x3_1).f1), .bool ((rd_T56 l0_0 x3_1).f2), .int .i64 ((rd_T56 l0_0 x3_1).f3.f0), .int .i64 ((rd_T56 l0_0 x3_1).f3.f1), .int .i64 ((rd_T56 l0_0 x3_1).f3.f2), .int .i64 ((rd_T56 l0_0 x3_1).f3.f3), .int .i64 ((rd_T56 l0_0 x3_1).f3.f4), .int .i64 ((rd_T56 l0_0 x3_1).f3.f5), .slice A338_9 ((rd_T56 l0_0 x3_1).f4.f0).length c338_9, .slice A338_10 ((rd_T56 l0_0 x3_1).f4.f1).length c338_10, .bool ((rd_T56 l0_0 x3_1).f5), .int .i64 ((rd_T56 l0_0 x3_1).f6), .slice A338_13 ((rd_T56 l0_0 x3_1).f7).length c338_13, .int .i64 ((rd_T56 l0_0 x3_1).f8.f0), .int .i64 ((rd_T56 l0_0 x3_1).f8.f1.f0), .int .i64 ((rd_T56 l0_0 x3_1).f8.f1.f1), .int .i64 ((rd_T56 l0_0 x3_1).f8.f1.f2), .int .i64 ((rd_T56 l0_0 x3_1).f8.f1.f3), .int .i64 ((rd_T56 l0_0 x3_1).f8.f2.f0), .int .i64 ((rd_T56 l0_0 x3_1).f8.f2.f1), .int .i64 ((rd_T56 l0_0 x3_1).f8.f2.f2), .int .i64 ((rd_T56 l0_0 x3_1).f8.f2.f3), .int .i64 ((rd_T56 l0_0 x3_1).f8.f3.f0), .int .i64 ((rd_T56 l0_0 x3_1).f8.f3.f1), .int .i64 ((rd_T56 l0_0 x3_1).f8.f4.f0), .int .i64 ((rd_T56 l0_0 x3_1).f8.f4.f1), .int .i64 ((rd_T56 l0_0 x3_1).f9), .int .i64 ((rd_T56 l0_0 x3_1).f10), .slice A338_29 ((rd_T56 l0_0 x3_1).f11.f0).length c338_29, .slice A338_30 ((rd_T56 l0_0 x3_1).f11.f1).length c338_30]) (t := 56) z12_3) Try.underlying56 rfl (show (Try.prog.info? 56).map (·.size) = some 31 by kernel_rfl) ?_))
         go_meet
         case rel => exact ⟨_, (true), (by first | rfl | (simp; done) | (simp [*]; done)), H', ⟨by have := HK1.out; first | omega | exact Nat.le_refl _⟩, ⟨by (with_reducible repeat (first | refine blk_drewN ?_ _ | refine blk_drew ?_ | refine blk_alloc ?_ _)); exact BK337.out⟩, ⟨by (with_reducible repeat (first | refine blk_drewN ?_ _ | refine blk_drew ?_ | refine blk_alloc ?_ _)); exact BK339.out⟩, ⟨by repeat (first | (with_reducible first | exact HB.out | apply below_alloc | apply pw_below_drewN | apply below_drew1 | refine below_set ?_ GE337.out | refine below_set ?_ GE339.out) | exact HB.out)⟩⟩
       ·replace c15 := Bool.eq_false_iff.mpr c15
        subst c15
        have H1 : (spec_SceneOk.j1 k1 x3_1 true l0_0 ((rd_T56 l0_0 x3_1).f0) ((rd_T56 l0_0 x3_1).f1) ((rd_T56 l0_0 x3_1).f2) ((rd_T56 l0_0 x3_1).f3.f0) ((rd_T56 l0_0 x3_1).f3.f1) ((rd_T56 l0_0 x3_1).f3.f2) ((rd_T56 l0_0 x3_1).f3.f3) ((rd_T56 l0_0 x3_1).f3.f4) ((rd_T56 l0_0 x3_1).f3.f5) ((rd_T56 l0_0 x3_1).f4.f0) ((rd_T56 l0_0 x3_1).f4.f1) ((rd_T56 l0_0 x3_1).f5) ((rd_T56 l0_0 x3_1).f6) ((rd_T56 l0_0 x3_1).f7) ((rd_T56 l0_0 x3_1).f8.f0) ((rd_T56 l0_0 x3_1).f8.f1.f0) ((rd_T56 l0_0 x3_1).f8.f1.f1) ((rd_T56 l0_0 x3_1).f8.f1.f2) ((rd_T56 l0_0 x3_1).f8.f1.f3) ((rd_T56 l0_0 x3_1).f8.f2.f0) ((rd_T56 l0_0 x3_1).f8.f2.f1) ((rd_T56 l0_0 x3_1).f8.f2.f2) ((rd_T56 l0_0 x3_1).f8.f2.f3) ((rd_T56 l0_0 x3_1).f8.f3.f0) ((rd_T56 l0_0 x3_1).f8.f3.f1) ((rd_T56 l0_0 x3_1).f8.f4.f0) ((rd_T56 l0_0 x3_1).f8.f4.f1) ((rd_T56 l0_0 x3_1).f9) ((rd_T56 l0_0 x3_1).f10) ((rd_T56 l0_0 x3_1).f11.f0) ((rd_T56 l0_0 x3_1).f11.f1)) = some r := by rw [if_neg (show ¬ (false = true) by decide)] at H; exact H
        clear H; have H := H1; clear H1
        have H' := Aside0.mk H
        clear H; have hnb35 := NB339_337.out; have hnc35 := NB337_339.out
        obtain ⟨_, _, _, _, _, _, _, _, _, _, _, _, _, _, _, _, _, _, _, _, _, _, _, _, _, _, _, _, _, _, _, _, _, _, _, _, _, _, _, _, _, _, _, _, _, _, _, _, _, _, _, _, _, _, _, _, _, _, _, _, _, _⟩ := be_31 BK339.out
        go_wp2_with (first | ((with_reducible refine gate_load (t := 56) rfl ?_); refine load_lie (t := 56) rfl rfl hM338 HB (by with_reducible rfl) rfl Try.underlying56 rfl (show (Try.prog.info? 56).map (·.size) = some 31 by kernel_rfl) rfl ?_) | ((with_reducible refine gate_load (t := 56) rfl ?_); refine load_lie0 (t := 56) rfl rfl hM338 (by with_reducible rfl) rfl Try.underlying56 rfl (show (Try.prog.info? 56).map (·.size) = some 31 by kernel_rfl) rfl ?_) | ((with_reducible refine gate_callee (f := 20) rfl ?_); refine goesL_ (some 23) rfl rfl Try.func20 (by kernel_rfl) rfl #[.agg #[.int .i64 ((rd_T56 l0_0 x3_1).f0), .int .i64 ((rd_T56 l0_0 x3_1).f1), .bool ((rd_T56 l0_0 x3_1).f2), .int .i64 ((rd_T56 l0_0 x3_1).f3.f0), .int .i64 ((rd_T56 l0_0 x3_1).f3.f1), .int .i64 ((rd_T56 l0_0 x3_1).f3.f2), .int .i64 ((rd_T56 l0_0 x3_1).f3.f3), .int .i64 ((rd_T56 l0_0 x3_1).f3.f4), .int .i64 ((rd_T56 l0_0 x3_1).f3.f5), .slice A338_9 ((rd_T56 l0_0 x3_1).f4.f0).length c338_9, .slice A338_10 ((rd_T56 l0_0 x3_1).f4.f1).length c338_10, .bool ((rd_T56 l0_0 x3_1).f5), .int .i64 ((rd_T56 l0_0 x3_1).f6), .slice A338_13 ((rd_T56 l0_0 x3_1).f7).length c338_13, .int .i64 ((rd_T56 l0_0 x3_1).f8.f0), .int .i64 ((rd_T56 l0_0 x3_1).f8.f1.f0), .int .i64 ((rd_T56 l0_0 x3_1).f8.f1.f1), .int .i64 ((rd_T56 l0_0 x3_1).f8.f1.f2), .int .i64 ((rd_T56 l0_0 x3_1).f8.f1.f3), .int .i64 ((rd_T56 l0_0 x3_1).f8.f2.f0), .int .i64 ((rd_T56 l0_0 x3_1).f8.f2.f1), .int .i64 ((rd_T56 l0_0 x3_1).f8.f2.f2), .int .i64 ((rd_T56 l0_0 x3_1).f8.f2.f3), .int .i64 ((rd_T56 l0_0 x3_1).f8.f3.f0), .int .i64 ((rd_T56 l0_0 x3_1).f8.f3.f1), .int .i64 ((rd_T56 l0_0 x3_1).f8.f4.f0), .int .i64 ((rd_T56 l0_0 x3_1).f8.f4.f1), .int .i64 ((rd_T56 l0_0 x3_1).f9), .int .i64 ((rd_T56 l0_0 x3_1).f10), .slice A338_29 ((rd_T56 l0_0 x3_1).f11.f0).length c338_29, .slice A338_30 ((rd_T56 l0_0 x3_1).f11.f1).length c338_30]] rfl z12_6 ?_; (with_reducible refine (spec_NodeOk.calls k1 ((rd_T56 l0_0 x3_1).f0) ((rd_T56 l0_0 x3_1).f1) ((rd_T56 l0_0 x3_1).f2) ((rd_T56 l0_0 x3_1).f3.f0) ((rd_T56 l0_0 x3_1).f3.f1) ((rd_T56 l0_0 x3_1).f3.f2) ((rd_T56 l0_0 x3_1).f3.f3) ((rd_T56 l0_0 x3_1).f3.f4) ((rd_T56 l0_0 x3_1).f3.f5) _ _ ((rd_T56 l0_0 x3_1).f4.f0) _ _ ((rd_T56 l0_0 x3_1).f4.f1) ((rd_T56 l0_0 x3_1).f5) ((rd_T56 l0_0 x3_1).f6) _ _ ((rd_T56 l0_0 x3_1).f7) ((rd_T56 l0_0 x3_1).f8.f0) ((rd_T56 l0_0 x3_1).f8.f1.f0) ((rd_T56 l0_0 x3_1).f8.f1.f1) ((rd_T56 l0_0 x3_1).f8.f1.f2) ((rd_T56 l0_0 x3_1).f8.f1.f3) ((rd_T56 l0_0 x3_1).f8.f2.f0) ((rd_T56 l0_0 x3_1).f8.f2.f1) ((rd_T56 l0_0 x3_1).f8.f2.f2) ((rd_T56 l0_0 x3_1).f8.f2.f3) ((rd_T56 l0_0 x3_1).f8.f3.f0) ((rd_T56 l0_0 x3_1).f8.f3.f1) ((rd_T56 l0_0 x3_1).f8.f4.f0) ((rd_T56 l0_0 x3_1).f8.f4.f1) ((rd_T56 l0_0 x3_1).f9) ((rd_T56 l0_0 x3_1).f10) _ _ ((rd_T56 l0_0 x3_1).f11.f0) _ _ ((rd_T56 l0_0 x3_1).f11.f1) false _ ?side1 ?side2 ?side3 ?side4 ?side5 ?side6 ?side7 ?side8 ?side9 ?side10 A14.out).mono ?_); (case side1 => exact Kd.C_below HR338_9.out z12_1); (case side2 => exact HC338_9.out); (case side3 => exact Kd.C_below HR338_10.out z12_1); (case side4 => exact HC338_10.out); (case side5 => exact Kd.C_below HR338_13.out z12_1); (case side6 => exact HC338_13.out); (case side7 => exact Kd.C_below HR338_29.out z12_1); (case side8 => exact HC338_29.out); (case side9 => exact Kd.C_below HR338_30.out z12_1); (case side10 => exact HC338_30.out); rintro e w37 ⟨rfl, hb⟩; refine ⟨_, rfl, ?_⟩; have n0_ := Aside0.mk (blk_belowB BK337 z12_0 hb); have n1_ := Aside0.mk (blk_below (g := gb339) (o := .cells #[.int .i64 ((rd_T56 l0_0 x3_1).f0), .int .i64 ((rd_T56 l0_0 x3_1).f1), .bool ((rd_T56 l0_0 x3_1).f2), .int .i64 ((rd_T56 l0_0 x3_1).f3.f0), .int .i64 ((rd_T56 l0_0 x3_1).f3.f1), .int .i64 ((rd_T56 l0_0 x3_1).f3.f2), .int .i64 ((rd_T56 l0_0 x3_1).f3.f3), .int .i64 ((rd_T56 l0_0 x3_1).f3.f4), .int .i64 ((rd_T56 l0_0 x3_1).f3.f5), .slice A338_9 ((rd_T56 l0_0 x3_1).f4.f0).length c338_9, .slice A338_10 ((rd_T56 l0_0 x3_1).f4.f1).length c338_10, .bool ((rd_T56 l0_0 x3_1).f5), .int .i64 ((rd_T56 l0_0 x3_1).f6), .slice A338_13 ((rd_T56 l0_0 x3_1).f7).length c338_13, .int .i64 ((rd_T56 l0_0 x3_1).f8.f0), .int .i64 ((rd_T56 l0_0 x3_1).f8.f1.f0), .int .i64 ((rd_T56 l0_0 x3_1).f8.f1.f1), .int .i64 ((rd_T56 l0_0 x3_1).f8.f1.f2), .int .i64 ((rd_T56 l0_0 x3_1).f8.f1.f3), .int .i64 ((rd_T56 l0_0 x3_1).f8.f2.f0), .int .i64 ((rd_T56 l0_0 x3_1).f8.f2.f1), .int .i64 ((rd_T56 l0_0 x3_1).f8.f2.f2), .int .i64 ((rd_T56 l0_0 x3_1).f8.f2.f3), .int .i64 ((rd_T56 l0_0 x3_1).f8.f3.f0), .int .i64 ((rd_T56 l0_0 x3_1).f8.f3.f1), .int .i64 ((rd_T56 l0_0 x3_1).f8.f4.f0), .int .i64 ((rd_T56 l0_0 x3_1).f8.f4.f1), .int .i64 ((rd_T56 l0_0 x3_1).f9), .int .i64 ((rd_T56 l0_0 x3_1).f10), .slice A338_29 ((rd_T56 l0_0 x3_1).f11.f0).length c338_29, .slice A338_30 ((rd_T56 l0_0 x3_1).f11.f1).length c338_30] 56 (0, 0)) z12_3 hb); have n2_ := Aside0.mk (below_step z12_1 hb); clear BK337; clear BK339; clear HB; have BK337 := n0_; have BK339 := n1_; have HB := n2_; clear n0_ n1_ n2_; (try clear hb)) | ((with_reducible refine gate_load (t := 56) rfl ?_); refine load_blk (t := 56) rfl rfl BK339 rfl z12_2 Try.underlying56 rfl (show (Try.prog.info? 56).map (·.size) = some 31 by kernel_rfl) rfl ?_) | ((with_reducible refine gate_store (t := 56) rfl ?_); refine wstore_blk (t := 56) rfl rfl BK339 rfl rfl z12_2 rfl (show (Try.prog.info? 56).map (·.size) = some 31 by kernel_rfl) rfl ?_; simp only [World.setCells, Nat.reduceAdd]) | ((with_reducible refine gate_load (t := 56) rfl ?_); refine load_event (t := 56) rfl rfl (p := ⟨gb339, 0, none⟩) rfl [.int .i64 ((rd_T56 l0_0 x3_1).f0), .int .i64 ((rd_T56 l0_0 x3_1).f1), .bool ((rd_T56 l0_0 x3_1).f2), .int .i64 ((rd_T56 l0_0 x3_1).f3.f0), .int .i64 ((rd_T56 l0_0 x3_1).f3.f1), .int .i64 ((rd_T56 l0_0 x3_1).f3.f2), .int .i64 ((rd_T56 l0_0 x3_1).f3.f3), .int .i64 ((rd_T56 l0_0 x3_1).f3.f4), .int .i64 ((rd_T56 l0_0 x3_1).f3.f5), .slice A338_9 ((rd_T56 l0_0 x3_1).f4.f0).length c338_9, .slice A338_10 ((rd_T56 l0_0 x3_1).f4.f1).length c338_10, .bool ((rd_T56 l0_0 x3_1).f5), .int .i64 ((rd_T56 l0_0 x3_1).f6), .slice A338_13 ((rd_T56 l0_0 x3_1).f7).length c338_13, .int .i64 ((rd_T56 l0_0 x3_1).f8.f0), .int .i64 ((rd_T56 l0_0 x3_1).f8.f1.f0), .int .i64 ((rd_T56 l0_0 x3_1).f8.f1.f1), .int .i64 ((rd_T56 l0_0 x3_1).f8.f1.f2), .int .i64 ((rd_T56 l0_0 x3_1).f8.f1.f3), .int .i64 ((rd_T56 l0_0 x3_1).f8.f2.f0), .int .i64 ((rd_T56 l0_0 x3_1).f8.f2.f1), .int .i64 ((rd_T56 l0_0 x3_1).f8.f2.f2), .int .i64 ((rd_T56 l0_0 x3_1).f8.f2.f3), .int .i64 ((rd_T56 l0_0 x3_1).f8.f3.f0), .int .i64 ((rd_T56 l0_0 x3_1).f8.f3.f1), .int .i64 ((rd_T56 l0_0 x3_1).f8.f4.f0), .int .i64 ((rd_T56 l0_0 x3_1).f8.f4.f1), .int .i64 ((rd_T56 l0_0 x3_1).f9), .int .i64 ((rd_T56 l0_0 x3_1).f10), .slice A338_29 ((rd_T56 l0_0 x3_1).f11.f0).length c338_29, .slice A338_30 ((rd_T56 l0_0 x3_1).f11.f1).length c338_30] _ (lie_of_blk (cs := #[.int .i64 ((rd_T56 l0_0 x3_1).f0), .int .i64 ((rd_T56 l0_0 x3_1).f1), .bool ((rd_T56 l0_0 x3_1).f2), .int .i64 ((rd_T56 l0_0 x3_1).f3.f0), .int .i64 ((rd_T56 l0_0 x3_1).f3.f1), .int .i64 ((rd_T56 l0_0 x3_1).f3.f2), .int .i64 ((rd_T56 l0_0 x3_1).f3.f3), .int .i64 ((rd_T56 l0_0 x3_1).f3.f4), .int .i64 ((rd_T56 l0_0 x3_1).f3.f5), .slice A338_9 ((rd_T56 l0_0 x3_1).f4.f0).length c338_9, .slice A338_10 ((rd_T56 l0_0 x3_1).f4.f1).length c338_10, .bool ((rd_T56 l0_0 x3_1).f5), .int .i64 ((rd_T56 l0_0 x3_1).f6), .slice A338_13 ((rd_T56 l0_0 x3_1).f7).length c338_13, .int .i64 ((rd_T56 l0_0 x3_1).f8.f0), .int .i64 ((rd_T56 l0_0 x3_1).f8.f1.f0), .int .i64 ((rd_T56 l0_0 x3_1).f8.f1.f1), .int .i64 ((rd_T56 l0_0 x3_1).f8.f1.f2), .int .i64 ((rd_T56 l0_0 x3_1).f8.f1.f3), .int .i64 ((rd_T56 l0_0 x3_1).f8.f2.f0), .int .i64 ((rd_T56 l0_0 x3_1).f8.f2.f1), .int .i64 ((rd_T56 l0_0 x3_1).f8.f2.f2), .int .i64 ((rd_T56 l0_0 x3_1).f8.f2.f3), .int .i64 ((rd_T56 l0_0 x3_1).f8.f3.f0), .int .i64 ((rd_T56 l0_0 x3_1).f8.f3.f1), .int .i64 ((rd_T56 l0_0 x3_1).f8.f4.f0), .int .i64 ((rd_T56 l0_0 x3_1).f8.f4.f1), .int .i64 ((rd_T56 l0_0 x3_1).f9), .int .i64 ((rd_T56 l0_0 x3_1).f10), .slice A338_29 ((rd_T56 l0_0 x3_1).f11.f0).length c338_29, .slice A338_30 ((rd_T56 l0_0 x3_1).f11.f1).length c338_30]) (t := 56) z12_3) Try.underlying56 rfl (show (Try.prog.info? 56).map (·.size) = some 31 by kernel_rfl) ?_))
        go_meet
        case rel => exact ⟨_, (true), (by first | rfl | (simp; done) | (simp [*]; done)), H', ⟨by have := HK1.out; first | omega | exact Nat.le_refl _⟩, ⟨by (with_reducible repeat (first | refine blk_drewN ?_ _ | refine blk_drew ?_ | refine blk_alloc ?_ _)); exact BK337.out⟩, ⟨by (with_reducible repeat (first | refine blk_drewN ?_ _ | refine blk_drew ?_ | refine blk_alloc ?_ _)); exact BK339.out⟩, ⟨by repeat (first | (with_reducible first | exact HB.out | apply below_alloc | apply pw_below_drewN | apply below_drew1 | refine below_set ?_ GE337.out | refine below_set ?_ GE339.out) | exact HB.out)⟩⟩
      case rest =>
       clear HC9; try clear c1
       try clear c2
       try clear c2b0
       try clear c2b1
       try clear p2
       try clear c3
       try clear p3
       try clear q3
       try clear hx3
       try clear c4
       try clear c7
       try clear c7b0
       try clear c8
       try clear c8b0
       try clear c12
       try clear c15
       try clear c17
       try clear c17b0
       try clear c17b1
       try clear c20
       try clear c29
       try clear c33
       try clear p33
       try clear q33
       try clear hx33
       try clear c35
       try clear hcz10_0
       try clear hcz23_0
       try clear hcz26_0
       try clear hcz32_0
       try clear hcz4_0
       try clear hcz6_0
       try clear hfz10_0
       try clear hfz23_0
       try clear hfz26_0
       try clear hfz32_0
       try clear hfz4_0
       try clear hfz6_0
       try clear hx338_0
       try clear hx338_1
       try clear hx338_10
       try clear hx338_11
       try clear hx338_12
       try clear hx338_13
       try clear hx338_14
       try clear hx338_15
       try clear hx338_16
       try clear hx338_17
       try clear hx338_18
       try clear hx338_19
       try clear hx338_2
       try clear hx338_20
       try clear hx338_21
       try clear hx338_22
       try clear hx338_23
       try clear hx338_24
       try clear hx338_25
       try clear hx338_26
       try clear hx338_27
       try clear hx338_28
       try clear hx338_29
       try clear hx338_3
       try clear hx338_30
       try clear hx338_4
       try clear hx338_5
       try clear hx338_6
       try clear hx338_7
       try clear hx338_8
       try clear hx338_9
       try clear p2
       try clear p338
       try clear q338
       obtain ⟨kq, x40_8, rfl, HA, HJ8, BK337, BK339, HB⟩ := hcut
       cases kq with
       | zero => exact absurd HA.out (by simp [spec_SceneOk.j1])
       | succ kj8 =>
        have H := HA.out; clear HA
        simp only [spec_SceneOk.j1] at H
        by_cases c38 : x40_8 = true
        ·subst c38
         have H1 : (some false) = some r := by rw [if_pos rfl] at H; exact H
         clear H; have H := H1; clear H1
         obtain rfl := Option.some.inj H
         simp only [Option.some.injEq, Prod.mk.injEq] at H
         obtain ⟨rfl⟩ := H
         go_wp2_with (first | ((with_reducible refine gate_load (t := 56) rfl ?_); refine load_lie (t := 56) rfl rfl hM338 HB (by with_reducible rfl) rfl Try.underlying56 rfl (show (Try.prog.info? 56).map (·.size) = some 31 by kernel_rfl) rfl ?_) | ((with_reducible refine gate_load (t := 56) rfl ?_); refine load_lie0 (t := 56) rfl rfl hM338 (by with_reducible rfl) rfl Try.underlying56 rfl (show (Try.prog.info? 56).map (·.size) = some 31 by kernel_rfl) rfl ?_) | ((with_reducible refine gate_load (t := 56) rfl ?_); refine load_blk (t := 56) rfl rfl BK339 rfl z12_2 Try.underlying56 rfl (show (Try.prog.info? 56).map (·.size) = some 31 by kernel_rfl) rfl ?_) | ((with_reducible refine gate_store (t := 56) rfl ?_); refine wstore_blk (t := 56) rfl rfl BK339 rfl rfl z12_2 rfl (show (Try.prog.info? 56).map (·.size) = some 31 by kernel_rfl) rfl ?_; simp only [World.setCells, Nat.reduceAdd]))
         go_ret
         exact ⟨z12_10, z12_1⟩
        ·replace c38 := Bool.eq_false_iff.mpr c38
         subst c38
         have H1 : ((spec_NodeAt.f kj8 l0_0 ((rd_T56 l0_0 x3_1).f1)).bind fun t344 => (if ((rd_T56 l0_0 x3_1).f1) = 0 then (spec_SceneOk.l0 kj8 (wrap64 (x3_1 + 1)) l0_0) else (if t344 < 0 then (some false) else (if 0 ≤ t344 then (if t344 < (l0_0.length : Int) then (if ((rd_T56 l0_0 t344).f2 = true) then (spec_SceneOk.l0 kj8 (wrap64 (x3_1 + 1)) l0_0) else (some false)) else (none)) else (none))))) = some r := by rw [if_neg (show ¬ (false = true) by decide)] at H; exact H
         clear H; have H := H1; clear H1
         replace H := Option.bind_eq_some_iff.mp H
         obtain ⟨t344, A390, H⟩ := H
         try dsimp only at H
         have A39 := Aside0.mk A390
         clear A390
         by_cases c40 : ((rd_T56 l0_0 x3_1).f1) = 0
         ·rw [if_pos c40] at H
          have c40b0 : (((rd_T56 l0_0 x3_1).f1) == 0) = true := beq_iff_eq.mpr c40
          have c40b1 : (((rd_T56 l0_0 x3_1).f1) != 0) = false := bne_eq_false_iff_eq.mpr c40
          clear c40
          have H' := Aside0.mk H
          clear H; have hnb41 := NB337_339.out; have hnc41 := NB339_337.out
          obtain ⟨_, _⟩ := be_1 BK337.out
          obtain ⟨_, _, _, _, _, _, _, _, _, _, _, _, _, _, _, _, _, _, _, _, _, _, _, _, _, _, _, _, _, _, _, _, _, _, _, _, _, _, _, _, _, _, _, _, _, _, _, _, _, _, _, _, _, _, _, _, _, _, _, _, _, _⟩ := be_31 BK339.out
          go_wp2_with (first | ((with_reducible refine gate_load (t := 56) rfl ?_); refine load_lie (t := 56) rfl rfl hM338 HB (by with_reducible rfl) rfl Try.underlying56 rfl (show (Try.prog.info? 56).map (·.size) = some 31 by kernel_rfl) rfl ?_) | ((with_reducible refine gate_load (t := 56) rfl ?_); refine load_lie0 (t := 56) rfl rfl hM338 (by with_reducible rfl) rfl Try.underlying56 rfl (show (Try.prog.info? 56).map (·.size) = some 31 by kernel_rfl) rfl ?_) | ((with_reducible refine gate_callee (f := 103) rfl ?_); refine goesL_ (some 44) rfl rfl Try.func103 (by kernel_rfl) rfl #[.agg #[.slice (some ad338) l0_0.length c0_0], .int .i64 ((rd_T56 l0_0 x3_1).f1)] rfl z12_6 ?_; (with_reducible refine (spec_NodeAt.calls kj8 _ _ l0_0 ((rd_T56 l0_0 x3_1).f1) t344 _ ?side1 ?side2 A39.out).mono ?_); (case side1 => exact z12_5); (case side2 => exact HC0_0.out); rintro e w44 ⟨rfl, hb⟩; refine ⟨_, rfl, ?_⟩; have n0_ := Aside0.mk (blk_belowB BK337 z12_4 hb); have n1_ := Aside0.mk (blk_belowB BK339 z12_7 hb); have n2_ := Aside0.mk (below_step z12_1 hb); clear BK337; clear BK339; clear HB; have BK337 := n0_; have BK339 := n1_; have HB := n2_; clear n0_ n1_ n2_; (try clear hb); obtain ⟨_, _, _, _, _, _, _, _, _, _, _, _, _, _, _, _, _, _, _, _, _, _, _, _, _, _, _, _, _, _, _, _, _, _, _, _, _, _, _, _, _, _, _, _, _, _, _, _, _, _, _, _, _, _, _, _, _, _, _, _, _, _⟩ := be_31 BK339.out) | ((with_reducible refine gate_load (t := 56) rfl ?_); refine load_blk (t := 56) rfl rfl BK339 rfl z12_2 Try.underlying56 rfl (show (Try.prog.info? 56).map (·.size) = some 31 by kernel_rfl) rfl ?_) | ((with_reducible refine gate_store (t := 56) rfl ?_); refine wstore_blk (t := 56) rfl rfl BK339 rfl rfl z12_2 rfl (show (Try.prog.info? 56).map (·.size) = some 31 by kernel_rfl) rfl ?_; simp only [World.setCells, Nat.reduceAdd]))
          go_roundg kj8
          case measure => have := HK1.out; have := HJ8.out; omega
          case rel => exact ⟨(wrap64 (x3_1 + 1)), (by first | rfl | (simp; done) | (simp [*]; done)), H', ⟨by have := HK1.out; have := HJ8.out; omega⟩, ⟨by (with_reducible repeat (first | refine blk_drewN ?_ _ | refine blk_drew ?_ | refine blk_alloc ?_ _)); exact BK337.out⟩, ⟨by repeat (first | (with_reducible first | exact HB.out | apply below_alloc | apply pw_below_drewN | apply below_drew1 | refine below_set ?_ GE337.out | refine below_set ?_ GE339.out) | exact HB.out)⟩⟩
         ·rw [if_neg c40] at H
          have c40b0 : (((rd_T56 l0_0 x3_1).f1) == 0) = false := beq_eq_false_iff_ne.mpr c40
          have c40b1 : (((rd_T56 l0_0 x3_1).f1) != 0) = true := bne_iff_ne.mpr c40
          by_cases c46 : t344 < 0
          ·rw [if_pos c46] at H
           have c46b0 : decide (t344 < 0) = true := decide_eq_true c46
           clear c46
           obtain rfl := Option.some.inj H
           simp only [Option.some.injEq, Prod.mk.injEq] at H
           obtain ⟨rfl⟩ := H
           have hnb47 := NB337_339.out; have hnc47 := NB339_337.out
           obtain ⟨_, _⟩ := be_1 BK337.out
           obtain ⟨_, _, _, _, _, _, _, _, _, _, _, _, _, _, _, _, _, _, _, _, _, _, _, _, _, _, _, _, _, _, _, _, _, _, _, _, _, _, _, _, _, _, _, _, _, _, _, _, _, _, _, _, _, _, _, _, _, _, _, _, _, _⟩ := be_31 BK339.out
           go_wp2_with (first | ((with_reducible refine gate_load (t := 56) rfl ?_); refine load_lie (t := 56) rfl rfl hM338 HB (by with_reducible rfl) rfl Try.underlying56 rfl (show (Try.prog.info? 56).map (·.size) = some 31 by kernel_rfl) rfl ?_) | ((with_reducible refine gate_load (t := 56) rfl ?_); refine load_lie0 (t := 56) rfl rfl hM338 (by with_reducible rfl) rfl Try.underlying56 rfl (show (Try.prog.info? 56).map (·.size) = some 31 by kernel_rfl) rfl ?_) | ((with_reducible refine gate_callee (f := 103) rfl ?_); refine goesL_ (some 44) rfl rfl Try.func103 (by kernel_rfl) rfl #[.agg #[.slice (some ad338) l0_0.length c0_0], .int .i64 ((rd_T56 l0_0 x3_1).f1)] rfl z12_6 ?_; (with_reducible refine (spec_NodeAt.calls kj8 _ _ l0_0 ((rd_T56 l0_0 x3_1).f1) t344 _ ?side1 ?side2 A39.out).mono ?_); (case side1 => exact z12_5); (case side2 => exact HC0_0.out); rintro e w50 ⟨rfl, hb⟩; refine ⟨_, rfl, ?_⟩; have n0_ := Aside0.mk (blk_belowB BK337 z12_4 hb); have n1_ := Aside0.mk (blk_belowB BK339 z12_7 hb); have n2_ := Aside0.mk (below_step z12_1 hb); clear BK337; clear BK339; clear HB; have BK337 := n0_; have BK339 := n1_; have HB := n2_; clear n0_ n1_ n2_; (try clear hb); obtain ⟨_, _, _, _, _, _, _, _, _, _, _, _, _, _, _, _, _, _, _, _, _, _, _, _, _, _, _, _, _, _, _, _, _, _, _, _, _, _, _, _, _, _, _, _, _, _, _, _, _, _, _, _, _, _, _, _, _, _, _, _, _, _⟩ := be_31 BK339.out) | ((with_reducible refine gate_load (t := 56) rfl ?_); refine load_blk (t := 56) rfl rfl BK339 rfl z12_2 Try.underlying56 rfl (show (Try.prog.info? 56).map (·.size) = some 31 by kernel_rfl) rfl ?_) | ((with_reducible refine gate_store (t := 56) rfl ?_); refine wstore_blk (t := 56) rfl rfl BK339 rfl rfl z12_2 rfl (show (Try.prog.info? 56).map (·.size) = some 31 by kernel_rfl) rfl ?_; simp only [World.setCells, Nat.reduceAdd]))
           go_ret
           exact ⟨z12_10, z12_1⟩
          ·rw [if_neg c46] at H
           have c46b0 : decide (t344 < 0) = false := decide_eq_false c46
           clear c46
           by_cases c52 : 0 ≤ t344
           ·rw [if_pos c52] at H
            have c52b0 : decide (0 ≤ t344) = true := decide_eq_true c52
            clear c52
            by_cases c53 : t344 < (l0_0.length : Int)
            ·rw [if_pos c53] at H
             have c53b0 : decide (t344 < (l0_0.length : Int)) = true := decide_eq_true c53
             clear c53
             obtain ⟨bq54, hbq54⟩ : ∃ b_ : Bool, b_ = ((rd_T56 l0_0 t344).f2) := ⟨_, rfl⟩
             replace H : (if (bq54 = true) then (spec_SceneOk.l0 kj8 (wrap64 (x3_1 + 1)) l0_0) else (some false)) = some r := by rw [← hbq54] at H; exact H
             have Nbq54 := Aside0.mk hbq54
             clear hbq54
             by_cases c55 : (bq54 = true)
             ·subst c55
              have H1 : (spec_SceneOk.l0 kj8 (wrap64 (x3_1 + 1)) l0_0) = some r := by rw [if_pos rfl] at H; exact H
              clear H; have H := H1; clear H1
              have H' := Aside0.mk H
              clear H; have hnb56 := NB337_339.out; have hnc56 := NB339_337.out
              obtain ⟨_, _⟩ := be_1 BK337.out
              obtain ⟨_, _, _, _, _, _, _, _, _, _, _, _, _, _, _, _, _, _, _, _, _, _, _, _, _, _, _, _, _, _, _, _, _, _, _, _, _, _, _, _, _, _, _, _, _, _, _, _, _, _, _, _, _, _, _, _, _, _, _, _, _, _⟩ := be_31 BK339.out
              go_wp2_with (first | ((with_reducible refine gate_load (t := 56) rfl ?_); refine load_lie (t := 56) rfl rfl hM338 HB (by with_reducible rfl) rfl Try.underlying56 rfl (show (Try.prog.info? 56).map (·.size) = some 31 by kernel_rfl) rfl ?_) | ((with_reducible refine gate_load (t := 56) rfl ?_); refine load_lie0 (t := 56) rfl rfl hM338 (by with_reducible rfl) rfl Try.underlying56 rfl (show (Try.prog.info? 56).map (·.size) = some 31 by kernel_rfl) rfl ?_) | ((with_reducible refine gate_callee (f := 103) rfl ?_); refine goesL_ (some 44) rfl rfl Try.func103 (by kernel_rfl) rfl #[.agg #[.slice (some ad338) l0_0.length c0_0], .int .i64 ((rd_T56 l0_0 x3_1).f1)] rfl z12_6 ?_; (with_reducible refine (spec_NodeAt.calls kj8 _ _ l0_0 ((rd_T56 l0_0 x3_1).f1) t344 _ ?side1 ?side2 A39.out).mono ?_); (case side1 => exact z12_5); (case side2 => exact HC0_0.out); rintro e w59 ⟨rfl, hb⟩; refine ⟨_, rfl, ?_⟩; have n0_ := Aside0.mk (blk_belowB BK337 z12_4 hb); have n1_ := Aside0.mk (blk_belowB BK339 z12_7 hb); have n2_ := Aside0.mk (below_step z12_1 hb); clear BK337; clear BK339; clear HB; have BK337 := n0_; have BK339 := n1_; have HB := n2_; clear n0_ n1_ n2_; (try clear hb); obtain ⟨_, _, _, _, _, _, _, _, _, _, _, _, _, _, _, _, _, _, _, _, _, _, _, _, _, _, _, _, _, _, _, _, _, _, _, _, _, _, _, _, _, _, _, _, _, _, _, _, _, _, _, _, _, _, _, _, _, _, _, _, _, _⟩ := be_31 BK339.out; obtain ⟨_, _⟩ := be_1 BK337.out; have p345 : 0 ≤ (t344 : Int) := of_decide_eq_true (by first | (with_reducible assumption) | assumption); have q345 : t344 < (l0_0.length : Int) := of_decide_eq_true (by first | (with_reducible assumption) | assumption); obtain ⟨ad345, A345_9, c345_9, A345_10, c345_10, A345_13, c345_13, A345_29, c345_29, A345_30, c345_30, e345, hx345_0, hx345_1, hx345_2, hx345_3, hx345_4, hx345_5, hx345_6, hx345_7, hx345_8, hx345_9, hx345_10, hx345_11, hx345_12, hx345_13, hx345_14, hx345_15, hx345_16, hx345_17, hx345_18, hx345_19, hx345_20, hx345_21, hx345_22, hx345_23, hx345_24, hx345_25, hx345_26, hx345_27, hx345_28, hx345_29, hx345_30, hl345_9, hi345_9, hl345_10, hi345_10, hl345_13, hi345_13, hl345_29, hi345_29, hl345_30, hi345_30⟩ := at_T56 HR0_0.out t344 p345 q345; (try rw [← Nbq54.out] at hx345_2); (try rw [← Nbq54.out] at hx345_11); obtain rfl : ad338 = ad345 := (by injection e345); replace hx345_0 := cell_go HB hx345_0; replace hx345_1 := cell_go HB hx345_1; replace hx345_2 := cell_go HB hx345_2; replace hx345_3 := cell_go HB hx345_3; replace hx345_4 := cell_go HB hx345_4; replace hx345_5 := cell_go HB hx345_5; replace hx345_6 := cell_go HB hx345_6; replace hx345_7 := cell_go HB hx345_7; replace hx345_8 := cell_go HB hx345_8; replace hx345_9 := cell_go HB hx345_9; replace hx345_10 := cell_go HB hx345_10; replace hx345_11 := cell_go HB hx345_11; replace hx345_12 := cell_go HB hx345_12; replace hx345_13 := cell_go HB hx345_13; replace hx345_14 := cell_go HB hx345_14; replace hx345_15 := cell_go HB hx345_15; replace hx345_16 := cell_go HB hx345_16; replace hx345_17 := cell_go HB hx345_17; replace hx345_18 := cell_go HB hx345_18; replace hx345_19 := cell_go HB hx345_19; replace hx345_20 := cell_go HB hx345_20; replace hx345_21 := cell_go HB hx345_21; replace hx345_22 := cell_go HB hx345_22; replace hx345_23 := cell_go HB hx345_23; replace hx345_24 := cell_go HB hx345_24; replace hx345_25 := cell_go HB hx345_25; replace hx345_26 := cell_go HB hx345_26; replace hx345_27 := cell_go HB hx345_27; replace hx345_28 := cell_go HB hx345_28; replace hx345_29 := cell_go HB hx345_29; replace hx345_30 := cell_go HB hx345_30; have HR345_9 := Aside0.mk hi345_9; have HC345_9 := Aside0.mk hl345_9; clear hi345_9 hl345_9; have HR345_10 := Aside0.mk hi345_10; have HC345_10 := Aside0.mk hl345_10; clear hi345_10 hl345_10; have HR345_13 := Aside0.mk hi345_13; have HC345_13 := Aside0.mk hl345_13; clear hi345_13 hl345_13; have HR345_29 := Aside0.mk hi345_29; have HC345_29 := Aside0.mk hl345_29; clear hi345_29 hl345_29; have HR345_30 := Aside0.mk hi345_30; have HC345_30 := Aside0.mk hl345_30; clear hi345_30 hl345_30; replace p345 := eq_true p345; replace q345 := eq_true q345) | ((with_reducible refine gate_load (t := 56) rfl ?_); refine load_blk (t := 56) rfl rfl BK339 rfl z12_2 Try.underlying56 rfl (show (Try.prog.info? 56).map (·.size) = some 31 by kernel_rfl) rfl ?_) | ((with_reducible refine gate_store (t := 56) rfl ?_); refine wstore_blk (t := 56) rfl rfl BK339 rfl rfl z12_2 rfl (show (Try.prog.info? 56).map (·.size) = some 31 by kernel_rfl) rfl ?_; simp only [World.setCells, Nat.reduceAdd]))
              go_roundg kj8
              case measure => have := HK1.out; have := HJ8.out; omega
              case rel => exact ⟨(wrap64 (x3_1 + 1)), (by first | rfl | (simp; done) | (simp [*]; done)), H', ⟨by have := HK1.out; have := HJ8.out; omega⟩, ⟨by (with_reducible repeat (first | refine blk_drewN ?_ _ | refine blk_drew ?_ | refine blk_alloc ?_ _)); exact BK337.out⟩, ⟨by repeat (first | (with_reducible first | exact HB.out | apply below_alloc | apply pw_below_drewN | apply below_drew1 | refine below_set ?_ GE337.out | refine below_set ?_ GE339.out) | exact HB.out)⟩⟩
             ·replace c55 := Bool.eq_false_iff.mpr c55
              subst c55
              have H1 : (some false) = some r := by rw [if_neg (show ¬ (false = true) by decide)] at H; exact H
              clear H; have H := H1; clear H1
              obtain rfl := Option.some.inj H
              simp only [Option.some.injEq, Prod.mk.injEq] at H
              obtain ⟨rfl⟩ := H
              have hnb62 := NB337_339.out; have hnc62 := NB339_337.out
              obtain ⟨_, _⟩ := be_1 BK337.out
              obtain ⟨_, _, _, _, _, _, _, _, _, _, _, _, _, _, _, _, _, _, _, _, _, _, _, _, _, _, _, _, _, _, _, _, _, _, _, _, _, _, _, _, _, _, _, _, _, _, _, _, _, _, _, _, _, _, _, _, _, _, _, _, _, _⟩ := be_31 BK339.out
              go_wp2_with (first | ((with_reducible refine gate_load (t := 56) rfl ?_); refine load_lie (t := 56) rfl rfl hM338 HB (by with_reducible rfl) rfl Try.underlying56 rfl (show (Try.prog.info? 56).map (·.size) = some 31 by kernel_rfl) rfl ?_) | ((with_reducible refine gate_load (t := 56) rfl ?_); refine load_lie0 (t := 56) rfl rfl hM338 (by with_reducible rfl) rfl Try.underlying56 rfl (show (Try.prog.info? 56).map (·.size) = some 31 by kernel_rfl) rfl ?_) | ((with_reducible refine gate_callee (f := 103) rfl ?_); refine goesL_ (some 44) rfl rfl Try.func103 (by kernel_rfl) rfl #[.agg #[.slice (some ad338) l0_0.length c0_0], .int .i64 ((rd_T56 l0_0 x3_1).f1)] rfl z12_6 ?_; (with_reducible refine (spec_NodeAt.calls kj8 _ _ l0_0 ((rd_T56 l0_0 x3_1).f1) t344 _ ?side1 ?side2 A39.out).mono ?_); (case side1 => exact z12_5); (case side2 => exact HC0_0.out); rintro e w65 ⟨rfl, hb⟩; refine ⟨_, rfl, ?_⟩; have n0_ := Aside0.mk (blk_belowB BK337 z12_4 hb); have n1_ := Aside0.mk (blk_belowB BK339 z12_7 hb); have n2_ := Aside0.mk (below_step z12_1 hb); clear BK337; clear BK339; clear HB; have BK337 := n0_; have BK339 := n1_; have HB := n2_; clear n0_ n1_ n2_; (try clear hb); obtain ⟨_, _, _, _, _, _, _, _, _, _, _, _, _, _, _, _, _, _, _, _, _, _, _, _, _, _, _, _, _, _, _, _, _, _, _, _, _, _, _, _, _, _, _, _, _, _, _, _, _, _, _, _, _, _, _, _, _, _, _, _, _, _⟩ := be_31 BK339.out; obtain ⟨_, _⟩ := be_1 BK337.out; have p345 : 0 ≤ (t344 : Int) := of_decide_eq_true (by first | (with_reducible assumption) | assumption); have q345 : t344 < (l0_0.length : Int) := of_decide_eq_true (by first | (with_reducible assumption) | assumption); obtain ⟨ad345, A345_9, c345_9, A345_10, c345_10, A345_13, c345_13, A345_29, c345_29, A345_30, c345_30, e345, hx345_0, hx345_1, hx345_2, hx345_3, hx345_4, hx345_5, hx345_6, hx345_7, hx345_8, hx345_9, hx345_10, hx345_11, hx345_12, hx345_13, hx345_14, hx345_15, hx345_16, hx345_17, hx345_18, hx345_19, hx345_20, hx345_21, hx345_22, hx345_23, hx345_24, hx345_25, hx345_26, hx345_27, hx345_28, hx345_29, hx345_30, hl345_9, hi345_9, hl345_10, hi345_10, hl345_13, hi345_13, hl345_29, hi345_29, hl345_30, hi345_30⟩ := at_T56 HR0_0.out t344 p345 q345; (try rw [← Nbq54.out] at hx345_2); (try rw [← Nbq54.out] at hx345_11); obtain rfl : ad338 = ad345 := (by injection e345); replace hx345_0 := cell_go HB hx345_0; replace hx345_1 := cell_go HB hx345_1; replace hx345_2 := cell_go HB hx345_2; replace hx345_3 := cell_go HB hx345_3; replace hx345_4 := cell_go HB hx345_4; replace hx345_5 := cell_go HB hx345_5; replace hx345_6 := cell_go HB hx345_6; replace hx345_7 := cell_go HB hx345_7; replace hx345_8 := cell_go HB hx345_8; replace hx345_9 := cell_go HB hx345_9; replace hx345_10 := cell_go HB hx345_10; replace hx345_11 := cell_go HB hx345_11; replace hx345_12 := cell_go HB hx345_12; replace hx345_13 := cell_go HB hx345_13; replace hx345_14 := cell_go HB hx345_14; replace hx345_15 := cell_go HB hx345_15; replace hx345_16 := cell_go HB hx345_16; replace hx345_17 := cell_go HB hx345_17; replace hx345_18 := cell_go HB hx345_18; replace hx345_19 := cell_go HB hx345_19; replace hx345_20 := cell_go HB hx345_20; replace hx345_21 := cell_go HB hx345_21; replace hx345_22 := cell_go HB hx345_22; replace hx345_23 := cell_go HB hx345_23; replace hx345_24 := cell_go HB hx345_24; replace hx345_25 := cell_go HB hx345_25; replace hx345_26 := cell_go HB hx345_26; replace hx345_27 := cell_go HB hx345_27; replace hx345_28 := cell_go HB hx345_28; replace hx345_29 := cell_go HB hx345_29; replace hx345_30 := cell_go HB hx345_30; have HR345_9 := Aside0.mk hi345_9; have HC345_9 := Aside0.mk hl345_9; clear hi345_9 hl345_9; have HR345_10 := Aside0.mk hi345_10; have HC345_10 := Aside0.mk hl345_10; clear hi345_10 hl345_10; have HR345_13 := Aside0.mk hi345_13; have HC345_13 := Aside0.mk hl345_13; clear hi345_13 hl345_13; have HR345_29 := Aside0.mk hi345_29; have HC345_29 := Aside0.mk hl345_29; clear hi345_29 hl345_29; have HR345_30 := Aside0.mk hi345_30; have HC345_30 := Aside0.mk hl345_30; clear hi345_30 hl345_30; replace p345 := eq_true p345; replace q345 := eq_true q345) | ((with_reducible refine gate_load (t := 56) rfl ?_); refine load_blk (t := 56) rfl rfl BK339 rfl z12_2 Try.underlying56 rfl (show (Try.prog.info? 56).map (·.size) = some 31 by kernel_rfl) rfl ?_) | ((with_reducible refine gate_store (t := 56) rfl ?_); refine wstore_blk (t := 56) rfl rfl BK339 rfl rfl z12_2 rfl (show (Try.prog.info? 56).map (·.size) = some 31 by kernel_rfl) rfl ?_; simp only [World.setCells, Nat.reduceAdd]))
              go_ret
              exact ⟨z12_10, z12_1⟩
            ·rw [if_neg c53] at H
             exact absurd H (by simp)
           ·rw [if_neg c52] at H
            exact absurd H (by simp)
     ·rw [if_neg c8] at H
      exact absurd H (by simp)
    ·rw [if_neg c7] at H
     have c7b0 : decide (x3_1 < (l0_0.length : Int)) = false := decide_eq_false c7
     clear c7
     obtain rfl := Option.some.inj H
     simp only [Option.some.injEq, Prod.mk.injEq] at H
     obtain ⟨rfl⟩ := H
     obtain ⟨_, _⟩ := be_1 BK337.out
     go_wp2_with (first | ((with_reducible refine gate_load (t := 56) rfl ?_); refine load_blk (t := 56) rfl rfl BK339 rfl z12_2 Try.underlying56 rfl (show (Try.prog.info? 56).map (·.size) = some 31 by kernel_rfl) rfl ?_) | ((with_reducible refine gate_store (t := 56) rfl ?_); refine wstore_blk (t := 56) rfl rfl BK339 rfl rfl z12_2 rfl (show (Try.prog.info? 56).map (·.size) = some 31 by kernel_rfl) rfl ?_; simp only [World.setCells, Nat.reduceAdd]))
     go_ret
     exact ⟨z12_10, z12_9⟩

end Go.Proofs.Ytghbenapnhcllaa.MFnExactSceneOk
