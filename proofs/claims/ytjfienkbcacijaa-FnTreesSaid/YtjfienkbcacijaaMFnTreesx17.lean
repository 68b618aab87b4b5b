/- Functions of the program as Lean functions, and the proof that a call comes to just these: machine text of this session's own program (myprint.py). -/
import Derived.Test.YtjfienkbcacijaaMFnTreesx0
import Derived.Test.YtjfienkbcacijaaMFnTreesx3
import Derived.Test.YtjfienkbcacijaaMFnTreesx4
import Derived.Test.YtjfienkbcacijaaMFnTreesx5
import Derived.Test.YtjfienkbcacijaaMFnTreesx11
import Derived.Test.YtjfienkbcacijaaMFnTreesx13
import Derived.Test.YtjfienkbcacijaaMFnTreesx14
import Derived.Test.YtjfienkbcacijaaMFnTreesx15
import Derived.Test.YtjfienkbcacijaaMFnTreesx16
namespace Go.Proofs.Ytjfienkbcacijaa.MFnTrees
open Go.RowKit Go.Proofs.YtjfienkbcacijaaW.PrintWords Go.Proofs.YtjfienkbcacijaaW.PrintLast Go.Proofs.YtjfienkbcacijaaW.PrintMore
attribute [local go_sem] max2_int min2_int max_two min_two max_three min_three max_four min_four   -- for this text's walks alone
set_option linter.unusedVariables false
set_option linter.unusedSimpArgs false

def y17_1 : Array Bool := (bA 12 0)
def y17_3 : Array Bool := (bA 12 1)
def y17_4 : Array Bool := (bA 12 9)
def y17_5 : Array Bool := (bA 12 25)
def y17_6 : Array Bool := (bA 12 57)
def y17_8 : Array Bool := (bA 12 59)
def y17_13 : Array Bool := (bA 12 63)
def y17_15 : Array Bool := (bA 12 127)
def y17_26 : Array Bool := (bA 12 2047)
theorem x17_put {P : Prop} (h : P := by simp only [Act.put, List.setIfInBounds_toArray, List.set_cons_zero, List.set_cons_succ, i64_w, i32_w]; rfl) : P := h
theorem z17_10 {P : Prop} (h : P := by repeat (first | (with_reducible first | exact HB.out | apply below_alloc | apply pw_below_drewN | apply below_drew1 | refine below_set ?_ J6.out | refine below_set ?_ JS.out | refine below_setE XL.out ?_ JS.out) | exact HB.out)) : P := h
theorem z17_11 {P : Prop} (h : P := by repeat (first | (with_reducible exact (Kd.N_reads' XG.out).2.2) | (with_reducible refine Kd.C_alloc ?_ _) | (with_reducible refine Kd.C_drewN ?_ _) | (with_reducible refine Kd.C_drew ?_) | exact (Kd.N_reads' XG.out).2.2)) : P := h
theorem z17_12 {P : Prop} (h : P := by (with_reducible repeat (first | refine blk_drewN ?_ _ | refine blk_drew ?_ | refine blk_alloc ?_ _ | refine blk_far ?_ Yk.out _ | refine blk_far ?_ XT.out _ | apply blk_putQ)); with_reducible exact XJ.out) : P := h
theorem z17_13 {P : Prop} (h : P := by (with_reducible repeat (first | refine blk_drewN ?_ _ | refine blk_drew ?_ | refine blk_alloc ?_ _ | refine blk_far ?_ Yk.out _ | refine blk_far ?_ XT.out _)); with_reducible exact XJ.out) : P := h
theorem z17_14 {P : Prop} (h : P := by repeat (first | (with_reducible first | exact HB.out | apply below_alloc | apply pw_below_drewN | apply below_drew1 | refine below_set ?_ J6.out | refine below_set ?_ JS.out | refine below_setE XL.out ?_ JS.out | refine below_set ?_ YQ.out | refine below_setE X6.out ?_ YQ.out) | exact HB.out)) : P := h
theorem z17_16 {P : Prop} (h : P := by repeat (first | (with_reducible first | exact HB.out | apply below_alloc | apply pw_below_drewN | apply below_drew1 | refine below_set ?_ J6.out) | exact HB.out)) : P := h
theorem z17_17 {P : Prop} (h : P := by repeat (first | (with_reducible exact XO.out) | (with_reducible refine Kd.C_alloc ?_ _) | (with_reducible refine Kd.C_drewN ?_ _) | (with_reducible refine Kd.C_drew ?_) | exact XO.out)) : P := h
theorem z17_18 {P : Prop} (h : P := by repeat (first | (with_reducible exact XP.out) | (with_reducible refine Kd.C_alloc ?_ _) | (with_reducible refine Kd.C_drewN ?_ _) | (with_reducible refine Kd.C_drew ?_) | exact XP.out)) : P := h
theorem z17_19 {P : Prop} (h : P := by repeat (first | (with_reducible exact XQ.out) | (with_reducible refine Kd.C_alloc ?_ _) | (with_reducible refine Kd.C_drewN ?_ _) | (with_reducible refine Kd.C_drew ?_) | exact XQ.out)) : P := h
theorem z17_20 {P : Prop} (h : P := by repeat (first | (with_reducible exact XR.out) | (with_reducible refine Kd.C_alloc ?_ _) | (with_reducible refine Kd.C_drewN ?_ _) | (with_reducible refine Kd.C_drew ?_) | exact XR.out)) : P := h
theorem z17_21 {P : Prop} (h : P := by repeat (first | (with_reducible exact XV.out) | (with_reducible refine Kd.C_alloc ?_ _) | (with_reducible refine Kd.C_drewN ?_ _) | (with_reducible refine Kd.C_drew ?_) | exact XV.out)) : P := h
theorem z17_22 {P : Prop} (h : P := by (with_reducible repeat (first | refine blk_drewN ?_ _ | refine blk_drew ?_ | refine blk_alloc ?_ _)); with_reducible exact XH.out) : P := h
theorem z17_23 {P : Prop} (h : P := by (with_reducible repeat (first | refine blk_drewN ?_ _ | refine blk_drew ?_ | refine blk_alloc ?_ _)); with_reducible exact X5.out) : P := h
theorem z17_25 {P : Prop} (h : P := by (with_reducible repeat (first | apply Kd.N_alloc | apply Kd.N_drewN | apply Kd.N_drew)); exact Kd.N_mono XG.out (fun _ hk => ⟨hk.1.1, ⟨hk.1.2.1, ⟨hk.1.2.2, hk.2⟩⟩⟩)) : P := h
theorem z17_26 {P : Prop} (h : P := by refine (cell_farE X6.out ?_).trans (hHeld.2.1) <;> ((try dsimp only); exact (by first | exact Kd.own_blk (Kd.R_ne X2.out X5.out (by decide)) | (rw [add_block]; exact Kd.own_blk (Kd.R_ne X2.out X5.out (by decide))) | (show (Addr.add _ _).block ≠ _; rw [add_block]; exact Kd.own_blk (Kd.R_ne X2.out X5.out (by decide))) | (dsimp only; exact Kd.own_blk (Kd.R_ne X2.out X5.out (by decide)))))) : P := h
theorem z17_27 {P : Prop} (h : P := by (try dsimp only); exact (by first | exact Kd.own_blk (Kd.N_away XG.out (fun _ hk => hk.2.2.2)) | (rw [add_block]; exact Kd.own_blk (Kd.N_away XG.out (fun _ hk => hk.2.2.2))) | (show (Addr.add _ _).block ≠ _; rw [add_block]; exact Kd.own_blk (Kd.N_away XG.out (fun _ hk => hk.2.2.2))) | (dsimp only; exact Kd.own_blk (Kd.N_away XG.out (fun _ hk => hk.2.2.2))))) : P := h
theorem z17_28 {P : Prop} (h : P := by repeat (first | (with_reducible exact HR0.out) | (with_reducible refine Kd.C_alloc ?_ _) | (with_reducible refine Kd.C_drewN ?_ _) | (with_reducible refine Kd.C_drew ?_) | exact HR0.out)) : P := h
theorem z17_29 {P : Prop} (h : P := by apply blk_fin; (focus ((with_reducible repeat (first | apply blk_putQ | apply blk_setE X6.out | apply blk_setE XL.out | refine blk_drewN ?_ _ | refine blk_drew ?_ | refine blk_alloc ?_ _)); exact XJ.out; all_goals rfl)); first | (simp only [List.setIfInBounds_toArray, List.set_cons_zero, List.set_cons_succ]; done) | rfl) : P := h
theorem z17_31 {P : Prop} (h : P := by (with_reducible repeat (first | apply Kd.N_alloc | apply Kd.N_drewN | apply Kd.N_drew)); exact (Kd.N_mono (Kd.N_far (p := ⟨XW, 0, none⟩) (Kd.N_mono YO.out (fun k_ hk => (⟨hk, hk.2⟩ : _ ∧ k_ ≠ XW))) (fun _ hk => hk.2) (.slice J5 XD.length X8)) (fun _ h_ => h_.1))) : P := h
theorem z17_32 {P : Prop} (h : P := by (with_reducible repeat (first | apply Kd.N_alloc | apply Kd.N_drewN | apply Kd.N_drew)); exact Kd.N_mono (Kd.N_farE X6.out (Kd.N_mono XG.out (fun k_ hk => (⟨hk, hk.2.2.2⟩ : _ ∧ k_ ≠ XX))) (fun _ hk => hk.2)) (fun _ hk => ⟨hk.1.1, ⟨hk.1.2.1, hk.1.2.2.1⟩⟩)) : P := h
theorem z17_33 {P : Prop} (h : P := by (with_reducible repeat (first | refine blk_drewN ?_ _ | refine blk_drew ?_ | refine blk_alloc ?_ _)); refine blk_farE X6.out ?_ XU.out; (with_reducible repeat (first | refine blk_drewN ?_ _ | refine blk_drew ?_ | refine blk_alloc ?_ _)); exact XH.out) : P := h
theorem z17_34 {P : Prop} (h : P := by (with_reducible repeat (first | refine blk_drewN ?_ _ | refine blk_drew ?_ | refine blk_alloc ?_ _)); refine blk_farE X6.out ?_ XT.out; (with_reducible repeat (first | refine blk_drewN ?_ _ | refine blk_drew ?_ | refine blk_alloc ?_ _)); exact XJ.out) : P := h
theorem z17_35 {P : Prop} (h : P := by (with_reducible repeat (first | apply Kd.N_alloc | apply Kd.N_drewN | apply Kd.N_drew)); exact (Kd.N_mono (Kd.N_farE XL.out (Kd.N_mono XG.out (fun k_ hk => (⟨hk, hk.2⟩ : _ ∧ k_ ≠ XK))) (fun _ hk => hk.2)) (fun _ h_ => h_.1))) : P := h
theorem z17_36 {P : Prop} (h : P := by (with_reducible repeat (first | apply Kd.V_alloc | apply Kd.V_drewN | apply Kd.V_drew)); exact (Kd.V_mono (Kd.V_farE XL.out (Kd.V_mono XY.out (fun k_ hk => (⟨hk, hk.2⟩ : _ ∧ k_ ≠ XK))) (fun _ hk => hk.2)) (fun _ h_ => h_.1))) : P := h
theorem z17_37 {P : Prop} (h : P := by (with_reducible repeat (first | apply Kd.V_alloc | apply Kd.V_drewN | apply Kd.V_drew)); exact (Kd.V_mono (Kd.V_farE XL.out (Kd.V_mono XZ.out (fun k_ hk => (⟨hk, hk.2⟩ : _ ∧ k_ ≠ XK))) (fun _ hk => hk.2)) (fun _ h_ => h_.1))) : P := h
theorem z17_38 {P : Prop} (h : P := by (with_reducible repeat (first | apply Kd.V_alloc | apply Kd.V_drewN | apply Kd.V_drew)); exact (Kd.V_mono (Kd.V_farE XL.out (Kd.V_mono X0.out (fun k_ hk => (⟨hk, hk.2⟩ : _ ∧ k_ ≠ XK))) (fun _ hk => hk.2)) (fun _ h_ => h_.1))) : P := h
theorem z17_39 {P : Prop} (h : P := by (with_reducible repeat (first | apply Kd.V_alloc | apply Kd.V_drewN | apply Kd.V_drew)); exact (Kd.V_mono (Kd.V_farE XL.out (Kd.V_mono X1.out (fun k_ hk => (⟨hk, hk.2⟩ : _ ∧ k_ ≠ XK))) (fun _ hk => hk.2)) (fun _ h_ => h_.1))) : P := h
theorem z17_40 {P : Prop} (h : P := by (with_reducible repeat (first | apply Kd.V_alloc | apply Kd.V_drewN | apply Kd.V_drew)); exact (Kd.V_mono (Kd.V_farE XL.out (Kd.V_mono X7.out (fun k_ hk => (⟨hk, hk.2⟩ : _ ∧ k_ ≠ XK))) (fun _ hk => hk.2)) (fun _ h_ => h_.1))) : P := h
theorem z17_41 {P : Prop} (h : P := by repeat (first | (with_reducible exact (Kd.R_reads' Zg.out).2.2) | (with_reducible refine Kd.C_alloc ?_ _) | (with_reducible refine Kd.C_drewN ?_ _) | (with_reducible refine Kd.C_drew ?_) | exact (Kd.R_reads' Zg.out).2.2)) : P := h
theorem z17_42 {P : Prop} (h : P := by (with_reducible repeat (first | apply Kd.R_alloc | apply Kd.R_drewN | apply Kd.R_drew)); exact Kd.R_mono (Kd.R_farE X6.out (Kd.R_types X2.out X5.out (by decide)) (fun _ hk => hk.2)) (fun _ hk => trivial)) : P := h
theorem z17_43 {P : Prop} (h : P := by have := HK1.out; have := J7.out; have := Us.out; have := HK4.out; omega) : P := h
theorem z17_44 {P : Prop} (h : P := by first | exact Z0 | exact of_decide_eq_true (by first | (with_reducible assumption) | assumption) | (have e_ := (Kd.N_reads' XG.out).1; omega)) : P := h
theorem z17_45 {P : Prop} (h : P := by (with_reducible repeat (first | refine blk_drewN ?_ _ | refine blk_drew ?_ | refine blk_alloc ?_ _)); with_reducible exact XJ.out) : P := h
/-! ### laws_FnTrees: function 8 -/
mutual
def laws_FnTrees.l0 : Nat → Int → Int → List (S69) → Option (Bool)
 | 0, _, _, _ => none
 | k + 1, x4, x5, XI => if x5 < (XI.length : Int) then (if 0 ≤ x5 then ((impl_KidsOf.f k XI ((rd_T69 XI x5).f0)).bind fun ZR => ((impl_NodeOk.f k ((rd_T69 XI x5).f0) ((rd_T69 XI x5).f1) ((rd_T69 XI x5).f2) ((rd_T69 XI x5).f3.f0) ((rd_T69 XI x5).f3.f1) ((rd_T69 XI x5).f3.f2) ((rd_T69 XI x5).f3.f3) ((rd_T69 XI x5).f3.f4) ((rd_T69 XI x5).f3.f5) ((rd_T69 XI x5).f4.f0) ((rd_T69 XI x5).f4.f1) ((rd_T69 XI x5).f5) ((rd_T69 XI x5).f6) ((rd_T69 XI x5).f7) ((rd_T69 XI x5).f8.f0) ((rd_T69 XI x5).f8.f1.f0) ((rd_T69 XI x5).f8.f1.f1) ((rd_T69 XI x5).f8.f1.f2) ((rd_T69 XI x5).f8.f1.f3) ((rd_T69 XI x5).f8.f2.f0) ((rd_T69 XI x5).f8.f2.f1) ((rd_T69 XI x5).f8.f2.f2) ((rd_T69 XI x5).f8.f2.f3) ((rd_T69 XI x5).f8.f3.f0) ((rd_T69 XI x5).f8.f3.f1) ((rd_T69 XI x5).f8.f4.f0) ((rd_T69 XI x5).f8.f4.f1) ((rd_T69 XI x5).f9) ((rd_T69 XI x5).f10) ((rd_T69 XI x5).f11.f0) ((rd_T69 XI x5).f11.f1)).bind fun UD => (if UD = true then ((impl_NodeAt.f k XI ((rd_T69 XI x5).f0)).bind fun Z1 => (if Z1 = x5 then ((impl_DepthOf.f k XI ((rd_T69 XI x5).f0)).bind fun Ut => ((impl_DepthOf.f k XI ((rd_T69 XI x5).f1)).bind fun Uu => (laws_FnTrees.j1 k (wrap64 (x4 + (ZR.length : Int))) x5 (Ut != (wrap64 (Uu + 1))) XI))) else (laws_FnTrees.j1 k (wrap64 (x4 + (ZR.length : Int))) x5 true XI))) else (laws_FnTrees.j1 k (wrap64 (x4 + (ZR.length : Int))) x5 true XI)))) else (none)) else (if x4 = (XI.length : Int) then ((impl_DepthOf.f k XI 0).bind fun Z2 => (if Z2 = 0 then ((impl_DepthOf.f k XI 98).bind fun Z3 => (if Z3 = 0 then ((impl_UnderOf.f k XI 98).bind fun UE => (some ((UE.length : Int) == 0))) else (some false))) else (some false))) else (some false))
def laws_FnTrees.j1 : Nat → Int → Int → Bool → List (S69) → Option (Bool)
 | 0, _, _, _, _ => none
 | k + 1, x4, x5, x61, XI => if x61 = true then (some false) else ((impl_UnderOf.f k XI ((rd_T69 XI x5).f0)).bind fun X3 => ((laws_in.f k X3 ((rd_T69 XI x5).f0)).bind fun UF => (if UF = true then ((spec_UnderOf.f k XI ((rd_T69 XI x5).f0)).bind fun Uv => ((laws_sameInts.f k X3 Uv).bind fun Uw => (laws_FnTrees.j2 k x4 x5 X3 (!Uw) XI))) else (laws_FnTrees.j2 k x4 x5 X3 true XI))))
def laws_FnTrees.j2 : Nat → Int → Int → List Int → Bool → List (S69) → Option (Bool)
 | 0, _, _, _, _, _ => none
 | k + 1, x4, x5, x7, x79, XI => if x79 = true then (some false) else (laws_FnTrees.l1 k x4 x5 x7 0 XI)
def laws_FnTrees.l1 : Nat → Int → Int → List Int → Int → List (S69) → Option (Bool)
 | 0, _, _, _, _, _ => none
 | k + 1, x4, x5, x7, x8, XI => if x8 < (x7.length : Int) then (if 0 ≤ x8 then ((impl_NodeAt.f k XI (rd x7 x8)).bind fun XF => (if 0 ≤ XF then (if XF < (XI.length : Int) then (if ((rd_T69 XI XF).f0) = ((rd_T69 XI x5).f0) then (laws_FnTrees.l1 k x4 x5 x7 (wrap64 (x8 + 1)) XI) else ((laws_in.f k x7 ((rd_T69 XI XF).f1)).bind fun UG => (if UG = true then (laws_FnTrees.l1 k x4 x5 x7 (wrap64 (x8 + 1)) XI) else (some false)))) else (none)) else (none))) else (none)) else (laws_FnTrees.l0 k x4 (wrap64 (x5 + 1)) XI)
end
def laws_FnTrees.f (k : Nat) (l0 : List Int) : Option (Bool) := (laws_big.f l0).bind fun UH => (if UH = true then (some true) else ((spec_DrawScene.f k l0).bind fun XD => ((impl_KidsOf.f k XD 0).bind fun Ux => ((impl_SceneOk.f k XD).bind fun UI => (if UI = true then (laws_FnTrees.l0 k (Ux.length : Int) 0 XD) else (some false))))))
theorem laws_FnTrees.mono_l : ∀ k, (∀ y0 y1 y2, LeO (laws_FnTrees.l0 k y0 y1 y2) (laws_FnTrees.l0 (k + 1) y0 y1 y2)) ∧ (∀ y0 y1 y2 y3, LeO (laws_FnTrees.j1 k y0 y1 y2 y3) (laws_FnTrees.j1 (k + 1) y0 y1 y2 y3)) ∧ (∀ y0 y1 y2 y3 y4, LeO (laws_FnTrees.j2 k y0 y1 y2 y3 y4) (laws_FnTrees.j2 (k + 1) y0 y1 y2 y3 y4)) ∧ (∀ y0 y1 y2 y3 y4, LeO (laws_FnTrees.l1 k y0 y1 y2 y3 y4) (laws_FnTrees.l1 (k + 1) y0 y1 y2 y3 y4))
 | 0 => ⟨fun _ _ _ r h => by simp [laws_FnTrees.l0] at h, fun _ _ _ _ r h => by simp [laws_FnTrees.j1] at h, fun _ _ _ _ _ r h => by simp [laws_FnTrees.j2] at h, fun _ _ _ _ _ r h => by simp [laws_FnTrees.l1] at h⟩
 | k + 1 => by
  obtain ⟨ih0, ih1, ih2, ih3⟩ := laws_FnTrees.mono_l k
  refine ⟨?_, ?_, ?_, ?_⟩
  ·intro y0 y1 y2
   unfold laws_FnTrees.l0
   with_reducible repeat' first | apply ih0 | apply ih1 | apply ih2 | apply ih3 | apply impl_DepthOf.mono | apply impl_KidsOf.mono | apply impl_NodeAt.mono | apply impl_NodeOk.mono | apply impl_SceneOk.mono | apply impl_UnderOf.mono | apply laws_in.mono | apply laws_sameInts.mono | apply spec_DrawScene.mono | apply spec_UnderOf.mono | exact LeO.refl _ | exact LeO.none _ | refine LeO.ite ?_ ?_ | refine LeO.bind ?_ (fun _ => ?_)
  ·intro y0 y1 y2 y3
   unfold laws_FnTrees.j1
   with_reducible repeat' first | apply ih0 | apply ih1 | apply ih2 | apply ih3 | apply impl_DepthOf.mono | apply impl_KidsOf.mono | apply impl_NodeAt.mono | apply impl_NodeOk.mono | apply impl_SceneOk.mono | apply impl_UnderOf.mono | apply laws_in.mono | apply laws_sameInts.mono | apply spec_DrawScene.mono | apply spec_UnderOf.mono | exact LeO.refl _ | exact LeO.none _ | refine LeO.ite ?_ ?_ | refine LeO.bind ?_ (fun _ => ?_)
  ·intro y0 y1 y2 y3 y4
   unfold laws_FnTrees.j2
   with_reducible repeat' first | apply ih0 | apply ih1 | apply ih2 | apply ih3 | apply impl_DepthOf.mono | apply impl_KidsOf.mono | apply impl_NodeAt.mono | apply impl_NodeOk.mono | apply impl_SceneOk.mono | apply impl_UnderOf.mono | apply laws_in.mono | apply laws_sameInts.mono | apply spec_DrawScene.mono | apply spec_UnderOf.mono | exact LeO.refl _ | exact LeO.none _ | refine LeO.ite ?_ ?_ | refine LeO.bind ?_ (fun _ => ?_)
  ·intro y0 y1 y2 y3 y4
   unfold laws_FnTrees.l1
   with_reducible repeat' first | apply ih0 | apply ih1 | apply ih2 | apply ih3 | apply impl_DepthOf.mono | apply impl_KidsOf.mono | apply impl_NodeAt.mono | apply impl_NodeOk.mono | apply impl_SceneOk.mono | apply impl_UnderOf.mono | apply laws_in.mono | apply laws_sameInts.mono | apply spec_DrawScene.mono | apply spec_UnderOf.mono | exact LeO.refl _ | exact LeO.none _ | refine LeO.ite ?_ ?_ | refine LeO.bind ?_ (fun _ => ?_)
theorem laws_FnTrees.mono : ∀ a0 k, LeO (laws_FnTrees.f k a0) (laws_FnTrees.f (k + 1) a0) := by
 intro a0 k; obtain ⟨ih0, ih1, ih2, ih3⟩ := laws_FnTrees.mono_l k
 unfold laws_FnTrees.f
 with_reducible repeat' first | apply ih0 | apply ih1 | apply ih2 | apply ih3 | apply impl_DepthOf.mono | apply impl_KidsOf.mono | apply impl_NodeAt.mono | apply impl_NodeOk.mono | apply impl_SceneOk.mono | apply impl_UnderOf.mono | apply laws_in.mono | apply laws_sameInts.mono | apply spec_DrawScene.mono | apply spec_UnderOf.mono | exact LeO.refl _ | exact LeO.none _ | refine LeO.ite ?_ ?_ | refine LeO.bind ?_ (fun _ => ?_)
def laws_FnTrees.T12 : Bool × List (List Nat × List Nat) := (true, [([], []), ([0], [0]), ([1], [1]), ([2, 1], [2]), ([3], [3]), ([3], [3]), ([5, 3], [3, 5]), ([4, 6, 3, 3], [3, 4, 6]), ([3], [3]), ([7, 8, 3], [3, 7, 8]), ([3, 9], [3, 9]), ([10, 7], [10]), ([11], [11]), ([11], [11]), ([13, 11], [11, 13]), ([12, 14, 11, 11], [11, 12, 14]), ([11], [11]), ([11], [11]), ([17, 11], [11, 17]), ([16, 18, 15, 11], [11, 16, 18]), ([19, 11], [11, 19]), ([15, 20, 11], [11, 15, 20]), ([11, 21], [11, 21])])
def laws_FnTrees.B12 : List Nat := [0, 1, 3, 7, 15, 15, 47, 127, 15, 511, 1023, 2047, 4095, 4095, 12287, 32767, 4095, 4095, 135167, 524287, 1048575, 2097151, 4194303]
theorem laws_FnTrees.tab12 : rtab .any (opsOf Try.f8 12) = laws_FnTrees.T12 := by kernel_rfl
theorem laws_FnTrees.bits12 : waitsOk laws_FnTrees.T12.2 laws_FnTrees.B12 = true := by kernel_rfl
def laws_FnTrees.T20 : Bool × List (List Nat × List Nat) := (true, [([], []), ([0], [0]), ([], []), ([], []), ([], []), ([3, 4], [3, 4]), ([5], [5]), ([2, 6], [2, 6]), ([1, 7], [1, 7]), ([8], [8]), ([], []), ([10, 9, 7, 0, 1, 2, 3, 4, 5, 6, 7, 8, 9, 10], [9, 10])])
def laws_FnTrees.B20 : List Nat := [0, 1, 0, 0, 0, 24, 56, 124, 255, 511, 0, 2047]
theorem laws_FnTrees.tab20 : rtab .any (opsOf Try.f8 20) = laws_FnTrees.T20 := by kernel_rfl
theorem laws_FnTrees.bits20 : waitsOk laws_FnTrees.T20.2 laws_FnTrees.B20 = true := by kernel_rfl
set_option maxHeartbeats 8000000 in
set_option maxRecDepth 100000 in
theorem laws_FnTrees.calls (k : Nat) (A0 : Option Addr) (c0 : Nat) (l0 : List Int) (r : Bool) (w : World) (hr0 : Kd.C (Kd.int .u8) w A0 l0.length l0) (hc0 : l0.length ≤ c0) (hT : r = true) (h : laws_FnTrees.f k l0 = some r) :
  Calls Try.prog 8 #[.slice A0 l0.length c0] w fun e w' => e = .returned (.bool r) ∧ Below w.heap.size w w' := by
 have hu53 := Try.underlying53; have hu69 := Try.underlying69; have HR0 := mk0 hr0; have HC0 := mk0 hc0; clear hr0 hc0; have HB := mk0 (Below.refl w.heap.size w)
 have H := h; unfold laws_FnTrees.f at H
 clear h; obtain ⟨UH, A2, H⟩ := bnd H
 try dsimp only at H
 by_cases c3 : UH = true
 ·subst c3; rw [if_pos rfl] at H
  obtain rfl := Option.some.inj H
  simp only [Option.some.injEq, Prod.mk.injEq] at H; obtain ⟨rfl⟩ := H
  go_enter Try.func8, Try.ntmps8
  go_wp2_with (first | ((with_reducible refine gate_callee (f := 9) rfl ?_); refine gl_ (some 11) Try.func9 #[.slice A0 l0.length c0] rfl q_1 ?_; (with_reducible refine (laws_big.calls _ _ l0 true _ ?side1 ?side2 A2.out).mono ?_); (case side1 => exact z17_28); (case side2 => exact HC0.out); rintro e w' ⟨rfl, ⟨nd, rfl⟩⟩; refine ⟨_, rfl, ?_⟩))
  go_ret
  exact ⟨(by first | rfl | (simp [errW_none, errW_some] <;> rfl) | (simp [*, errW_none, errW_some] <;> rfl)), q_162⟩
 replace c3 := Bool.eq_false_iff.mpr c3; subst c3; rw [if_neg (show ¬ (false = true) by decide)] at H
 obtain ⟨XD, A4, H⟩ := bnd H
 try dsimp only at H
 obtain ⟨Ux, A5, H⟩ := bnd H
 try dsimp only at H
 obtain ⟨UI, A6, H⟩ := bnd H
 try dsimp only at H
 by_cases c7 : UI = true
 rotate_left
 ·replace c7 := Bool.eq_false_iff.mpr c7; subst c7; rw [if_neg (show ¬ (false = true) by decide)] at H
  obtain rfl := Option.some.inj H
  exact absurd hT Bool.false_ne_true
 subst c7; rw [if_pos rfl] at H
 have H' := mk0 H
 clear H; go_enter Try.func8, Try.ntmps8
 go_wp2_with (first | ((with_reducible refine gate_callee (f := 9) rfl ?_); refine gl_ (some 11) Try.func9 #[.slice A0 l0.length c0] rfl q_1 ?_; (with_reducible refine (laws_big.calls _ _ l0 false _ ?side1 ?side2 A2.out).mono ?_); (case side1 => exact z17_28); (case side2 => exact HC0.out); rintro e w' ⟨rfl, ⟨nd, rfl⟩⟩; refine ⟨_, rfl, ?_⟩) | ((with_reducible refine gate_callee (f := 38) rfl ?_); refine gl_ (some 13) Try.func38 #[.slice A0 l0.length c0] rfl q_1 ?_; (with_reducible refine (spec_DrawScene.calls k _ _ l0 XD _ ?side1 ?side2 A4.out).mono ?_); (case side1 => exact z17_28); (case side2 => exact HC0.out); rintro e w8 ⟨v556, rfl, ho0, hb⟩; refine ⟨_, rfl, ?_⟩; have YO := mk0 (Kd.N_lower (Kd.N_mono (ok' := fun k_ => True) ho0 (fun k_ hk_ => trivial)) (below_size q_162)); replace HB := bS q_162 hb; clear hb ho0; (try clear hk)) | ((with_reducible refine gate_dst (N := 3) rfl ?_); (try (refine gate_guard (by rfl) ?_; dsimp only)); refine boxz (cs := #[.slice none 0 0]) (t := 53) rfl ?_; intro XW hg w9 hbox hb; have UZ := mk0 (ge_go (a := w.heap.size) hg (below_size q_162)); have J6 := UZ; replace YO := mk0 (Kd.N_below (Kd.N_elderB (pkN YO) XW (Nat.le_of_eq hg.symm)) hb); replace HB := bS q_162 hb; have XH := mk0 (hbox); clear hb hbox hg; obtain ⟨J5, X8, Df⟩ := Kd.N_slice YO.out; subst Df; refine bc_1 XH.out ?_; intros) | ((with_reducible refine gate_callee (f := 32) rfl ?_); refine gl_ (some 15) Try.func32 #[.agg #[.slice J5 XD.length X8], .int .i64 0] rfl q_1 ?_; (with_reducible refine (impl_KidsOf.calls k _ _ XD 0 Ux _ ?side1 ?side2 A5.out).mono ?_); (case side1 => refine (Kd.N_reads' (e := 69) (base := w.heap.size) (ok := fun k_ => (True ∧ k_ ≠ XW)) (n := XD.length) (c := X8) ?_).2.2; exact z17_31); (case side2 => exact (Kd.N_reads' YO.out).2.1); rintro e w12 ⟨v560, rfl, ho0, hb⟩; refine ⟨_, rfl, ?_⟩; replace YO := mk0 (Kd.N_elder' z17_31 (Kd.R_base ho0) hb); have J8 := mk0 (Kd.R_lower ho0 (below_size z17_16)); replace XH := mk0 (blk_below (g := XW) (o := .cells #[.slice J5 XD.length X8] 53 (0, 0)) (by apply blk_fin; (focus ((with_reducible repeat (first | apply blk_putQ | refine blk_drewN ?_ _ | refine blk_drew ?_ | refine blk_alloc ?_ _)); exact XH.out)); first | (simp only [List.setIfInBounds_toArray, List.set_cons_zero, List.set_cons_succ]; done) | rfl) hb); replace HB := bS z17_16 hb; clear hb ho0; (try clear hk); obtain ⟨DK, DL, Dg⟩ := Kd.R_slice J8.out; subst Dg; refine bc_1 XH.out ?_; intros) | ((with_reducible refine gate_callee (f := 39) rfl ?_); refine gl_ (some 18) Try.func39 #[.agg #[.slice J5 XD.length X8]] rfl q_1 ?_; (with_reducible refine (impl_SceneOk.calls k _ _ XD true _ ?side1 ?side2 A6.out).mono ?_); (case side1 => repeat (first | (with_reducible exact (Kd.N_reads' YO.out).2.2) | (with_reducible refine Kd.C_alloc ?_ _) | (with_reducible refine Kd.C_drewN ?_ _) | (with_reducible refine Kd.C_drew ?_) | exact (Kd.N_reads' YO.out).2.2)); (case side2 => exact (Kd.N_reads' YO.out).2.1); rintro e w15 ⟨rfl, hb⟩; refine ⟨_, rfl, ?_⟩; replace YO := mk0 (Kd.N_below (pkN YO) hb); replace J8 := bR J8 hb; replace XH := bB XH hb; replace HB := bS z17_16 hb; clear hb; (try clear hk)))
 go_loopg [4, 5] k (fun kq v4 v5 w' => ∃ (Zv : Int) (XE : Int), v4 = .int .i64 Zv ∧ v5 = .int .i64 XE ∧ Aside0 (laws_FnTrees.l0 kq Zv XE XD = some r) ∧ Aside0 (kq ≤ k) ∧ Aside0 (Kd.N k69 69 w' w.heap.size (fun k_ => k_ ≠ XW) (.slice J5 XD.length X8) XD) ∧ Aside0 (w'.heap[XW]? = some (.cells #[(.slice J5 XD.length X8)] 53 (0, 0))) ∧ Aside0 (Below w.heap.size w w'))
 case atStart => exact ⟨((Ux.length : Int)), (0), rs0, rs0, H', ⟨Nat.le_refl _⟩, ⟨(by (with_reducible repeat (first | apply Kd.N_alloc | apply Kd.N_drewN | apply Kd.N_drew)); exact Kd.N_mono YO.out (fun _ hk => hk.1.2))⟩, ⟨pkb XH⟩, ⟨z17_16⟩⟩
 case round =>
  clear H'
  try clear c3
  try clear c7
  obtain ⟨Zv, XE, rfl, rfl, HA, HK1, XG, XH, HB⟩ := hrel
  cases gk with
  | zero => exact absurd HA.out (by simp [laws_FnTrees.l0])
  | succ k1 =>
   have H := HA.out; clear HA; simp only [laws_FnTrees.l0] at H
   by_cases c16 : XE < (XD.length : Int)
   rotate_left
   ·rw [if_neg c16] at H; have c16b0 := decide_eq_false c16; clear c16
    by_cases c147 : Zv = (XD.length : Int)
    rotate_left
    ·rw [if_neg c147] at H
     have c147b0 : (Zv == (XD.length : Int)) = false := beq_eq_false_iff_ne.mpr c147
     have c147b1 : (Zv != (XD.length : Int)) = true := bne_iff_ne.mpr c147
     obtain rfl := Option.some.inj H
     exact absurd hT Bool.false_ne_true
    rw [if_pos c147] at H
    have c147b0 : (Zv == (XD.length : Int)) = true := beq_iff_eq.mpr c147
    have c147b1 : (Zv != (XD.length : Int)) = false := bne_eq_false_iff_eq.mpr c147
    clear c147; obtain ⟨Z2, A148, H⟩ := bnd H
    try dsimp only at H
    by_cases c149 : Z2 = 0
    rotate_left
    ·rw [if_neg c149] at H
     have c149b0 : (Z2 == 0) = false := beq_eq_false_iff_ne.mpr c149
     have c149b1 : (Z2 != 0) = true := bne_iff_ne.mpr c149
     obtain rfl := Option.some.inj H
     exact absurd hT Bool.false_ne_true
    rw [if_pos c149] at H
    have c149b0 : (Z2 == 0) = true := beq_iff_eq.mpr c149
    have c149b1 : (Z2 != 0) = false := bne_eq_false_iff_eq.mpr c149
    clear c149; obtain ⟨Z3, A150, H⟩ := bnd H
    try dsimp only at H
    by_cases c151 : Z3 = 0
    rotate_left
    ·rw [if_neg c151] at H
     have c151b0 : (Z3 == 0) = false := beq_eq_false_iff_ne.mpr c151
     have c151b1 : (Z3 != 0) = true := bne_iff_ne.mpr c151
     obtain rfl := Option.some.inj H
     exact absurd hT Bool.false_ne_true
    rw [if_pos c151] at H
    have c151b0 : (Z3 == 0) = true := beq_iff_eq.mpr c151
    have c151b1 : (Z3 != 0) = false := bne_eq_false_iff_eq.mpr c151
    clear c151; obtain ⟨UE, A152, H⟩ := bnd H
    try dsimp only at H
    obtain rfl := Option.some.inj H
    simp only [Option.some.injEq, Prod.mk.injEq] at H; obtain ⟨rfl⟩ := H
    refine bc_1 XH.out ?_; intros
    go_wp2_with (first | (go_at_call 42; (with_reducible refine (impl_DepthOf.calls k1 _ _ XD 0 Z2 _ ?side1 ?side2 A148.out).mono ?_); (case side1 => exact z17_11); (case side2 => exact (Kd.N_reads' XG.out).2.1); rintro e w154 ⟨rfl, hb⟩; replace XG := mk0 (Kd.N_below (pkN XG) hb); replace XH := bB XH hb; replace HB := bS z17_16 hb; clear hb; refine bc_1 XH.out ?_; intros) | (go_at_call 42; (with_reducible refine (impl_DepthOf.calls k1 _ _ XD 98 Z3 _ ?side1 ?side2 A150.out).mono ?_); (case side1 => exact z17_11); (case side2 => exact (Kd.N_reads' XG.out).2.1); rintro e w156 ⟨rfl, hb⟩; replace XG := mk0 (Kd.N_below (pkN XG) hb); replace XH := bB XH hb; replace HB := bS z17_16 hb; clear hb; refine bc_1 XH.out ?_; intros) | (go_at_call 37; (with_reducible refine (impl_UnderOf.calls k1 _ _ XD 98 UE _ ?side1 ?side2 A152.out).mono ?_); (case side1 => exact z17_11); (case side2 => exact (Kd.N_reads' XG.out).2.1); rintro e w158 ⟨v566, rfl, ho0, hb⟩; replace XG := mk0 (Kd.N_elder' (pkN XG) (Kd.R_base ho0) hb); have U0 := mk0 (Kd.R_lower ho0 (below_size z17_16)); replace XH := bB XH hb; replace HB := bS z17_16 hb; clear hb ho0; obtain ⟨Dv, Dw, U1⟩ := Kd.R_slice U0.out; subst U1) | ((with_reducible refine gate_load (t := 69) rfl ?_); refine load_at (t := 69) XK rfl rfl ?_; refine load_blkQ (t := 69) rfl rfl XJ rfl z17_12 Try.underlying69 rfl (show (Try.prog.info? 69).map (·.size) = some 31 by kernel_rfl) (by rfl) ?_) | ((with_reducible refine gate_store (t := 69) rfl ?_); refine wstore_blkW (t := 69) rfl rfl XJ rfl rfl z17_13 rfl (show (Try.prog.info? 69).map (·.size) = some 31 by kernel_rfl) rfl ?_; intro Yv hx569_ hbW_; have XL := mk0 hx569_; clear hx569_; refine bc_31 hbW_ ?_; intros; clear hbW_; (try (have hoW_ := blk_farE XL.out z17_22 XS.out; first | (refine bc_1 hoW_ ?_; intros) | (refine bc_31 hoW_ ?_; intros); clear hoW_)); (try (have hoW_ := blk_farE XL.out z17_23 XN.out; first | (refine bc_1 hoW_ ?_; intros) | (refine bc_31 hoW_ ?_; intros); clear hoW_))))
    go_ret
    exact ⟨(by first | rfl | (simp [errW_none, errW_some] <;> rfl) | (simp [*, errW_none, errW_some] <;> rfl)), z17_16⟩
   rw [if_pos c16] at H; have c16b0 := decide_eq_true c16; clear c16
   by_cases c17 : 0 ≤ XE
   rotate_left
   ·rw [if_neg c17] at H
    exact absurd H (by simp)
   rw [if_pos c17] at H; have c17b0 := decide_eq_true c17; clear c17; obtain ⟨ZR, A18, H⟩ := bnd H
   try dsimp only at H
   have UJ := mk0 H; clear H; refine bc_1 XH.out ?_; intros
   have J9 : 0 ≤ (XE : Int) := of_decide_eq_true (by first | (with_reducible assumption) | assumption)
   have Ua : XE < (XD.length : Int) := of_decide_eq_true (by first | (with_reducible assumption) | assumption)
   obtain ⟨XM, Yj, Ym, X9, Yf, Ya, Yg, Yb, Yh, Yc, Yi, e568, JT, JU, JV, JW, JX, JY, JZ, J0, J1, ZS, Zw, Z4, Z5, Zx, Z6, Z7, Z8, Z9, Ja, Jb, Jc, Jd, Je, Jf, Jg, Jh, Ji, Jj, Jk, Zy, Zz, J2, J3, Jl, Jm, Jn, Jo, Jp, Jq, Jr, Js⟩ := at_T69 (Kd.N_reads' XG.out).2.2 XE J9 Ua; have Yd := lie_zero JT (lie_n JU (lie_n JV (lie_n JW (lie_n JX (lie_n JY (lie_n JZ (lie_n J0 (lie_n J1 (lie_n ZS (lie_n Zw (lie_n Z4 (lie_n Z5 (lie_n Zx (lie_n Z6 (lie_n Z7 (lie_n Z8 (lie_n Z9 (lie_n Ja (lie_n Jb (lie_n Jc (lie_n Jd (lie_n Je (lie_n Jf (lie_n Jg (lie_n Jh (lie_n Ji (lie_n Jj (lie_n Jk (lie_n Zy (lie_n Zz (lie_nil _ _ _)))))))))))))))))))))))))))))))
   cases e568
   obtain ⟨ce568, UK, UL, Zu⟩ := Kd.N_get XG.out z69 XE J9 (by first | exact Ua | exact of_decide_eq_true (by first | (with_reducible assumption) | assumption) | (have e_ := (Kd.N_reads' XG.out).1; omega)); obtain ⟨Dd, De, U2, U3, U4, U5, U6, U7, U8, U9, rfl, ZT, ZU, ZA, ZB, ZC, ZD, ZE, ZF, ZG, ZH⟩ := k69_openF UL; have hv568_9 := Zu 9 _ rfl; rw [add_field _ _ 9 (by omega)] at hv568_9; replace hv568_9 := Option.some.inj (hv568_9.symm.trans ZS)
   injection hv568_9 with hva_ hvn_ hvc_
   rw [hva_] at ZU; rw [hvc_] at ZT; have X7 := mk0 (show Kd.V (Kd.int .i64) 3 _ w.heap.size _ _ ((rd_T69 XD XE).f4.f0) from Kd.V_mk ZT ZU); clear hva_ hvn_ hvc_ ZU ZT; have hv568_10 := Zu 10 _ rfl; rw [add_field _ _ 10 (by omega)] at hv568_10; replace hv568_10 := Option.some.inj (hv568_10.symm.trans Zw)
   injection hv568_10 with hva_ hvn_ hvc_
   rw [hva_] at ZB; rw [hvc_] at ZA; have XY := mk0 (show Kd.V k29 29 _ w.heap.size _ _ ((rd_T69 XD XE).f4.f1) from Kd.V_mk ZA ZB); clear hva_ hvn_ hvc_ ZB ZA; have hv568_13 := Zu 13 _ rfl; rw [add_field _ _ 13 (by omega)] at hv568_13; replace hv568_13 := Option.some.inj (hv568_13.symm.trans Zx)
   injection hv568_13 with hva_ hvn_ hvc_
   rw [hva_] at ZD; rw [hvc_] at ZC; have XZ := mk0 (show Kd.V (Kd.int .i64) 3 _ w.heap.size _ _ ((rd_T69 XD XE).f7) from Kd.V_mk ZC ZD); clear hva_ hvn_ hvc_ ZD ZC; have hv568_29 := Zu 29 _ rfl; rw [add_field _ _ 29 (by omega)] at hv568_29; replace hv568_29 := Option.some.inj (hv568_29.symm.trans Zy)
   injection hv568_29 with hva_ hvn_ hvc_
   rw [hva_] at ZF; rw [hvc_] at ZE; have X0 := mk0 (show Kd.V (Kd.int .i64) 3 _ w.heap.size _ _ ((rd_T69 XD XE).f11.f0) from Kd.V_mk ZE ZF); clear hva_ hvn_ hvc_ ZF ZE; have hv568_30 := Zu 30 _ rfl; rw [add_field _ _ 30 (by omega)] at hv568_30; replace hv568_30 := Option.some.inj (hv568_30.symm.trans Zz)
   injection hv568_30 with hva_ hvn_ hvc_
   rw [hva_] at ZH; rw [hvc_] at ZG; have X1 := mk0 (show Kd.V k29 29 _ w.heap.size _ _ ((rd_T69 XD XE).f11.f1) from Kd.V_mk ZG ZH); clear hva_ hvn_ hvc_ ZH ZG Zu UK; have XV := mk0 J3; have Uy := mk0 J2; clear J3 J2; have XO := mk0 Jm; have Ub := mk0 Jl; clear Jm Jl; have XP := mk0 Jo; have Uc := mk0 Jn; clear Jo Jn; have XQ := mk0 Jq; have Ud := mk0 Jp; clear Jq Jp; have XR := mk0 Js; have Ue := mk0 Jr; clear Js Jr; replace J9 := eq_true J9; replace Ua := eq_true Ua
   go_upto_region 12 with (first | ((with_reducible refine gate_load (t := 69) rfl ?_); refine load_lie (t := 69) rfl rfl Yd HB (by with_reducible rfl) rfl Try.underlying69 rfl (show (Try.prog.info? 69).map (·.size) = some 31 by kernel_rfl) rfl ?_) | ((with_reducible refine gate_load (t := 69) rfl ?_); refine load_lie0 (t := 69) rfl rfl Yd (by with_reducible rfl) rfl Try.underlying69 rfl (show (Try.prog.info? 69).map (·.size) = some 31 by kernel_rfl) rfl ?_) | ((with_reducible refine gate_dst (N := 6) rfl ?_); (try (refine gate_guard (by rfl) ?_; dsimp only)); refine boxz (cs := #[.int .i64 0, .int .i64 0, .bool false, .int .i64 0, .int .i64 0, .int .i64 0, .int .i64 0, .int .i64 0, .int .i64 0, .slice none 0 0, .slice none 0 0, .bool false, .int .i64 0, .slice none 0 0, .int .i64 0, .int .i64 0, .int .i64 0, .int .i64 0, .int .i64 0, .int .i64 0, .int .i64 0, .int .i64 0, .int .i64 0, .int .i64 0, .int .i64 0, .int .i64 0, .int .i64 0, .int .i64 0, .int .i64 0, .slice none 0 0, .slice none 0 0]) (t := 69) rfl ?_; intro XK hg w21 hbox hb; have Da := mk0 (ge_go (a := w.heap.size) hg (below_size z17_16)); have JS := Da; have XS := mk0 (nb_lt hg (blk_ltB XH (pkb XH))); have Yk := mk0 (nb_gt hg (blk_ltB XH (pkb XH))); replace XG := mk0 (Kd.N_below (Kd.N_elderB (pkN XG) XK (Nat.le_of_eq hg.symm)) hb); replace X7 := mk0 (Kd.V_below (Kd.V_elderB (pkV X7) XK (Nat.le_of_eq hg.symm)) hb); replace XY := mk0 (Kd.V_below (Kd.V_elderB (pkV XY) XK (Nat.le_of_eq hg.symm)) hb); replace XZ := mk0 (Kd.V_below (Kd.V_elderB (pkV XZ) XK (Nat.le_of_eq hg.symm)) hb); replace X0 := mk0 (Kd.V_below (Kd.V_elderB (pkV X0) XK (Nat.le_of_eq hg.symm)) hb); replace X1 := mk0 (Kd.V_below (Kd.V_elderB (pkV X1) XK (Nat.le_of_eq hg.symm)) hb); replace XH := bB XH hb; replace XV := mk0 (Kd.C_belowB XV z17_21 hb); replace XO := mk0 (Kd.C_belowB XO z17_17 hb); replace XP := mk0 (Kd.C_belowB XP z17_18 hb); replace XQ := mk0 (Kd.C_belowB XQ z17_19 hb); replace XR := mk0 (Kd.C_belowB XR z17_20 hb); replace HB := bS z17_16 hb; have XJ := mk0 (hbox); clear hb hbox hg; have Dx := Yk.out; have Dy := XS.out; refine bc_31 XJ.out ?_; intros; refine bc_1 XH.out ?_; intros) | ((with_reducible refine gate_callee (f := 32) rfl ?_); refine gl_ (some 36) Try.func32 #[.agg #[.slice (some XM) XD.length X8], .int .i64 ((rd_T69 XD XE).f0)] rfl q_1 ?_; (with_reducible refine (impl_KidsOf.calls k1 _ _ XD ((rd_T69 XD XE).f0) ZR _ ?side1 ?side2 A18.out).mono ?_); (case side1 => refine (Kd.N_reads' (e := 69) (base := w.heap.size) (ok := fun k_ => (k_ ≠ XW ∧ k_ ≠ XK)) (n := XD.length) (c := X8) ?_).2.2; exact z17_35); (case side2 => exact (Kd.N_reads' XG.out).2.1); rintro e w25 ⟨v571, rfl, ho0, hb⟩; refine ⟨_, rfl, ?_⟩; replace XG := mk0 (Kd.N_elder' z17_35 (Kd.R_base ho0) hb); have YP := mk0 (Kd.R_lower ho0 (below_size z17_10)); replace XH := mk0 (blk_belowB XH (by (with_reducible repeat (first | refine blk_drewN ?_ _ | refine blk_drew ?_ | refine blk_alloc ?_ _)); refine blk_farE XL.out ?_ XS.out; (with_reducible repeat (first | refine blk_drewN ?_ _ | refine blk_drew ?_ | refine blk_alloc ?_ _)); exact XH.out) hb); replace XV := mk0 (Kd.C_below ((Kd.V_reads' z17_40).2.2) hb); replace X7 := mk0 (Kd.V_elder' z17_40 (Kd.R_base ho0) hb); replace XO := mk0 (Kd.C_below ((Kd.V_reads' z17_36).2.2) hb); replace XY := mk0 (Kd.V_elder' z17_36 (Kd.R_base ho0) hb); replace XP := mk0 (Kd.C_below ((Kd.V_reads' z17_37).2.2) hb); replace XZ := mk0 (Kd.V_elder' z17_37 (Kd.R_base ho0) hb); replace XQ := mk0 (Kd.C_below ((Kd.V_reads' z17_38).2.2) hb); replace X0 := mk0 (Kd.V_elder' z17_38 (Kd.R_base ho0) hb); replace XR := mk0 (Kd.C_below ((Kd.V_reads' z17_39).2.2) hb); replace X1 := mk0 (Kd.V_elder' z17_39 (Kd.R_base ho0) hb); replace XJ := mk0 (blk_below (g := XK) (o := .cells #[.int .i64 ((rd_T69 XD XE).f0), .int .i64 ((rd_T69 XD XE).f1), .bool ((rd_T69 XD XE).f2), .int .i64 ((rd_T69 XD XE).f3.f0), .int .i64 ((rd_T69 XD XE).f3.f1), .int .i64 ((rd_T69 XD XE).f3.f2), .int .i64 ((rd_T69 XD XE).f3.f3), .int .i64 ((rd_T69 XD XE).f3.f4), .int .i64 ((rd_T69 XD XE).f3.f5), .slice Yj ((rd_T69 XD XE).f4.f0).length Ym, .slice X9 ((rd_T69 XD XE).f4.f1).length Yf, .bool ((rd_T69 XD XE).f5), .int .i64 ((rd_T69 XD XE).f6), .slice Ya ((rd_T69 XD XE).f7).length Yg, .int .i64 ((rd_T69 XD XE).f8.f0), .int .i64 ((rd_T69 XD XE).f8.f1.f0), .int .i64 ((rd_T69 XD XE).f8.f1.f1), .int .i64 ((rd_T69 XD XE).f8.f1.f2), .int .i64 ((rd_T69 XD XE).f8.f1.f3), .int .i64 ((rd_T69 XD XE).f8.f2.f0), .int .i64 ((rd_T69 XD XE).f8.f2.f1), .int .i64 ((rd_T69 XD XE).f8.f2.f2), .int .i64 ((rd_T69 XD XE).f8.f2.f3), .int .i64 ((rd_T69 XD XE).f8.f3.f0), .int .i64 ((rd_T69 XD XE).f8.f3.f1), .int .i64 ((rd_T69 XD XE).f8.f4.f0), .int .i64 ((rd_T69 XD XE).f8.f4.f1), .int .i64 ((rd_T69 XD XE).f9), .int .i64 ((rd_T69 XD XE).f10), .slice Yb ((rd_T69 XD XE).f11.f0).length Yh, .slice Yc ((rd_T69 XD XE).f11.f1).length Yi] 69 (0, 0)) z17_29 hb); replace HB := bS z17_10 hb; clear hb ho0; (try clear hk); obtain ⟨DM, DN, Dh⟩ := Kd.R_slice YP.out; subst Dh) | ((with_reducible refine gate_load (t := 69) rfl ?_); refine load_at (t := 69) XK rfl rfl ?_; refine load_blkQ (t := 69) rfl rfl XJ rfl z17_12 Try.underlying69 rfl (show (Try.prog.info? 69).map (·.size) = some 31 by kernel_rfl) (by rfl) ?_) | ((with_reducible refine gate_store (t := 69) rfl ?_); refine wstore_blkW (t := 69) rfl rfl XJ rfl rfl z17_13 rfl (show (Try.prog.info? 69).map (·.size) = some 31 by kernel_rfl) rfl ?_; intro Yv hx569_ hbW_; have XL := mk0 hx569_; clear hx569_; refine bc_31 hbW_ ?_; intros; clear hbW_; (try (have hoW_ := blk_farE XL.out z17_22 XS.out; first | (refine bc_1 hoW_ ?_; intros) | (refine bc_31 hoW_ ?_; intros); clear hoW_)); (try (have hoW_ := blk_farE XL.out z17_23 XN.out; first | (refine bc_1 hoW_ ?_; intros) | (refine bc_31 hoW_ ?_; intros); clear hoW_))) | ((with_reducible refine gate_load (t := 69) rfl ?_); refine load_event (t := 69) rfl rfl (p := ⟨XK, 0, none⟩) rfl [.int .i64 ((rd_T69 XD XE).f0), .int .i64 ((rd_T69 XD XE).f1), .bool ((rd_T69 XD XE).f2), .int .i64 ((rd_T69 XD XE).f3.f0), .int .i64 ((rd_T69 XD XE).f3.f1), .int .i64 ((rd_T69 XD XE).f3.f2), .int .i64 ((rd_T69 XD XE).f3.f3), .int .i64 ((rd_T69 XD XE).f3.f4), .int .i64 ((rd_T69 XD XE).f3.f5), .slice Yj ((rd_T69 XD XE).f4.f0).length Ym, .slice X9 ((rd_T69 XD XE).f4.f1).length Yf, .bool ((rd_T69 XD XE).f5), .int .i64 ((rd_T69 XD XE).f6), .slice Ya ((rd_T69 XD XE).f7).length Yg, .int .i64 ((rd_T69 XD XE).f8.f0), .int .i64 ((rd_T69 XD XE).f8.f1.f0), .int .i64 ((rd_T69 XD XE).f8.f1.f1), .int .i64 ((rd_T69 XD XE).f8.f1.f2), .int .i64 ((rd_T69 XD XE).f8.f1.f3), .int .i64 ((rd_T69 XD XE).f8.f2.f0), .int .i64 ((rd_T69 XD XE).f8.f2.f1), .int .i64 ((rd_T69 XD XE).f8.f2.f2), .int .i64 ((rd_T69 XD XE).f8.f2.f3), .int .i64 ((rd_T69 XD XE).f8.f3.f0), .int .i64 ((rd_T69 XD XE).f8.f3.f1), .int .i64 ((rd_T69 XD XE).f8.f4.f0), .int .i64 ((rd_T69 XD XE).f8.f4.f1), .int .i64 ((rd_T69 XD XE).f9), .int .i64 ((rd_T69 XD XE).f10), .slice Yb ((rd_T69 XD XE).f11.f0).length Yh, .slice Yc ((rd_T69 XD XE).f11.f1).length Yi] _ (lie_of_blk (cs := #[.int .i64 ((rd_T69 XD XE).f0), .int .i64 ((rd_T69 XD XE).f1), .bool ((rd_T69 XD XE).f2), .int .i64 ((rd_T69 XD XE).f3.f0), .int .i64 ((rd_T69 XD XE).f3.f1), .int .i64 ((rd_T69 XD XE).f3.f2), .int .i64 ((rd_T69 XD XE).f3.f3), .int .i64 ((rd_T69 XD XE).f3.f4), .int .i64 ((rd_T69 XD XE).f3.f5), .slice Yj ((rd_T69 XD XE).f4.f0).length Ym, .slice X9 ((rd_T69 XD XE).f4.f1).length Yf, .bool ((rd_T69 XD XE).f5), .int .i64 ((rd_T69 XD XE).f6), .slice Ya ((rd_T69 XD XE).f7).length Yg, .int .i64 ((rd_T69 XD XE).f8.f0), .int .i64 ((rd_T69 XD XE).f8.f1.f0), .int .i64 ((rd_T69 XD XE).f8.f1.f1), .int .i64 ((rd_T69 XD XE).f8.f1.f2), .int .i64 ((rd_T69 XD XE).f8.f1.f3), .int .i64 ((rd_T69 XD XE).f8.f2.f0), .int .i64 ((rd_T69 XD XE).f8.f2.f1), .int .i64 ((rd_T69 XD XE).f8.f2.f2), .int .i64 ((rd_T69 XD XE).f8.f2.f3), .int .i64 ((rd_T69 XD XE).f8.f3.f0), .int .i64 ((rd_T69 XD XE).f8.f3.f1), .int .i64 ((rd_T69 XD XE).f8.f4.f0), .int .i64 ((rd_T69 XD XE).f8.f4.f1), .int .i64 ((rd_T69 XD XE).f9), .int .i64 ((rd_T69 XD XE).f10), .slice Yb ((rd_T69 XD XE).f11.f0).length Yh, .slice Yc ((rd_T69 XD XE).f11.f1).length Yi]) (t := 69) z17_29) Try.underlying69 rfl (show (Try.prog.info? 69).map (·.size) = some 31 by kernel_rfl) ?_))
   (try simp only [Act.put, List.setIfInBounds_toArray, List.set_cons_zero, List.set_cons_succ])
   go_cut [61] (fun v61 wc => ∃ (kq : Nat) (ZV : Bool), v61 = .bool ZV ∧ Aside0 (laws_FnTrees.j1 kq (wrap64 (Zv + (ZR.length : Int))) XE ZV XD = some r) ∧ Aside0 (kq ≤ k1) ∧ Aside0 (Kd.N k69 69 wc w.heap.size (fun k_ => k_ ≠ XW ∧ k_ ≠ XK) (.slice (some XM) XD.length X8) XD) ∧ Aside0 (wc.heap[XW]? = some (.cells #[(.slice (some XM) XD.length X8)] 53 (0, 0))) ∧ Aside0 (wc.heap[XK]? = some (.cells #[.int .i64 ((rd_T69 XD XE).f0), .int .i64 ((rd_T69 XD XE).f1), .bool ((rd_T69 XD XE).f2), .int .i64 ((rd_T69 XD XE).f3.f0), .int .i64 ((rd_T69 XD XE).f3.f1), .int .i64 ((rd_T69 XD XE).f3.f2), .int .i64 ((rd_T69 XD XE).f3.f3), .int .i64 ((rd_T69 XD XE).f3.f4), .int .i64 ((rd_T69 XD XE).f3.f5), (.slice Yj ((rd_T69 XD XE).f4.f0).length Ym), (.slice X9 ((rd_T69 XD XE).f4.f1).length Yf), .bool ((rd_T69 XD XE).f5), .int .i64 ((rd_T69 XD XE).f6), (.slice Ya ((rd_T69 XD XE).f7).length Yg), .int .i64 ((rd_T69 XD XE).f8.f0), .int .i64 ((rd_T69 XD XE).f8.f1.f0), .int .i64 ((rd_T69 XD XE).f8.f1.f1), .int .i64 ((rd_T69 XD XE).f8.f1.f2), .int .i64 ((rd_T69 XD XE).f8.f1.f3), .int .i64 ((rd_T69 XD XE).f8.f2.f0), .int .i64 ((rd_T69 XD XE).f8.f2.f1), .int .i64 ((rd_T69 XD XE).f8.f2.f2), .int .i64 ((rd_T69 XD XE).f8.f2.f3), .int .i64 ((rd_T69 XD XE).f8.f3.f0), .int .i64 ((rd_T69 XD XE).f8.f3.f1), .int .i64 ((rd_T69 XD XE).f8.f4.f0), .int .i64 ((rd_T69 XD XE).f8.f4.f1), .int .i64 ((rd_T69 XD XE).f9), .int .i64 ((rd_T69 XD XE).f10), (.slice Yb ((rd_T69 XD XE).f11.f0).length Yh), (.slice Yc ((rd_T69 XD XE).f11.f1).length Yi)] 69 (0, 0))) ∧ Aside0 (Kd.C (Kd.int .i64) wc Yj ((rd_T69 XD XE).f4.f0).length ((rd_T69 XD XE).f4.f0)) ∧ Aside0 (Kd.C k29 wc X9 ((rd_T69 XD XE).f4.f1).length ((rd_T69 XD XE).f4.f1)) ∧ Aside0 (Kd.C (Kd.int .i64) wc Ya ((rd_T69 XD XE).f7).length ((rd_T69 XD XE).f7)) ∧ Aside0 (Kd.C (Kd.int .i64) wc Yb ((rd_T69 XD XE).f11.f0).length ((rd_T69 XD XE).f11.f0)) ∧ Aside0 (Kd.C k29 wc Yc ((rd_T69 XD XE).f11.f1).length ((rd_T69 XD XE).f11.f1)) ∧ Aside0 (Below w.heap.size w wc))
   case first =>
    have H := UJ.out; clear UJ; obtain ⟨UD, A27, H⟩ := bnd H
    try dsimp only at H
    by_cases c28 : UD = true
    rotate_left
    ·replace c28 := Bool.eq_false_iff.mpr c28; subst c28; rw [if_neg (show ¬ (false = true) by decide)] at H
     exact absurd (show r = false from by cases k1 with | zero => exact absurd H (by simp [laws_FnTrees.j1]) | succ k_ => simp only [laws_FnTrees.j1, if_true] at H; exact (Option.some.inj H).symm) (by rw [hT]; simp)
    subst c28; rw [if_pos rfl] at H; obtain ⟨Z1, A29, H⟩ := bnd H
    try dsimp only at H
    by_cases c30 : Z1 = XE
    rotate_left
    ·rw [if_neg c30] at H
     have c30b0 : (Z1 == XE) = false := beq_eq_false_iff_ne.mpr c30
     have c30b1 : (Z1 != XE) = true := bne_iff_ne.mpr c30
     (first | rw [c30b0] | (simp only [i64_w, i32_w]; rw [c30b0]) | skip)
     exact absurd (show r = false from by cases k1 with | zero => exact absurd H (by simp [laws_FnTrees.j1]) | succ k_ => simp only [laws_FnTrees.j1, if_true] at H; exact (Option.some.inj H).symm) (by rw [hT]; simp)
    rw [if_pos c30] at H
    have c30b0 : (Z1 == XE) = true := beq_iff_eq.mpr c30
    have c30b1 : (Z1 != XE) = false := bne_eq_false_iff_eq.mpr c30
    clear c30
    (first | rw [c30b0] | (simp only [i64_w, i32_w]; rw [c30b0]) | skip)
    obtain ⟨Ut, A31, H⟩ := bnd H
    try dsimp only at H
    obtain ⟨Uu, A32, H⟩ := bnd H
    try dsimp only at H
    have H' := mk0 H
    clear H
    try go_wp2_with (first | ((with_reducible refine gate_load (t := 69) rfl ?_); refine load_lie (t := 69) rfl rfl Yd HB (by with_reducible rfl) rfl Try.underlying69 rfl (show (Try.prog.info? 69).map (·.size) = some 31 by kernel_rfl) rfl ?_) | ((with_reducible refine gate_load (t := 69) rfl ?_); refine load_lie0 (t := 69) rfl rfl Yd (by with_reducible rfl) rfl Try.underlying69 rfl (show (Try.prog.info? 69).map (·.size) = some 31 by kernel_rfl) rfl ?_) | ((with_reducible refine gate_load (t := 69) rfl ?_); refine load_at (t := 69) XK rfl rfl ?_; refine load_blkQ (t := 69) rfl rfl XJ rfl z17_12 Try.underlying69 rfl (show (Try.prog.info? 69).map (·.size) = some 31 by kernel_rfl) (by rfl) ?_) | ((with_reducible refine gate_store (t := 69) rfl ?_); refine wstore_blkW (t := 69) rfl rfl XJ rfl rfl z17_13 rfl (show (Try.prog.info? 69).map (·.size) = some 31 by kernel_rfl) rfl ?_; intro Yv hx569_ hbW_; have XL := mk0 hx569_; clear hx569_; refine bc_31 hbW_ ?_; intros; clear hbW_; (try (have hoW_ := blk_farE XL.out z17_22 XS.out; first | (refine bc_1 hoW_ ?_; intros) | (refine bc_31 hoW_ ?_; intros); clear hoW_)); (try (have hoW_ := blk_farE XL.out z17_23 XN.out; first | (refine bc_1 hoW_ ?_; intros) | (refine bc_31 hoW_ ?_; intros); clear hoW_))))
    replace XG := mk0 (Kd.N_drew XG.out); replace X7 := mk0 (Kd.V_drew X7.out); replace XY := mk0 (Kd.V_drew XY.out); replace XZ := mk0 (Kd.V_drew XZ.out); replace X0 := mk0 (Kd.V_drew X0.out); replace X1 := mk0 (Kd.V_drew X1.out); replace YP := mk0 (Kd.R_drew YP.out); replace XH := mk0 (blk_drew XH.out); replace XJ := mk0 (blk_drew XJ.out); replace XV := mk0 (Kd.C_drew XV.out); replace XO := mk0 (Kd.C_drew XO.out); replace XP := mk0 (Kd.C_drew XP.out); replace XQ := mk0 (Kd.C_drew XQ.out); replace XR := mk0 (Kd.C_drew XR.out); replace HB := mk0 (below_drew1 HB.out)
    refine start_ (n := 23) (S := fun w' => Lie w' ⟨XK, 0, none⟩ 0 [.int .i64 ((rd_T69 XD XE).f0), .int .i64 ((rd_T69 XD XE).f1), .bool ((rd_T69 XD XE).f2), .int .i64 ((rd_T69 XD XE).f3.f0), .int .i64 ((rd_T69 XD XE).f3.f1), .int .i64 ((rd_T69 XD XE).f3.f2), .int .i64 ((rd_T69 XD XE).f3.f3), .int .i64 ((rd_T69 XD XE).f3.f4), .int .i64 ((rd_T69 XD XE).f3.f5), .slice Yj ((rd_T69 XD XE).f4.f0).length Ym, .slice X9 ((rd_T69 XD XE).f4.f1).length Yf, .bool ((rd_T69 XD XE).f5), .int .i64 ((rd_T69 XD XE).f6), .slice Ya ((rd_T69 XD XE).f7).length Yg, .int .i64 ((rd_T69 XD XE).f8.f0), .int .i64 ((rd_T69 XD XE).f8.f1.f0), .int .i64 ((rd_T69 XD XE).f8.f1.f1), .int .i64 ((rd_T69 XD XE).f8.f1.f2), .int .i64 ((rd_T69 XD XE).f8.f1.f3), .int .i64 ((rd_T69 XD XE).f8.f2.f0), .int .i64 ((rd_T69 XD XE).f8.f2.f1), .int .i64 ((rd_T69 XD XE).f8.f2.f2), .int .i64 ((rd_T69 XD XE).f8.f2.f3), .int .i64 ((rd_T69 XD XE).f8.f3.f0), .int .i64 ((rd_T69 XD XE).f8.f3.f1), .int .i64 ((rd_T69 XD XE).f8.f4.f0), .int .i64 ((rd_T69 XD XE).f8.f4.f1), .int .i64 ((rd_T69 XD XE).f9), .int .i64 ((rd_T69 XD XE).f10), .slice Yb ((rd_T69 XD XE).f11.f0).length Yh, .slice Yc ((rd_T69 XD XE).f11.f1).length Yi] ∧ w'.cell? ⟨XW, 0, none⟩ = some (.slice (some XM) XD.length X8)) (ds := []) #[false, false, false, false, false, false, false, false, false, false, false, false, false, false, false, false, false, false, false, false, false, false, false] (by kernel_rfl) rfl rfl ⟨lie_of_blk XJ.out, (blk_cell XH.out 0).trans rfl⟩ (fun hHeld => ?_); refine with_tabW laws_FnTrees.tab12 laws_FnTrees.bits12 (fun HT_ HW_ => ?_)
    generalize w25.drew = w33 at XG X7 XY XZ X0 X1 YP XH XJ XV XO XP XQ XR HB hHeld ⊢
    refine take_ (i := 0) (N := some 39) (v := ?_) (a' := ?_) (bA 23 1) rfl rfl (take_ofW HT_.out HW_.out (by kernel_rfl)) (fun _ _ _ h => h) (Or.inl ⟨by rfl, ?_⟩) hHeld ?_ ?_
    rotate_left
    ·rintro w' ⟨sLgb569, s31⟩
     first | (refine load_yields (t := 69) (x := ?x_492_gb569) ?ho_492_gb569 ?hx_492_gb569 _ _ sLgb569 Try.underlying69 rfl (show (Try.prog.info? 69).map (·.size) = some 31 by kernel_rfl); (case ho_492_gb569 => rfl); (case hx_492_gb569 => rfl)) | (have c0_ := lie_at sLgb569 0 _ rfl; simp only [Nat.add_zero, Addr.add_zero'] at c0_; go_simp; with_reducible rfl) | (have c0_ : w'.cell? ⟨XK, 1, none⟩ = some (.int .i64 ((rd_T69 XD XE).f1)) := lie_at sLgb569 1 _ rfl; go_simp; with_reducible rfl) | (have c0_ : w'.cell? ⟨XK, 2, none⟩ = some (.bool ((rd_T69 XD XE).f2)) := lie_at sLgb569 2 _ rfl; go_simp; with_reducible rfl) | (go_simp; with_reducible rfl)
    rotate_left
    ·exact x17_put
    refine one_ (i := 1) (N := some 40) (bA 23 3) rfl rfl (one_of HT_.out (by kernel_rfl)) (by decide) (fun K hK => ?_)
    refine goes_ Try.func40 (by kernel_rfl) rfl #[.agg #[.int .i64 ((rd_T69 XD XE).f0), .int .i64 ((rd_T69 XD XE).f1), .bool ((rd_T69 XD XE).f2), .int .i64 ((rd_T69 XD XE).f3.f0), .int .i64 ((rd_T69 XD XE).f3.f1), .int .i64 ((rd_T69 XD XE).f3.f2), .int .i64 ((rd_T69 XD XE).f3.f3), .int .i64 ((rd_T69 XD XE).f3.f4), .int .i64 ((rd_T69 XD XE).f3.f5), .slice Yj ((rd_T69 XD XE).f4.f0).length Ym, .slice X9 ((rd_T69 XD XE).f4.f1).length Yf, .bool ((rd_T69 XD XE).f5), .int .i64 ((rd_T69 XD XE).f6), .slice Ya ((rd_T69 XD XE).f7).length Yg, .int .i64 ((rd_T69 XD XE).f8.f0), .int .i64 ((rd_T69 XD XE).f8.f1.f0), .int .i64 ((rd_T69 XD XE).f8.f1.f1), .int .i64 ((rd_T69 XD XE).f8.f1.f2), .int .i64 ((rd_T69 XD XE).f8.f1.f3), .int .i64 ((rd_T69 XD XE).f8.f2.f0), .int .i64 ((rd_T69 XD XE).f8.f2.f1), .int .i64 ((rd_T69 XD XE).f8.f2.f2), .int .i64 ((rd_T69 XD XE).f8.f2.f3), .int .i64 ((rd_T69 XD XE).f8.f3.f0), .int .i64 ((rd_T69 XD XE).f8.f3.f1), .int .i64 ((rd_T69 XD XE).f8.f4.f0), .int .i64 ((rd_T69 XD XE).f8.f4.f1), .int .i64 ((rd_T69 XD XE).f9), .int .i64 ((rd_T69 XD XE).f10), .slice Yb ((rd_T69 XD XE).f11.f0).length Yh, .slice Yc ((rd_T69 XD XE).f11.f1).length Yi]] (by rfl) rfl rfl q_1 ?_
    with_reducible refine (impl_NodeOk.calls k1 ((rd_T69 XD XE).f0) ((rd_T69 XD XE).f1) ((rd_T69 XD XE).f2) ((rd_T69 XD XE).f3.f0) ((rd_T69 XD XE).f3.f1) ((rd_T69 XD XE).f3.f2) ((rd_T69 XD XE).f3.f3) ((rd_T69 XD XE).f3.f4) ((rd_T69 XD XE).f3.f5) _ _ ((rd_T69 XD XE).f4.f0) _ _ ((rd_T69 XD XE).f4.f1) ((rd_T69 XD XE).f5) ((rd_T69 XD XE).f6) _ _ ((rd_T69 XD XE).f7) ((rd_T69 XD XE).f8.f0) ((rd_T69 XD XE).f8.f1.f0) ((rd_T69 XD XE).f8.f1.f1) ((rd_T69 XD XE).f8.f1.f2) ((rd_T69 XD XE).f8.f1.f3) ((rd_T69 XD XE).f8.f2.f0) ((rd_T69 XD XE).f8.f2.f1) ((rd_T69 XD XE).f8.f2.f2) ((rd_T69 XD XE).f8.f2.f3) ((rd_T69 XD XE).f8.f3.f0) ((rd_T69 XD XE).f8.f3.f1) ((rd_T69 XD XE).f8.f4.f0) ((rd_T69 XD XE).f8.f4.f1) ((rd_T69 XD XE).f9) ((rd_T69 XD XE).f10) _ _ ((rd_T69 XD XE).f11.f0) _ _ ((rd_T69 XD XE).f11.f1) true _ ?side1 ?side2 ?side3 ?side4 ?side5 ?side6 ?side7 ?side8 ?side9 ?side10 A27.out).mono ?_
    (case side1 => repeat (first | exact z17_21 | (with_reducible refine Kd.C_alloc ?_ _) | (with_reducible refine Kd.C_drewN ?_ _) | (with_reducible refine Kd.C_drew ?_)))
    (case side2 => exact Uy.out)
    (case side3 => repeat (first | exact z17_17 | (with_reducible refine Kd.C_alloc ?_ _) | (with_reducible refine Kd.C_drewN ?_ _) | (with_reducible refine Kd.C_drew ?_)))
    (case side4 => exact Ub.out)
    (case side5 => repeat (first | exact z17_18 | (with_reducible refine Kd.C_alloc ?_ _) | (with_reducible refine Kd.C_drewN ?_ _) | (with_reducible refine Kd.C_drew ?_)))
    (case side6 => exact Uc.out)
    (case side7 => repeat (first | exact z17_19 | (with_reducible refine Kd.C_alloc ?_ _) | (with_reducible refine Kd.C_drewN ?_ _) | (with_reducible refine Kd.C_drew ?_)))
    (case side8 => exact Ud.out)
    (case side9 => repeat (first | exact z17_20 | (with_reducible refine Kd.C_alloc ?_ _) | (with_reducible refine Kd.C_drewN ?_ _) | (with_reducible refine Kd.C_drew ?_)))
    (case side10 => exact Ue.out)
    rintro e w34 ⟨rfl, hb⟩
    refine ⟨_, rfl, ?_⟩
    replace XG := mk0 (Kd.N_below (pkN XG) hb); replace X7 := mk0 (Kd.V_below (pkV X7) hb); replace XY := mk0 (Kd.V_below (pkV XY) hb); replace XZ := mk0 (Kd.V_below (pkV XZ) hb); replace X0 := mk0 (Kd.V_below (pkV X0) hb); replace X1 := mk0 (Kd.V_below (pkV X1) hb); replace YP := bR YP hb; replace XH := bB XH hb; replace XV := mk0 (Kd.C_belowB XV z17_21 hb); replace XO := mk0 (Kd.C_belowB XO z17_17 hb); replace XP := mk0 (Kd.C_belowB XP z17_18 hb); replace XQ := mk0 (Kd.C_belowB XQ z17_19 hb); replace XR := mk0 (Kd.C_belowB XR z17_20 hb); replace XJ := bB XJ hb; replace HB := bS z17_10 hb; (try clear hb); (try clear hb2); (try clear hk); (try clear hi); refine hK.out _ _ ⟨lie_of_blk XJ.out, (blk_cell XH.out 0).trans rfl⟩ (fun hHeld => ?_); clear hK K
    refine norm_ (a' := ?_) ?_ ?_
    rotate_left
    ·show Act.put _ (some 40) _ = _
     simp only [Act.put, List.setIfInBounds_toArray, List.set_cons_zero, List.set_cons_succ, i64_w, i32_w]
     rfl
    refine pzx (i := 2) (N := 41) (bA 23 7) HT_ ?_; refine pzx (i := 3) (N := 42) (bA 23 15) HT_ ?_; refine pzx (i := 5) (N := 44) (bA 23 47) HT_ ?_; refine pzx (i := 8) (N := 47) (bA 23 303) HT_ ?_
    refine take_ (i := 4) (N := some 43) (v := ?_) (a' := ?_) (bA 23 319) rfl rfl (take_ofW HT_.out HW_.out (by kernel_rfl)) (fun _ _ _ h => h) (Or.inl ⟨by rfl, ?_⟩) hHeld ?_ ?_
    rotate_left
    ·rintro w' ⟨sLgb569, s31⟩
     first | (refine load_yields (t := 69) (x := ?x_606_gb569) ?ho_606_gb569 ?hx_606_gb569 _ _ sLgb569 Try.underlying69 rfl (show (Try.prog.info? 69).map (·.size) = some 31 by kernel_rfl); (case ho_606_gb569 => rfl); (case hx_606_gb569 => rfl)) | (have c0_ := lie_at sLgb569 0 _ rfl; simp only [Nat.add_zero, Addr.add_zero'] at c0_; go_simp; with_reducible rfl) | (have c0_ : w'.cell? ⟨XK, 1, none⟩ = some (.int .i64 ((rd_T69 XD XE).f1)) := lie_at sLgb569 1 _ rfl; go_simp; with_reducible rfl) | (have c0_ : w'.cell? ⟨XK, 2, none⟩ = some (.bool ((rd_T69 XD XE).f2)) := lie_at sLgb569 2 _ rfl; go_simp; with_reducible rfl) | (go_simp; with_reducible rfl)
    rotate_left
    ·exact x17_put
    refine take_ (i := 6) (N := some 45) (v := ?_) (a' := ?_) (bA 23 383) rfl rfl (take_ofW HT_.out HW_.out (by kernel_rfl)) (fun _ _ _ h => h) (Or.inl ⟨by rfl, ?_⟩) hHeld ?_ ?_
    rotate_left
    ·rintro w' ⟨sLgb569, s31⟩
     first | (refine load_yields (t := 69) (x := ?x_616_gb569) ?ho_616_gb569 ?hx_616_gb569 _ _ sLgb569 Try.underlying69 rfl (show (Try.prog.info? 69).map (·.size) = some 31 by kernel_rfl); (case ho_616_gb569 => rfl); (case hx_616_gb569 => rfl)) | (have c0_ := lie_at sLgb569 0 _ rfl; simp only [Nat.add_zero, Addr.add_zero'] at c0_; go_simp; with_reducible rfl) | (have c0_ : w'.cell? ⟨XK, 1, none⟩ = some (.int .i64 ((rd_T69 XD XE).f1)) := lie_at sLgb569 1 _ rfl; go_simp; with_reducible rfl) | (have c0_ : w'.cell? ⟨XK, 2, none⟩ = some (.bool ((rd_T69 XD XE).f2)) := lie_at sLgb569 2 _ rfl; go_simp; with_reducible rfl) | (go_simp; with_reducible rfl)
    rotate_left
    ·exact x17_put
    refine one_ (i := 7) (N := some 46) (bA 23 511) rfl rfl (one_of HT_.out (by kernel_rfl)) (by decide) (fun K hK => ?_)
    refine goes_ Try.func41 (by kernel_rfl) rfl #[.agg #[.slice (some XM) XD.length X8], .int .i64 ((rd_T69 XD XE).f0)] (by rfl) rfl rfl q_1 ?_
    with_reducible refine (impl_NodeAt.calls k1 _ _ XD ((rd_T69 XD XE).f0) Z1 _ ?side1 ?side2 A29.out).mono ?_
    (case side1 => exact z17_11)
    (case side2 => exact (Kd.N_reads' XG.out).2.1)
    rintro e w35 ⟨rfl, hb⟩
    refine ⟨_, rfl, ?_⟩
    replace XG := mk0 (Kd.N_below (pkN XG) hb); replace X7 := mk0 (Kd.V_below (pkV X7) hb); replace XY := mk0 (Kd.V_below (pkV XY) hb); replace XZ := mk0 (Kd.V_below (pkV XZ) hb); replace X0 := mk0 (Kd.V_below (pkV X0) hb); replace X1 := mk0 (Kd.V_below (pkV X1) hb); replace YP := bR YP hb; replace XH := bB XH hb; replace XV := mk0 (Kd.C_belowB XV z17_21 hb); replace XO := mk0 (Kd.C_belowB XO z17_17 hb); replace XP := mk0 (Kd.C_belowB XP z17_18 hb); replace XQ := mk0 (Kd.C_belowB XQ z17_19 hb); replace XR := mk0 (Kd.C_belowB XR z17_20 hb); replace XJ := bB XJ hb; replace HB := bS z17_10 hb; (try clear hb); (try clear hb2); (try clear hk); (try clear hi); refine hK.out _ _ ⟨lie_of_blk XJ.out, (blk_cell XH.out 0).trans rfl⟩ (fun hHeld => ?_); clear hK K
    refine norm_ (a' := ?_) ?_ ?_
    rotate_left
    ·show Act.put _ (some 46) _ = _
     simp only [Act.put, List.setIfInBounds_toArray, List.set_cons_zero, List.set_cons_succ, i64_w, i32_w]
     rfl
    refine pzx (i := 9) (N := 48) (bA 23 1023) HT_ ?_; refine pzx (i := 10) (N := 49) (bA 23 2047) HT_ ?_; refine pzx (i := 11) (N := 50) (bA 23 4095) HT_ ?_; refine pzx (i := 13) (N := 52) (bA 23 12287) HT_ ?_; refine pzx (i := 17) (N := 56) (bA 23 143359) HT_ ?_
    refine take_ (i := 12) (N := some 51) (v := ?_) (a' := ?_) (bA 23 147455) rfl rfl (take_ofW HT_.out HW_.out (by kernel_rfl)) (fun _ _ _ h => h) (Or.inl ⟨by rfl, ?_⟩) hHeld ?_ ?_
    rotate_left
    ·rintro w' ⟨sLgb569, s31⟩
     first | (refine load_yields (t := 69) (x := ?x_730_gb569) ?ho_730_gb569 ?hx_730_gb569 _ _ sLgb569 Try.underlying69 rfl (show (Try.prog.info? 69).map (·.size) = some 31 by kernel_rfl); (case ho_730_gb569 => rfl); (case hx_730_gb569 => rfl)) | (have c0_ := lie_at sLgb569 0 _ rfl; simp only [Nat.add_zero, Addr.add_zero'] at c0_; go_simp; with_reducible rfl) | (have c0_ : w'.cell? ⟨XK, 1, none⟩ = some (.int .i64 ((rd_T69 XD XE).f1)) := lie_at sLgb569 1 _ rfl; go_simp; with_reducible rfl) | (have c0_ : w'.cell? ⟨XK, 2, none⟩ = some (.bool ((rd_T69 XD XE).f2)) := lie_at sLgb569 2 _ rfl; go_simp; with_reducible rfl) | (go_simp; with_reducible rfl)
    rotate_left
    ·exact x17_put
    refine take_ (i := 14) (N := some 53) (v := ?_) (a' := ?_) (bA 23 163839) rfl rfl (take_ofW HT_.out HW_.out (by kernel_rfl)) (fun _ _ _ h => h) (Or.inl ⟨by rfl, ?_⟩) hHeld ?_ ?_
    rotate_left
    ·rintro w' ⟨sLgb569, s31⟩
     first | (refine load_yields (t := 69) (x := ?x_740_gb569) ?ho_740_gb569 ?hx_740_gb569 _ _ sLgb569 Try.underlying69 rfl (show (Try.prog.info? 69).map (·.size) = some 31 by kernel_rfl); (case ho_740_gb569 => rfl); (case hx_740_gb569 => rfl)) | (have c0_ := lie_at sLgb569 0 _ rfl; simp only [Nat.add_zero, Addr.add_zero'] at c0_; go_simp; with_reducible rfl) | (have c0_ : w'.cell? ⟨XK, 1, none⟩ = some (.int .i64 ((rd_T69 XD XE).f1)) := lie_at sLgb569 1 _ rfl; go_simp; with_reducible rfl) | (have c0_ : w'.cell? ⟨XK, 2, none⟩ = some (.bool ((rd_T69 XD XE).f2)) := lie_at sLgb569 2 _ rfl; go_simp; with_reducible rfl) | (go_simp; with_reducible rfl)
    rotate_left
    ·exact x17_put
    refine take_ (i := 16) (N := some 55) (v := ?_) (a' := ?_) (bA 23 229375) rfl rfl (take_ofW HT_.out HW_.out (by kernel_rfl)) (fun _ _ _ h => h) (Or.inl ⟨by rfl, ?_⟩) hHeld ?_ ?_
    rotate_left
    ·rintro w' ⟨sLgb569, s31⟩
     first | (refine load_yields (t := 69) (x := ?x_750_gb569) ?ho_750_gb569 ?hx_750_gb569 _ _ sLgb569 Try.underlying69 rfl (show (Try.prog.info? 69).map (·.size) = some 31 by kernel_rfl); (case ho_750_gb569 => rfl); (case hx_750_gb569 => rfl)) | (have c0_ := lie_at sLgb569 0 _ rfl; simp only [Nat.add_zero, Addr.add_zero'] at c0_; go_simp; with_reducible rfl) | (have c0_ : w'.cell? ⟨XK, 1, none⟩ = some (.int .i64 ((rd_T69 XD XE).f1)) := lie_at sLgb569 1 _ rfl; go_simp; with_reducible rfl) | (have c0_ : w'.cell? ⟨XK, 2, none⟩ = some (.bool ((rd_T69 XD XE).f2)) := lie_at sLgb569 2 _ rfl; go_simp; with_reducible rfl) | (go_simp; with_reducible rfl)
    rotate_left
    ·exact x17_put
    refine take_ (i := 18) (N := some 57) (v := ?_) (a' := ?_) (bA 23 491519) rfl rfl (take_ofW HT_.out HW_.out (by kernel_rfl)) (fun _ _ _ h => h) (Or.inl ⟨by rfl, ?_⟩) hHeld ?_ ?_
    rotate_left
    ·rintro w' ⟨sLgb569, s31⟩
     first | (refine load_yields (t := 69) (x := ?x_760_gb569) ?ho_760_gb569 ?hx_760_gb569 _ _ sLgb569 Try.underlying69 rfl (show (Try.prog.info? 69).map (·.size) = some 31 by kernel_rfl); (case ho_760_gb569 => rfl); (case hx_760_gb569 => rfl)) | (have c0_ := lie_at sLgb569 0 _ rfl; simp only [Nat.add_zero, Addr.add_zero'] at c0_; go_simp; with_reducible rfl) | (have c0_ : w'.cell? ⟨XK, 1, none⟩ = some (.int .i64 ((rd_T69 XD XE).f1)) := lie_at sLgb569 1 _ rfl; go_simp; with_reducible rfl) | (have c0_ : w'.cell? ⟨XK, 2, none⟩ = some (.bool ((rd_T69 XD XE).f2)) := lie_at sLgb569 2 _ rfl; go_simp; with_reducible rfl) | (go_simp; with_reducible rfl)
    rotate_left
    ·exact x17_put
    refine one_ (i := 15) (N := some 54) (bA 23 524287) rfl rfl (one_of HT_.out (by kernel_rfl)) (by decide) (fun K hK => ?_)
    refine goes_ Try.func42 (by kernel_rfl) rfl #[.agg #[.slice (some XM) XD.length X8], .int .i64 ((rd_T69 XD XE).f0)] (by rfl) rfl rfl q_1 ?_
    with_reducible refine (impl_DepthOf.calls k1 _ _ XD ((rd_T69 XD XE).f0) Ut _ ?side1 ?side2 A31.out).mono ?_
    (case side1 => exact z17_11)
    (case side2 => exact (Kd.N_reads' XG.out).2.1)
    rintro e w36 ⟨rfl, hb⟩
    refine ⟨_, rfl, ?_⟩
    replace XG := mk0 (Kd.N_below (pkN XG) hb); replace X7 := mk0 (Kd.V_below (pkV X7) hb); replace XY := mk0 (Kd.V_below (pkV XY) hb); replace XZ := mk0 (Kd.V_below (pkV XZ) hb); replace X0 := mk0 (Kd.V_below (pkV X0) hb); replace X1 := mk0 (Kd.V_below (pkV X1) hb); replace YP := bR YP hb; replace XH := bB XH hb; replace XV := mk0 (Kd.C_belowB XV z17_21 hb); replace XO := mk0 (Kd.C_belowB XO z17_17 hb); replace XP := mk0 (Kd.C_belowB XP z17_18 hb); replace XQ := mk0 (Kd.C_belowB XQ z17_19 hb); replace XR := mk0 (Kd.C_belowB XR z17_20 hb); replace XJ := bB XJ hb; replace HB := bS z17_10 hb; (try clear hb); (try clear hb2); (try clear hk); (try clear hi); refine hK.out _ _ ⟨lie_of_blk XJ.out, (blk_cell XH.out 0).trans rfl⟩ (fun hHeld => ?_); clear hK K
    refine norm_ (a' := ?_) ?_ ?_
    rotate_left
    ·show Act.put _ (some 54) _ = _
     simp only [Act.put, List.setIfInBounds_toArray, List.set_cons_zero, List.set_cons_succ, i64_w, i32_w]
     rfl
    refine one_ (i := 19) (N := some 58) (bA 23 1048575) rfl rfl (one_of HT_.out (by kernel_rfl)) (by decide) (fun K hK => ?_)
    refine goes_ Try.func42 (by kernel_rfl) rfl #[.agg #[.slice (some XM) XD.length X8], .int .i64 ((rd_T69 XD XE).f1)] (by rfl) rfl rfl q_1 ?_
    with_reducible refine (impl_DepthOf.calls k1 _ _ XD ((rd_T69 XD XE).f1) Uu _ ?side1 ?side2 A32.out).mono ?_
    (case side1 => exact z17_11)
    (case side2 => exact (Kd.N_reads' XG.out).2.1)
    rintro e w37 ⟨rfl, hb⟩
    refine ⟨_, rfl, ?_⟩
    replace XG := mk0 (Kd.N_below (pkN XG) hb); replace X7 := mk0 (Kd.V_below (pkV X7) hb); replace XY := mk0 (Kd.V_below (pkV XY) hb); replace XZ := mk0 (Kd.V_below (pkV XZ) hb); replace X0 := mk0 (Kd.V_below (pkV X0) hb); replace X1 := mk0 (Kd.V_below (pkV X1) hb); replace YP := bR YP hb; replace XH := bB XH hb; replace XV := mk0 (Kd.C_belowB XV z17_21 hb); replace XO := mk0 (Kd.C_belowB XO z17_17 hb); replace XP := mk0 (Kd.C_belowB XP z17_18 hb); replace XQ := mk0 (Kd.C_belowB XQ z17_19 hb); replace XR := mk0 (Kd.C_belowB XR z17_20 hb); replace XJ := bB XJ hb; replace HB := bS z17_10 hb; (try clear hb); (try clear hb2); (try clear hk); (try clear hi); refine hK.out _ _ ⟨lie_of_blk XJ.out, (blk_cell XH.out 0).trans rfl⟩ (fun hHeld => ?_); clear hK K
    refine norm_ (a' := ?_) ?_ ?_
    rotate_left
    ·show Act.put _ (some 58) _ = _
     simp only [Act.put, List.setIfInBounds_toArray, List.set_cons_zero, List.set_cons_succ, i64_w, i32_w]
     rfl
    refine pzx (i := 20) (N := 59) (bA 23 2097151) HT_ ?_; refine pzx (i := 21) (N := 60) (bA 23 4194303) HT_ ?_; refine pzx (i := 22) (N := 61) (bA 23 8388607) HT_ ?_
    refine done_ (done_of HT_.out (by kernel_rfl)) ?_
    try go_wp2_with (first | ((with_reducible refine gate_load (t := 69) rfl ?_); refine load_lie (t := 69) rfl rfl Yd HB (by with_reducible rfl) rfl Try.underlying69 rfl (show (Try.prog.info? 69).map (·.size) = some 31 by kernel_rfl) rfl ?_) | ((with_reducible refine gate_load (t := 69) rfl ?_); refine load_lie0 (t := 69) rfl rfl Yd (by with_reducible rfl) rfl Try.underlying69 rfl (show (Try.prog.info? 69).map (·.size) = some 31 by kernel_rfl) rfl ?_) | ((with_reducible refine gate_load (t := 69) rfl ?_); refine load_at (t := 69) XK rfl rfl ?_; refine load_blkQ (t := 69) rfl rfl XJ rfl z17_12 Try.underlying69 rfl (show (Try.prog.info? 69).map (·.size) = some 31 by kernel_rfl) (by rfl) ?_) | ((with_reducible refine gate_store (t := 69) rfl ?_); refine wstore_blkW (t := 69) rfl rfl XJ rfl rfl z17_13 rfl (show (Try.prog.info? 69).map (·.size) = some 31 by kernel_rfl) rfl ?_; intro Yv hx569_ hbW_; have XL := mk0 hx569_; clear hx569_; refine bc_31 hbW_ ?_; intros; clear hbW_; (try (have hoW_ := blk_farE XL.out z17_22 XS.out; first | (refine bc_1 hoW_ ?_; intros) | (refine bc_31 hoW_ ?_; intros); clear hoW_)); (try (have hoW_ := blk_farE XL.out z17_23 XN.out; first | (refine bc_1 hoW_ ?_; intros) | (refine bc_31 hoW_ ?_; intros); clear hoW_))))
    go_meet
    case rel => exact ⟨_, ((Ut != (wrap64 (Uu + 1)))), rs0, H', ⟨(by have := HK1.out; first | omega | exact Nat.le_refl _)⟩, ⟨(by (with_reducible repeat (first | apply Kd.N_alloc | apply Kd.N_drewN | apply Kd.N_drew)); exact Kd.N_mono XG.out (fun _ hk => ⟨hk.1.1, hk.1.2⟩))⟩, ⟨pkb XH⟩, ⟨pkb XJ⟩, ⟨z17_21⟩, ⟨z17_17⟩, ⟨z17_18⟩, ⟨z17_19⟩, ⟨z17_20⟩, ⟨z17_10⟩⟩
   case rest =>
    clear UJ; try clear c1
    (try clear c17b0); (try clear JT); (try clear JU); (try clear Zw); (try clear Z4); (try clear Z5); (try clear Zx); (try clear Z6); (try clear Z7); (try clear Z8); (try clear Z9); (try clear Ja); (try clear Jb); (try clear JV); (try clear Jc); (try clear Jd); (try clear Je); (try clear Jf); (try clear Jg); (try clear Jh); (try clear Ji); (try clear Jj); (try clear Jk); (try clear Zy); (try clear JW); (try clear Zz); (try clear JX); (try clear JY); (try clear JZ); (try clear J0); (try clear J1); (try clear ZS); (try clear J9); (try clear Ua); obtain ⟨kq, ZV, rfl, HA, J7, XG, XH, XJ, XV, XO, XP, XQ, XR, HB⟩ := hcut
    cases kq with
    | zero => exact absurd HA.out (by simp [laws_FnTrees.j1])
    | succ kj18 =>
     have H := HA.out; clear HA; simp only [laws_FnTrees.j1] at H
     by_cases c38 : ZV = true
     ·subst c38; rw [if_pos rfl] at H
      obtain rfl := Option.some.inj H
      exact absurd hT Bool.false_ne_true
     replace c38 := Bool.eq_false_iff.mpr c38; subst c38; rw [if_neg (show ¬ (false = true) by decide)] at H
     obtain ⟨X3, A39, H⟩ := bnd H
     try dsimp only at H
     have UM := mk0 H; clear H; have Dz := XS.out; have DA := Yk.out; refine bc_1 XH.out ?_; intros; refine bc_31 XJ.out ?_; intros
     go_upto_region 15 with (first | ((with_reducible refine gate_load (t := 69) rfl ?_); refine load_lie (t := 69) rfl rfl Yd HB (by with_reducible rfl) rfl Try.underlying69 rfl (show (Try.prog.info? 69).map (·.size) = some 31 by kernel_rfl) rfl ?_) | ((with_reducible refine gate_load (t := 69) rfl ?_); refine load_lie0 (t := 69) rfl rfl Yd (by with_reducible rfl) rfl Try.underlying69 rfl (show (Try.prog.info? 69).map (·.size) = some 31 by kernel_rfl) rfl ?_) | ((with_reducible refine gate_callee (f := 37) rfl ?_); refine gl_ (some 65) Try.func37 #[.agg #[.slice (some XM) XD.length X8], .int .i64 ((rd_T69 XD XE).f0)] rfl q_1 ?_; (with_reducible refine (impl_UnderOf.calls kj18 _ _ XD ((rd_T69 XD XE).f0) X3 _ ?side1 ?side2 A39.out).mono ?_); (case side1 => exact z17_11); (case side2 => exact (Kd.N_reads' XG.out).2.1); rintro e w44 ⟨v578, rfl, ho0, hb⟩; refine ⟨_, rfl, ?_⟩; replace XG := mk0 (Kd.N_elder' (pkN XG) (Kd.R_base ho0) hb); have Zg := mk0 (Kd.R_lower ho0 (below_size z17_10)); replace XH := bB XH hb; replace XJ := bB XJ hb; replace XV := mk0 (Kd.C_belowB XV z17_21 hb); replace XO := mk0 (Kd.C_belowB XO z17_17 hb); replace XP := mk0 (Kd.C_belowB XP z17_18 hb); replace XQ := mk0 (Kd.C_belowB XQ z17_19 hb); replace XR := mk0 (Kd.C_belowB XR z17_20 hb); replace HB := bS z17_10 hb; clear hb ho0) | ((with_reducible refine gate_load (t := 69) rfl ?_); refine load_at (t := 69) XK rfl rfl ?_; refine load_blkQ (t := 69) rfl rfl XJ rfl z17_12 Try.underlying69 rfl (show (Try.prog.info? 69).map (·.size) = some 31 by kernel_rfl) (by rfl) ?_) | ((with_reducible refine gate_store (t := 69) rfl ?_); refine wstore_blkW (t := 69) rfl rfl XJ rfl rfl z17_13 rfl (show (Try.prog.info? 69).map (·.size) = some 31 by kernel_rfl) rfl ?_; intro Yv hx569_ hbW_; have XL := mk0 hx569_; clear hx569_; refine bc_31 hbW_ ?_; intros; clear hbW_; (try (have hoW_ := blk_farE XL.out z17_22 XS.out; first | (refine bc_1 hoW_ ?_; intros) | (refine bc_31 hoW_ ?_; intros); clear hoW_)); (try (have hoW_ := blk_farE XL.out z17_23 XN.out; first | (refine bc_1 hoW_ ?_; intros) | (refine bc_31 hoW_ ?_; intros); clear hoW_))))
     (try simp only [Act.put, List.setIfInBounds_toArray, List.set_cons_zero, List.set_cons_succ])
     go_cut [79] (fun v79 wc => ∃ (kq : Nat) (ZW : Bool), v79 = .bool ZW ∧ Aside0 (laws_FnTrees.j2 kq (wrap64 (Zv + (ZR.length : Int))) XE X3 ZW XD = some r) ∧ Aside0 (kq ≤ kj18) ∧ Aside0 (Kd.R (Kd.int .i64) 3 wc w.heap.size (fun _ => True) v578 X3) ∧ Aside0 (Kd.N k69 69 wc w.heap.size (fun k_ => some k_ ≠ (v578 : Value).ownBlock ∧ k_ ≠ XW ∧ k_ ≠ XK) (.slice (some XM) XD.length X8) XD) ∧ Aside0 (wc.heap[XW]? = some (.cells #[(.slice (some XM) XD.length X8)] 53 (0, 0))) ∧ Aside0 (wc.heap[XK]? = some (.cells #[.int .i64 ((rd_T69 XD XE).f0), .int .i64 ((rd_T69 XD XE).f1), .bool ((rd_T69 XD XE).f2), .int .i64 ((rd_T69 XD XE).f3.f0), .int .i64 ((rd_T69 XD XE).f3.f1), .int .i64 ((rd_T69 XD XE).f3.f2), .int .i64 ((rd_T69 XD XE).f3.f3), .int .i64 ((rd_T69 XD XE).f3.f4), .int .i64 ((rd_T69 XD XE).f3.f5), (.slice Yj ((rd_T69 XD XE).f4.f0).length Ym), (.slice X9 ((rd_T69 XD XE).f4.f1).length Yf), .bool ((rd_T69 XD XE).f5), .int .i64 ((rd_T69 XD XE).f6), (.slice Ya ((rd_T69 XD XE).f7).length Yg), .int .i64 ((rd_T69 XD XE).f8.f0), .int .i64 ((rd_T69 XD XE).f8.f1.f0), .int .i64 ((rd_T69 XD XE).f8.f1.f1), .int .i64 ((rd_T69 XD XE).f8.f1.f2), .int .i64 ((rd_T69 XD XE).f8.f1.f3), .int .i64 ((rd_T69 XD XE).f8.f2.f0), .int .i64 ((rd_T69 XD XE).f8.f2.f1), .int .i64 ((rd_T69 XD XE).f8.f2.f2), .int .i64 ((rd_T69 XD XE).f8.f2.f3), .int .i64 ((rd_T69 XD XE).f8.f3.f0), .int .i64 ((rd_T69 XD XE).f8.f3.f1), .int .i64 ((rd_T69 XD XE).f8.f4.f0), .int .i64 ((rd_T69 XD XE).f8.f4.f1), .int .i64 ((rd_T69 XD XE).f9), .int .i64 ((rd_T69 XD XE).f10), (.slice Yb ((rd_T69 XD XE).f11.f0).length Yh), (.slice Yc ((rd_T69 XD XE).f11.f1).length Yi)] 69 (0, 0))) ∧ Aside0 (Kd.C (Kd.int .i64) wc Yj ((rd_T69 XD XE).f4.f0).length ((rd_T69 XD XE).f4.f0)) ∧ Aside0 (Kd.C k29 wc X9 ((rd_T69 XD XE).f4.f1).length ((rd_T69 XD XE).f4.f1)) ∧ Aside0 (Kd.C (Kd.int .i64) wc Ya ((rd_T69 XD XE).f7).length ((rd_T69 XD XE).f7)) ∧ Aside0 (Kd.C (Kd.int .i64) wc Yb ((rd_T69 XD XE).f11.f0).length ((rd_T69 XD XE).f11.f0)) ∧ Aside0 (Kd.C k29 wc Yc ((rd_T69 XD XE).f11.f1).length ((rd_T69 XD XE).f11.f1)) ∧ Aside0 (Below w.heap.size w wc))
     case first =>
      have H := UM.out; clear UM; obtain ⟨UF, A45, H⟩ := bnd H
      try dsimp only at H
      by_cases c46 : UF = true
      rotate_left
      ·replace c46 := Bool.eq_false_iff.mpr c46; subst c46; rw [if_neg (show ¬ (false = true) by decide)] at H
       exact absurd (show r = false from by cases kj18 with | zero => exact absurd H (by simp [laws_FnTrees.j2]) | succ k_ => simp only [laws_FnTrees.j2, if_true] at H; exact (Option.some.inj H).symm) (by rw [hT]; simp)
      subst c46; rw [if_pos rfl] at H; obtain ⟨Uv, A47, H⟩ := bnd H
      try dsimp only at H
      obtain ⟨Uw, A48, H⟩ := bnd H
      try dsimp only at H
      have H' := mk0 H
      clear H; have DB := Yk.out; have DC := XS.out; refine bc_31 XJ.out ?_; intros; obtain ⟨Di, Dj, Dk⟩ := Kd.R_slice Zg.out; subst Dk
      go_wp2_with (first | ((with_reducible refine gate_load (t := 69) rfl ?_); refine load_lie (t := 69) rfl rfl Yd HB (by with_reducible rfl) rfl Try.underlying69 rfl (show (Try.prog.info? 69).map (·.size) = some 31 by kernel_rfl) rfl ?_) | ((with_reducible refine gate_load (t := 69) rfl ?_); refine load_lie0 (t := 69) rfl rfl Yd (by with_reducible rfl) rfl Try.underlying69 rfl (show (Try.prog.info? 69).map (·.size) = some 31 by kernel_rfl) rfl ?_) | ((with_reducible refine gate_callee (f := 43) rfl ?_); refine gl_ (some 69) Try.func43 #[.slice Di X3.length Dj, .int .i64 ((rd_T69 XD XE).f0)] rfl q_1 ?_; (with_reducible refine (laws_in.calls kj18 _ _ X3 ((rd_T69 XD XE).f0) true _ ?side1 ?side2 A45.out).mono ?_); (case side1 => exact z17_41); (case side2 => exact (Kd.R_reads' Zg.out).2.1); rintro e w' ⟨rfl, ⟨nd, rfl⟩⟩; refine ⟨_, rfl, ?_⟩; refine bc_1 XH.out ?_; intros) | (go_at_call 36; (with_reducible refine (spec_UnderOf.calls kj18 _ _ XD ((rd_T69 XD XE).f0) Uv _ ?side1 ?side2 A47.out).mono ?_); (case side1 => exact z17_11); (case side2 => exact (Kd.N_reads' XG.out).2.1); rintro e w53 ⟨v582, rfl, ho0, hb⟩; replace XG := mk0 (Kd.N_elder' (pkN XG) (Kd.R_base ho0) hb); have J4 := mk0 (Kd.R_lower (Kd.R_new' ho0 (Kd.R_lt (pkR Zg))) (below_size z17_10)); replace Zg := mk0 (Kd.R_elder' (pkR Zg) (Kd.R_base ho0) hb); replace XH := bB XH hb; replace XJ := bB XJ hb; replace XV := mk0 (Kd.C_belowB XV z17_21 hb); replace XO := mk0 (Kd.C_belowB XO z17_17 hb); replace XP := mk0 (Kd.C_belowB XP z17_18 hb); replace XQ := mk0 (Kd.C_belowB XQ z17_19 hb); replace XR := mk0 (Kd.C_belowB XR z17_20 hb); replace HB := bS z17_10 hb; clear hb ho0; obtain ⟨DO, DP, Dl⟩ := Kd.R_slice J4.out; subst Dl) | (go_at_call 44; (with_reducible refine (laws_sameInts.calls kj18 _ _ X3 _ _ Uv Uw _ ?side1 ?side2 ?side3 ?side4 A48.out).mono ?_); (case side1 => exact z17_41); (case side2 => exact (Kd.R_reads' Zg.out).2.1); (case side3 => repeat (first | (with_reducible exact (Kd.R_reads' J4.out).2.2) | (with_reducible refine Kd.C_alloc ?_ _) | (with_reducible refine Kd.C_drewN ?_ _) | (with_reducible refine Kd.C_drew ?_) | exact (Kd.R_reads' J4.out).2.2)); (case side4 => exact (Kd.R_reads' J4.out).2.1); rintro e w' ⟨rfl, ⟨nd, rfl⟩⟩) | ((with_reducible refine gate_load (t := 69) rfl ?_); refine load_at (t := 69) XK rfl rfl ?_; refine load_blkQ (t := 69) rfl rfl XJ rfl z17_12 Try.underlying69 rfl (show (Try.prog.info? 69).map (·.size) = some 31 by kernel_rfl) (by rfl) ?_) | ((with_reducible refine gate_store (t := 69) rfl ?_); refine wstore_blkW (t := 69) rfl rfl XJ rfl rfl z17_13 rfl (show (Try.prog.info? 69).map (·.size) = some 31 by kernel_rfl) rfl ?_; intro Yv hx569_ hbW_; have XL := mk0 hx569_; clear hx569_; refine bc_31 hbW_ ?_; intros; clear hbW_; (try (have hoW_ := blk_farE XL.out z17_22 XS.out; first | (refine bc_1 hoW_ ?_; intros) | (refine bc_31 hoW_ ?_; intros); clear hoW_)); (try (have hoW_ := blk_farE XL.out z17_23 XN.out; first | (refine bc_1 hoW_ ?_; intros) | (refine bc_31 hoW_ ?_; intros); clear hoW_))))
      go_meet
      case rel => exact ⟨_, (!Uw), rs0, H', ⟨(by have := HK1.out; have := J7.out; first | omega | exact Nat.le_refl _)⟩, ⟨(by (with_reducible repeat (first | apply Kd.R_alloc | apply Kd.R_drewN | apply Kd.R_drew)); exact Kd.R_mono Zg.out (fun _ hk => trivial))⟩, ⟨(by (with_reducible repeat (first | apply Kd.N_alloc | apply Kd.N_drewN | apply Kd.N_drew)); exact Kd.N_mono XG.out (fun _ hk => ⟨hk.1.2, ⟨hk.1.1.1, hk.1.1.2⟩⟩))⟩, ⟨pkb XH⟩, ⟨pkb XJ⟩, ⟨z17_21⟩, ⟨z17_17⟩, ⟨z17_18⟩, ⟨z17_19⟩, ⟨z17_20⟩, ⟨z17_10⟩⟩
     case rest =>
      clear UM; try clear c1
      (try clear c38); obtain ⟨kq, ZW, rfl, HA, Us, X2, XG, XH, XJ, XV, XO, XP, XQ, XR, HB⟩ := hcut
      cases kq with
      | zero => exact absurd HA.out (by simp [laws_FnTrees.j2])
      | succ kj39 =>
       have H := HA.out; clear HA; simp only [laws_FnTrees.j2] at H
       by_cases c55 : ZW = true
       ·subst c55; rw [if_pos rfl] at H
        obtain rfl := Option.some.inj H
        exact absurd hT Bool.false_ne_true
       replace c55 := Bool.eq_false_iff.mpr c55; subst c55; rw [if_neg (show ¬ (false = true) by decide)] at H
       have H' := mk0 H
       clear H
       go_wp2_with (first | ((with_reducible refine gate_load (t := 69) rfl ?_); refine load_lie (t := 69) rfl rfl Yd HB (by with_reducible rfl) rfl Try.underlying69 rfl (show (Try.prog.info? 69).map (·.size) = some 31 by kernel_rfl) rfl ?_) | ((with_reducible refine gate_load (t := 69) rfl ?_); refine load_lie0 (t := 69) rfl rfl Yd (by with_reducible rfl) rfl Try.underlying69 rfl (show (Try.prog.info? 69).map (·.size) = some 31 by kernel_rfl) rfl ?_) | ((with_reducible refine gate_load (t := 69) rfl ?_); refine load_at (t := 69) XK rfl rfl ?_; refine load_blkQ (t := 69) rfl rfl XJ rfl z17_12 Try.underlying69 rfl (show (Try.prog.info? 69).map (·.size) = some 31 by kernel_rfl) (by rfl) ?_) | ((with_reducible refine gate_store (t := 69) rfl ?_); refine wstore_blkW (t := 69) rfl rfl XJ rfl rfl z17_13 rfl (show (Try.prog.info? 69).map (·.size) = some 31 by kernel_rfl) rfl ?_; intro Yv hx569_ hbW_; have XL := mk0 hx569_; clear hx569_; refine bc_31 hbW_ ?_; intros; clear hbW_; (try (have hoW_ := blk_farE XL.out z17_22 XS.out; first | (refine bc_1 hoW_ ?_; intros) | (refine bc_31 hoW_ ?_; intros); clear hoW_)); (try (have hoW_ := blk_farE XL.out z17_23 XN.out; first | (refine bc_1 hoW_ ?_; intros) | (refine bc_31 hoW_ ?_; intros); clear hoW_))))
       go_loopg [8] kj39 (fun kq v8 w' => ∃ (Ye : Int), v8 = .int .i64 Ye ∧ Aside0 (laws_FnTrees.l1 kq (wrap64 (Zv + (ZR.length : Int))) XE X3 Ye XD = some r) ∧ Aside0 (kq ≤ kj39) ∧ Aside0 (Kd.R (Kd.int .i64) 3 w' w.heap.size (fun _ => True) v578 X3) ∧ Aside0 (Kd.N k69 69 w' w.heap.size (fun k_ => some k_ ≠ (v578 : Value).ownBlock ∧ k_ ≠ XW ∧ k_ ≠ XK) (.slice (some XM) XD.length X8) XD) ∧ Aside0 (w'.heap[XW]? = some (.cells #[(.slice (some XM) XD.length X8)] 53 (0, 0))) ∧ Aside0 (w'.heap[XK]? = some (.cells #[.int .i64 ((rd_T69 XD XE).f0), .int .i64 ((rd_T69 XD XE).f1), .bool ((rd_T69 XD XE).f2), .int .i64 ((rd_T69 XD XE).f3.f0), .int .i64 ((rd_T69 XD XE).f3.f1), .int .i64 ((rd_T69 XD XE).f3.f2), .int .i64 ((rd_T69 XD XE).f3.f3), .int .i64 ((rd_T69 XD XE).f3.f4), .int .i64 ((rd_T69 XD XE).f3.f5), (.slice Yj ((rd_T69 XD XE).f4.f0).length Ym), (.slice X9 ((rd_T69 XD XE).f4.f1).length Yf), .bool ((rd_T69 XD XE).f5), .int .i64 ((rd_T69 XD XE).f6), (.slice Ya ((rd_T69 XD XE).f7).length Yg), .int .i64 ((rd_T69 XD XE).f8.f0), .int .i64 ((rd_T69 XD XE).f8.f1.f0), .int .i64 ((rd_T69 XD XE).f8.f1.f1), .int .i64 ((rd_T69 XD XE).f8.f1.f2), .int .i64 ((rd_T69 XD XE).f8.f1.f3), .int .i64 ((rd_T69 XD XE).f8.f2.f0), .int .i64 ((rd_T69 XD XE).f8.f2.f1), .int .i64 ((rd_T69 XD XE).f8.f2.f2), .int .i64 ((rd_T69 XD XE).f8.f2.f3), .int .i64 ((rd_T69 XD XE).f8.f3.f0), .int .i64 ((rd_T69 XD XE).f8.f3.f1), .int .i64 ((rd_T69 XD XE).f8.f4.f0), .int .i64 ((rd_T69 XD XE).f8.f4.f1), .int .i64 ((rd_T69 XD XE).f9), .int .i64 ((rd_T69 XD XE).f10), (.slice Yb ((rd_T69 XD XE).f11.f0).length Yh), (.slice Yc ((rd_T69 XD XE).f11.f1).length Yi)] 69 (0, 0))) ∧ Aside0 (Below w.heap.size w w'))
       case atStart => exact ⟨(0), rs0, H', ⟨Nat.le_refl _⟩, ⟨pkR X2⟩, ⟨pkN XG⟩, ⟨pkb XH⟩, ⟨pkb XJ⟩, ⟨z17_10⟩⟩
       case round =>
        clear H'; (try clear c55); obtain ⟨Ye, rfl, HA, HK4, X2, XG, XH, XJ, HB⟩ := hrel
        cases gk with
        | zero => exact absurd HA.out (by simp [laws_FnTrees.l1])
        | succ k4 =>
         have H := HA.out; clear HA; simp only [laws_FnTrees.l1] at H
         by_cases c56 : Ye < (X3.length : Int)
         rotate_left
         ·rw [if_neg c56] at H; have c56b0 := decide_eq_false c56; clear c56
          have H' := mk0 H
          clear H; obtain ⟨DD, DE, Db⟩ := Kd.R_slice X2.out; subst Db
          go_wp2_with (first | ((with_reducible refine gate_load (t := 69) rfl ?_); refine load_lie (t := 69) rfl rfl Yd HB (by with_reducible rfl) rfl Try.underlying69 rfl (show (Try.prog.info? 69).map (·.size) = some 31 by kernel_rfl) rfl ?_) | ((with_reducible refine gate_load (t := 69) rfl ?_); refine load_lie0 (t := 69) rfl rfl Yd (by with_reducible rfl) rfl Try.underlying69 rfl (show (Try.prog.info? 69).map (·.size) = some 31 by kernel_rfl) rfl ?_) | ((with_reducible refine gate_load (t := 69) rfl ?_); refine load_at (t := 69) XK rfl rfl ?_; refine load_blkQ (t := 69) rfl rfl XJ rfl z17_12 Try.underlying69 rfl (show (Try.prog.info? 69).map (·.size) = some 31 by kernel_rfl) (by rfl) ?_) | ((with_reducible refine gate_store (t := 69) rfl ?_); refine wstore_blkW (t := 69) rfl rfl XJ rfl rfl z17_13 rfl (show (Try.prog.info? 69).map (·.size) = some 31 by kernel_rfl) rfl ?_; intro Yv hx569_ hbW_; have XL := mk0 hx569_; clear hx569_; refine bc_31 hbW_ ?_; intros; clear hbW_; (try (have hoW_ := blk_farE XL.out z17_22 XS.out; first | (refine bc_1 hoW_ ?_; intros) | (refine bc_31 hoW_ ?_; intros); clear hoW_)); (try (have hoW_ := blk_farE XL.out z17_23 XN.out; first | (refine bc_1 hoW_ ?_; intros) | (refine bc_31 hoW_ ?_; intros); clear hoW_))))
          go_roundg k4
          case measure => have := HK1.out; have := J7.out; have := Us.out; have := HK4.out; omega
          case rel => exact ⟨((wrap64 (Zv + (ZR.length : Int)))), (wrap64 (XE + 1)), rs0, rs0, H', ⟨z17_43⟩, ⟨(by (with_reducible repeat (first | apply Kd.N_alloc | apply Kd.N_drewN | apply Kd.N_drew)); exact Kd.N_mono XG.out (fun _ hk => hk.2.1))⟩, ⟨pkb XH⟩, ⟨z17_10⟩⟩
         rw [if_pos c56] at H; have c56b0 := decide_eq_true c56; clear c56
         by_cases c57 : 0 ≤ Ye
         rotate_left
         ·rw [if_neg c57] at H
          exact absurd H (by simp)
         rw [if_pos c57] at H; have c57b0 := decide_eq_true c57; clear c57; obtain ⟨XF, A58, H⟩ := bnd H
         try dsimp only at H
         by_cases c59 : 0 ≤ XF
         rotate_left
         ·rw [if_neg c59] at H
          exact absurd H (by simp)
         rw [if_pos c59] at H; have c59b0 := decide_eq_true c59; clear c59
         by_cases c60 : XF < (XD.length : Int)
         rotate_left
         ·rw [if_neg c60] at H
          exact absurd H (by simp)
         rw [if_pos c60] at H; have c60b0 := decide_eq_true c60; clear c60
         by_cases c61 : ((rd_T69 XD XF).f0) = ((rd_T69 XD XE).f0)
         ·rw [if_pos c61] at H
          have c61b0 : (((rd_T69 XD XF).f0) == ((rd_T69 XD XE).f0)) = true := beq_iff_eq.mpr c61
          have c61b1 : (((rd_T69 XD XF).f0) != ((rd_T69 XD XE).f0)) = false := bne_eq_false_iff_eq.mpr c61
          clear c61
          have H' := mk0 H
          clear H; obtain ⟨DQ, Uz, Dm⟩ := Kd.R_slice X2.out; subst Dm
          try go_wp2_with (first | ((with_reducible refine gate_load (t := 69) rfl ?_); refine load_lie (t := 69) rfl rfl Yd HB (by with_reducible rfl) rfl Try.underlying69 rfl (show (Try.prog.info? 69).map (·.size) = some 31 by kernel_rfl) rfl ?_) | ((with_reducible refine gate_load (t := 69) rfl ?_); refine load_lie0 (t := 69) rfl rfl Yd (by with_reducible rfl) rfl Try.underlying69 rfl (show (Try.prog.info? 69).map (·.size) = some 31 by kernel_rfl) rfl ?_) | ((with_reducible refine gate_load (t := 69) rfl ?_); refine load_at (t := 69) XK rfl rfl ?_; refine load_blkQ (t := 69) rfl rfl XJ rfl z17_12 Try.underlying69 rfl (show (Try.prog.info? 69).map (·.size) = some 31 by kernel_rfl) (by rfl) ?_) | ((with_reducible refine gate_store (t := 69) rfl ?_); refine wstore_blkW (t := 69) rfl rfl XJ rfl rfl z17_13 rfl (show (Try.prog.info? 69).map (·.size) = some 31 by kernel_rfl) rfl ?_; intro Yv hx569_ hbW_; have XL := mk0 hx569_; clear hx569_; refine bc_31 hbW_ ?_; intros; clear hbW_; (try (have hoW_ := blk_farE XL.out z17_22 XS.out; first | (refine bc_1 hoW_ ?_; intros) | (refine bc_31 hoW_ ?_; intros); clear hoW_)); (try (have hoW_ := blk_farE XL.out z17_23 XN.out; first | (refine bc_1 hoW_ ?_; intros) | (refine bc_31 hoW_ ?_; intros); clear hoW_))))
          replace X2 := mk0 (Kd.R_drew X2.out); replace XG := mk0 (Kd.N_drew XG.out); replace XH := mk0 (blk_drew XH.out); replace XJ := mk0 (blk_drew XJ.out); replace HB := mk0 (below_drew1 HB.out)
          have JO : 0 ≤ (Ye : Int) := of_decide_eq_true (by first | (with_reducible assumption) | assumption)
          have JP : Ye < (X3.length : Int) := of_decide_eq_true (by first | (with_reducible assumption) | assumption)
          obtain ⟨Yw, e585, Zh⟩ := Kd.at_int (Kd.R_reads' X2.out).2.2 Ye JO JP
          cases e585
          replace JO := eq_true JO; replace JP := eq_true JP
          have ZX : 0 ≤ (XF : Int) := of_decide_eq_true (by first | (with_reducible assumption) | assumption)
          have Z0 : XF < (XD.length : Int) := of_decide_eq_true (by first | (with_reducible assumption) | assumption)
          obtain ⟨Uf, YJ, YK, Yn, Yo, Yp, Yq, Yr, Ys, Yt, Yu, e587, Zi, Zj, Zk, Zl, Zm, Zn, Zo, Zp, Zq, YL, Yx, YR, YS, Yy, YT, YU, YV, YW, YX, YY, YZ, Y0, Y1, Y2, Y3, Y4, Y5, Y6, Y7, Yz, YA, Zr, Zs, Y8, Y9, Za, Zb, Zc, Zd, Ze, Zf⟩ := at_T69 (Kd.N_reads' XG.out).2.2 XF ZX Z0; have ZI := lie_zero Zi (lie_n Zj (lie_n Zk (lie_n Zl (lie_n Zm (lie_n Zn (lie_n Zo (lie_n Zp (lie_n Zq (lie_n YL (lie_n Yx (lie_n YR (lie_n YS (lie_n Yy (lie_n YT (lie_n YU (lie_n YV (lie_n YW (lie_n YX (lie_n YY (lie_n YZ (lie_n Y0 (lie_n Y1 (lie_n Y2 (lie_n Y3 (lie_n Y4 (lie_n Y5 (lie_n Y6 (lie_n Y7 (lie_n Yz (lie_n YA (lie_nil _ _ _)))))))))))))))))))))))))))))))
          obtain rfl : XM = Uf := (by injection e587)
          obtain ⟨ce587, JQ, JR, Yl⟩ := Kd.N_get XG.out z69 XF ZX z17_44; obtain ⟨UA, UB, Ug, Uh, Ui, Uj, Uk, Ul, Um, Un, rfl, YM, YN, YB, YC, YD, YE, YF, YG, YH, YI⟩ := k69_openF JR; have hv587_9 := Yl 9 _ rfl; rw [add_field _ _ 9 (by omega)] at hv587_9; replace hv587_9 := Option.some.inj (hv587_9.symm.trans YL)
          injection hv587_9 with hva_ hvn_ hvc_
          rw [hva_] at YN; rw [hvc_] at YM; have ZY := mk0 (show Kd.V (Kd.int .i64) 3 _ w.heap.size _ _ ((rd_T69 XD XF).f4.f0) from Kd.V_mk YM YN); clear hva_ hvn_ hvc_ YN YM; have hv587_10 := Yl 10 _ rfl; rw [add_field _ _ 10 (by omega)] at hv587_10; replace hv587_10 := Option.some.inj (hv587_10.symm.trans Yx)
          injection hv587_10 with hva_ hvn_ hvc_
          rw [hva_] at YC; rw [hvc_] at YB; have ZJ := mk0 (show Kd.V k29 29 _ w.heap.size _ _ ((rd_T69 XD XF).f4.f1) from Kd.V_mk YB YC); clear hva_ hvn_ hvc_ YC YB; have hv587_13 := Yl 13 _ rfl; rw [add_field _ _ 13 (by omega)] at hv587_13; replace hv587_13 := Option.some.inj (hv587_13.symm.trans Yy)
          injection hv587_13 with hva_ hvn_ hvc_
          rw [hva_] at YE; rw [hvc_] at YD; have ZK := mk0 (show Kd.V (Kd.int .i64) 3 _ w.heap.size _ _ ((rd_T69 XD XF).f7) from Kd.V_mk YD YE); clear hva_ hvn_ hvc_ YE YD; have hv587_29 := Yl 29 _ rfl; rw [add_field _ _ 29 (by omega)] at hv587_29; replace hv587_29 := Option.some.inj (hv587_29.symm.trans Yz)
          injection hv587_29 with hva_ hvn_ hvc_
          rw [hva_] at YG; rw [hvc_] at YF; have ZL := mk0 (show Kd.V (Kd.int .i64) 3 _ w.heap.size _ _ ((rd_T69 XD XF).f11.f0) from Kd.V_mk YF YG); clear hva_ hvn_ hvc_ YG YF; have hv587_30 := Yl 30 _ rfl; rw [add_field _ _ 30 (by omega)] at hv587_30; replace hv587_30 := Option.some.inj (hv587_30.symm.trans YA)
          injection hv587_30 with hva_ hvn_ hvc_
          rw [hva_] at YI; rw [hvc_] at YH; have ZM := mk0 (show Kd.V k29 29 _ w.heap.size _ _ ((rd_T69 XD XF).f11.f1) from Kd.V_mk YH YI); clear hva_ hvn_ hvc_ YI YH Yl JQ; have ZZ := mk0 Zs; have UC := mk0 Zr; clear Zs Zr; have ZN := mk0 Y9; have Uo := mk0 Y8; clear Y9 Y8; have ZO := mk0 Zb; have Up := mk0 Za; clear Zb Za; have ZP := mk0 Zd; have Uq := mk0 Zc; clear Zd Zc; have ZQ := mk0 Zf; have Ur := mk0 Ze; clear Zf Ze; replace ZX := eq_true ZX; replace Z0 := eq_true Z0
          refine start_ (n := 12) (S := fun w' => w'.cell? ⟨XW, 0, none⟩ = some (.slice (some XM) XD.length X8) ∧ w'.cell? (Yw.add (Ye).toNat) = some (.int .i64 (rd X3 Ye)) ∧ Lie w' (XM.add ((XF).toNat * 31)) 0 [.int .i64 ((rd_T69 XD XF).f0), .int .i64 ((rd_T69 XD XF).f1), .bool ((rd_T69 XD XF).f2), .int .i64 ((rd_T69 XD XF).f3.f0), .int .i64 ((rd_T69 XD XF).f3.f1), .int .i64 ((rd_T69 XD XF).f3.f2), .int .i64 ((rd_T69 XD XF).f3.f3), .int .i64 ((rd_T69 XD XF).f3.f4), .int .i64 ((rd_T69 XD XF).f3.f5), .slice YJ ((rd_T69 XD XF).f4.f0).length YK, .slice Yn ((rd_T69 XD XF).f4.f1).length Yo, .bool ((rd_T69 XD XF).f5), .int .i64 ((rd_T69 XD XF).f6), .slice Yp ((rd_T69 XD XF).f7).length Yq, .int .i64 ((rd_T69 XD XF).f8.f0), .int .i64 ((rd_T69 XD XF).f8.f1.f0), .int .i64 ((rd_T69 XD XF).f8.f1.f1), .int .i64 ((rd_T69 XD XF).f8.f1.f2), .int .i64 ((rd_T69 XD XF).f8.f1.f3), .int .i64 ((rd_T69 XD XF).f8.f2.f0), .int .i64 ((rd_T69 XD XF).f8.f2.f1), .int .i64 ((rd_T69 XD XF).f8.f2.f2), .int .i64 ((rd_T69 XD XF).f8.f2.f3), .int .i64 ((rd_T69 XD XF).f8.f3.f0), .int .i64 ((rd_T69 XD XF).f8.f3.f1), .int .i64 ((rd_T69 XD XF).f8.f4.f0), .int .i64 ((rd_T69 XD XF).f8.f4.f1), .int .i64 ((rd_T69 XD XF).f9), .int .i64 ((rd_T69 XD XF).f10), .slice Yr ((rd_T69 XD XF).f11.f0).length Ys, .slice Yt ((rd_T69 XD XF).f11.f1).length Yu]) (ds := []) y17_1 (by kernel_rfl) rfl rfl ⟨(blk_cell XH.out 0).trans rfl, Zh, ZI⟩ (fun hHeld => ?_); refine with_tabW laws_FnTrees.tab20 laws_FnTrees.bits20 (fun HT_ HW_ => ?_)
          generalize wr.drew = w63 at X2 XG XH XJ HB ZJ ZK ZL ZM ZY ZN ZO ZP ZQ ZZ Zh Zi Zj Yx YR YS Yy YT YU YV YW YX YY Zk YZ Y0 Y1 Y2 Y3 Y4 Y5 Y6 Y7 Yz Zl YA Zm Zn Zo Zp Zq YL hHeld ⊢
          refine pzx (i := 0) (N := 86) y17_3 HT_ ?_; refine pzx (i := 3) (N := 89) y17_4 HT_ ?_; refine pzx (i := 4) (N := 90) y17_5 HT_ ?_; refine pzx (i := 5) (N := 91) y17_6 HT_ ?_
          refine take_ (i := 1) (N := some 87) (v := ?_) (a' := ?_) y17_8 rfl rfl (take_ofW HT_.out HW_.out (by kernel_rfl)) (fun _ _ _ h => h) (Or.inl ⟨by rfl, ?_⟩) hHeld ?_ ?_
          rotate_left
          ·rintro w' ⟨s0, s1, sL568⟩
           first | (refine load_yields (t := 69) (x := ?UN) ?Jt ?Ju _ _ sL568 Try.underlying69 rfl (show (Try.prog.info? 69).map (·.size) = some 31 by kernel_rfl); (case Jt => rfl); (case Ju => rfl)) | (have c0_ := lie_at sL568 0 _ rfl; simp only [Nat.add_zero, Addr.add_zero'] at c0_; go_simp; with_reducible rfl) | (have c0_ : w'.cell? ⟨(XM.add ((XF).toNat * 31)).block, (XM.add ((XF).toNat * 31)).off + 2, none⟩ = some (.bool ((rd_T69 XD XF).f2)) := lie_at sL568 2 _ rfl; go_simp; with_reducible rfl) | (go_simp; with_reducible rfl)
          rotate_left
          ·exact x17_put
          refine take_ (i := 2) (N := some 88) (v := ?_) (a' := ?_) y17_13 rfl rfl (take_ofW HT_.out HW_.out (by kernel_rfl)) (fun _ _ _ h => h) (Or.inl ⟨by rfl, ?_⟩) hHeld ?_ ?_
          rotate_left
          ·rintro w' ⟨s0, s1, sL568⟩
           first | (refine load_yields (t := 69) (x := ?UO) ?Jv ?Jw _ _ sL568 Try.underlying69 rfl (show (Try.prog.info? 69).map (·.size) = some 31 by kernel_rfl); (case Jv => rfl); (case Jw => rfl)) | (have c0_ := lie_at sL568 0 _ rfl; simp only [Nat.add_zero, Addr.add_zero'] at c0_; go_simp; with_reducible rfl) | (have c0_ : w'.cell? ⟨(XM.add ((XF).toNat * 31)).block, (XM.add ((XF).toNat * 31)).off + 2, none⟩ = some (.bool ((rd_T69 XD XF).f2)) := lie_at sL568 2 _ rfl; go_simp; with_reducible rfl) | (go_simp; with_reducible rfl)
          rotate_left
          ·exact x17_put
          refine take_ (i := 6) (N := some 92) (v := ?_) (a' := ?_) y17_15 rfl rfl (take_ofW HT_.out HW_.out (by kernel_rfl)) (fun _ _ _ h => h) (Or.inl ⟨by rfl, ?_⟩) hHeld ?_ ?_
          rotate_left
          ·rintro w' ⟨s0, s1, sL568⟩
           first | (refine load_yields (t := 69) (x := ?UQ) ?Jx ?Jy _ _ sL568 Try.underlying69 rfl (show (Try.prog.info? 69).map (·.size) = some 31 by kernel_rfl); (case Jx => rfl); (case Jy => rfl)) | (have c0_ := lie_at sL568 0 _ rfl; simp only [Nat.add_zero, Addr.add_zero'] at c0_; go_simp; with_reducible rfl) | (have c0_ : w'.cell? ⟨(XM.add ((XF).toNat * 31)).block, (XM.add ((XF).toNat * 31)).off + 2, none⟩ = some (.bool ((rd_T69 XD XF).f2)) := lie_at sL568 2 _ rfl; go_simp; with_reducible rfl) | (go_simp; with_reducible rfl)
          rotate_left
          ·exact x17_put
          refine join_ (σ := Nat) 1 y17_26 (fun s_ => [(93, .int .i64 XF), (9, .pointer (some ⟨s_, 0, none⟩)), (94, .pointer (some (XM.add ((XF).toNat * 31)))), (95, .agg #[.int .i64 ((rd_T69 XD XF).f0), .int .i64 ((rd_T69 XD XF).f1), .bool ((rd_T69 XD XF).f2), .int .i64 ((rd_T69 XD XF).f3.f0), .int .i64 ((rd_T69 XD XF).f3.f1), .int .i64 ((rd_T69 XD XF).f3.f2), .int .i64 ((rd_T69 XD XF).f3.f3), .int .i64 ((rd_T69 XD XF).f3.f4), .int .i64 ((rd_T69 XD XF).f3.f5), .slice YJ ((rd_T69 XD XF).f4.f0).length YK, .slice Yn ((rd_T69 XD XF).f4.f1).length Yo, .bool ((rd_T69 XD XF).f5), .int .i64 ((rd_T69 XD XF).f6), .slice Yp ((rd_T69 XD XF).f7).length Yq, .int .i64 ((rd_T69 XD XF).f8.f0), .int .i64 ((rd_T69 XD XF).f8.f1.f0), .int .i64 ((rd_T69 XD XF).f8.f1.f1), .int .i64 ((rd_T69 XD XF).f8.f1.f2), .int .i64 ((rd_T69 XD XF).f8.f1.f3), .int .i64 ((rd_T69 XD XF).f8.f2.f0), .int .i64 ((rd_T69 XD XF).f8.f2.f1), .int .i64 ((rd_T69 XD XF).f8.f2.f2), .int .i64 ((rd_T69 XD XF).f8.f2.f3), .int .i64 ((rd_T69 XD XF).f8.f3.f0), .int .i64 ((rd_T69 XD XF).f8.f3.f1), .int .i64 ((rd_T69 XD XF).f8.f4.f0), .int .i64 ((rd_T69 XD XF).f8.f4.f1), .int .i64 ((rd_T69 XD XF).f9), .int .i64 ((rd_T69 XD XF).f10), .slice Yr ((rd_T69 XD XF).f11.f0).length Ys, .slice Yt ((rd_T69 XD XF).f11.f1).length Yu])]) (fun s_ w' => (w'.cell? ⟨XW, 0, none⟩ = some (.slice (some XM) XD.length X8) ∧ w'.cell? (Yw.add (Ye).toNat) = some (.int .i64 (rd X3 Ye)) ∧ Lie w' (XM.add ((XF).toNat * 31)) 0 [.int .i64 ((rd_T69 XD XF).f0), .int .i64 ((rd_T69 XD XF).f1), .bool ((rd_T69 XD XF).f2), .int .i64 ((rd_T69 XD XF).f3.f0), .int .i64 ((rd_T69 XD XF).f3.f1), .int .i64 ((rd_T69 XD XF).f3.f2), .int .i64 ((rd_T69 XD XF).f3.f3), .int .i64 ((rd_T69 XD XF).f3.f4), .int .i64 ((rd_T69 XD XF).f3.f5), .slice YJ ((rd_T69 XD XF).f4.f0).length YK, .slice Yn ((rd_T69 XD XF).f4.f1).length Yo, .bool ((rd_T69 XD XF).f5), .int .i64 ((rd_T69 XD XF).f6), .slice Yp ((rd_T69 XD XF).f7).length Yq, .int .i64 ((rd_T69 XD XF).f8.f0), .int .i64 ((rd_T69 XD XF).f8.f1.f0), .int .i64 ((rd_T69 XD XF).f8.f1.f1), .int .i64 ((rd_T69 XD XF).f8.f1.f2), .int .i64 ((rd_T69 XD XF).f8.f1.f3), .int .i64 ((rd_T69 XD XF).f8.f2.f0), .int .i64 ((rd_T69 XD XF).f8.f2.f1), .int .i64 ((rd_T69 XD XF).f8.f2.f2), .int .i64 ((rd_T69 XD XF).f8.f2.f3), .int .i64 ((rd_T69 XD XF).f8.f3.f0), .int .i64 ((rd_T69 XD XF).f8.f3.f1), .int .i64 ((rd_T69 XD XF).f8.f4.f0), .int .i64 ((rd_T69 XD XF).f8.f4.f1), .int .i64 ((rd_T69 XD XF).f9), .int .i64 ((rd_T69 XD XF).f10), .slice Yr ((rd_T69 XD XF).f11.f0).length Ys, .slice Yt ((rd_T69 XD XF).f11.f1).length Yu]) ∧ (Kd.N k69 69 w' w.heap.size (fun k_ => some k_ ≠ (.slice (some Yw) X3.length Uz : Value).ownBlock ∧ k_ ≠ XW ∧ k_ ≠ XK ∧ k_ ≠ s_) (.slice (some XM) XD.length X8) XD) ∧ (Kd.R (Kd.int .i64) 3 w' w.heap.size (fun _ => True) (.slice (some Yw) X3.length Uz) X3) ∧ (w'.heap[XW]? = some (.cells #[.slice (some XM) XD.length X8] 53 (0, 0))) ∧ (w'.heap[XK]? = some (.cells #[.int .i64 ((rd_T69 XD XE).f0), .int .i64 ((rd_T69 XD XE).f1), .bool ((rd_T69 XD XE).f2), .int .i64 ((rd_T69 XD XE).f3.f0), .int .i64 ((rd_T69 XD XE).f3.f1), .int .i64 ((rd_T69 XD XE).f3.f2), .int .i64 ((rd_T69 XD XE).f3.f3), .int .i64 ((rd_T69 XD XE).f3.f4), .int .i64 ((rd_T69 XD XE).f3.f5), .slice Yj ((rd_T69 XD XE).f4.f0).length Ym, .slice X9 ((rd_T69 XD XE).f4.f1).length Yf, .bool ((rd_T69 XD XE).f5), .int .i64 ((rd_T69 XD XE).f6), .slice Ya ((rd_T69 XD XE).f7).length Yg, .int .i64 ((rd_T69 XD XE).f8.f0), .int .i64 ((rd_T69 XD XE).f8.f1.f0), .int .i64 ((rd_T69 XD XE).f8.f1.f1), .int .i64 ((rd_T69 XD XE).f8.f1.f2), .int .i64 ((rd_T69 XD XE).f8.f1.f3), .int .i64 ((rd_T69 XD XE).f8.f2.f0), .int .i64 ((rd_T69 XD XE).f8.f2.f1), .int .i64 ((rd_T69 XD XE).f8.f2.f2), .int .i64 ((rd_T69 XD XE).f8.f2.f3), .int .i64 ((rd_T69 XD XE).f8.f3.f0), .int .i64 ((rd_T69 XD XE).f8.f3.f1), .int .i64 ((rd_T69 XD XE).f8.f4.f0), .int .i64 ((rd_T69 XD XE).f8.f4.f1), .int .i64 ((rd_T69 XD XE).f9), .int .i64 ((rd_T69 XD XE).f10), .slice Yb ((rd_T69 XD XE).f11.f0).length Yh, .slice Yc ((rd_T69 XD XE).f11.f1).length Yi] 69 (0, 0))) ∧ (w'.heap[s_]? = some (.cells #[.int .i64 0, .int .i64 0, .bool false, .int .i64 0, .int .i64 0, .int .i64 0, .int .i64 0, .int .i64 0, .int .i64 0, .slice none 0 0, .slice none 0 0, .bool false, .int .i64 0, .slice none 0 0, .int .i64 0, .int .i64 0, .int .i64 0, .int .i64 0, .int .i64 0, .int .i64 0, .int .i64 0, .int .i64 0, .int .i64 0, .int .i64 0, .int .i64 0, .int .i64 0, .int .i64 0, .int .i64 0, .int .i64 0, .slice none 0 0, .slice none 0 0] 69 (0, 0))) ∧ (w.heap.size ≤ s_) ∧ (w.heap.size ≤ s_) ∧ (XW ≠ s_) ∧ (s_ ≠ XW) ∧ (XK ≠ s_) ∧ (s_ ≠ XK) ∧ (Below w.heap.size w w')) ?_ ?_
          rotate_left
          ·intro hCont
           refine two_ (i := 7) (j := 10) (Ni := some 93) (Nj := some 9) (bA 12 255) (bA 12 1151) rfl rfl rfl rfl (two_of HT_.out (by kernel_rfl)) (by decide) (by decide) (fun K hK => ?_) (fun K hK => ?_)
           ·skip
            refine goes_ Try.func41 (by kernel_rfl) rfl #[.agg #[.slice (some XM) XD.length X8], .int .i64 (rd X3 Ye)] (by rfl) rfl rfl q_1 ?_
            with_reducible refine (impl_NodeAt.calls k4 _ _ XD (rd X3 Ye) XF _ ?side1 ?side2 A58.out).mono ?_
            (case side1 => exact z17_11)
            (case side2 => exact (Kd.N_reads' XG.out).2.1)
            rintro e w64 ⟨rfl, hb⟩; have HS1_ := (hb.cell (World.block_lt_of_cell? _ _ (hHeld.2.1))).trans (hHeld.2.1); have hTL2_ := lie_below hb (hHeld.2.2)
            refine ⟨_, rfl, ?_⟩
            replace X2 := bR X2 hb; replace XG := mk0 (Kd.N_below (pkN XG) hb); replace XH := bB XH hb; replace XJ := bB XJ hb; replace HB := bS z17_10 hb; (try clear hb); (try clear hb2); (try clear hk); (try clear hi); refine hK.out _ _ ⟨(blk_cell XH.out 0).trans rfl, HS1_, hTL2_⟩ (fun hHeld => ?_); clear hK K
            refine norm_ (a' := ?_) ?_ ?_
            rotate_left
            ·show Act.put _ (some 93) _ = _
             simp only [Act.put, List.setIfInBounds_toArray, List.set_cons_zero, List.set_cons_succ, i64_w, i32_w]
             rfl
            refine pzx (i := 8) (N := 94) (bA 12 511) HT_ ?_
            refine take_ (i := 9) (N := some 95) (v := ?_) (a' := ?_) (bA 12 1023) rfl rfl (take_ofW HT_.out HW_.out (by kernel_rfl)) (fun _ _ _ h => h) (Or.inl ⟨by rfl, ?_⟩) hHeld ?_ ?_
            rotate_left
            ·rintro w' ⟨s0, s1, sL568⟩
             first | (refine load_yields (t := 69) (x := ?UR) ?Jz ?JA _ _ sL568 Try.underlying69 rfl (show (Try.prog.info? 69).map (·.size) = some 31 by kernel_rfl); (case Jz => rfl); (case JA => rfl)) | (have c0_ := lie_at sL568 0 _ rfl; simp only [Nat.add_zero, Addr.add_zero'] at c0_; go_simp; with_reducible rfl) | (have c0_ : w'.cell? ⟨(XM.add ((XF).toNat * 31)).block, (XM.add ((XF).toNat * 31)).off + 2, none⟩ = some (.bool ((rd_T69 XD XF).f2)) := lie_at sL568 2 _ rfl; go_simp; with_reducible rfl) | (go_simp; with_reducible rfl)
            rotate_left
            ·exact x17_put
            refine one_ (i := 10) (N := some 9) y17_26 rfl rfl (one_of HT_.out (by kernel_rfl)) (by decide) (fun K hK => ?_)
            refine box_step ?hg (N := 9) ?hd (cs := #[.int .i64 0, .int .i64 0, .bool false, .int .i64 0, .int .i64 0, .int .i64 0, .int .i64 0, .int .i64 0, .int .i64 0, .slice none 0 0, .slice none 0 0, .bool false, .int .i64 0, .slice none 0 0, .int .i64 0, .int .i64 0, .int .i64 0, .int .i64 0, .int .i64 0, .int .i64 0, .int .i64 0, .int .i64 0, .int .i64 0, .int .i64 0, .int .i64 0, .int .i64 0, .int .i64 0, .int .i64 0, .int .i64 0, .slice none 0 0, .slice none 0 0]) (t := 69) ?hr ?_; (case hd => rfl); (case hg => rfl); (case hr => first | (go_simp; done) | (go_simp; rfl))
            intro XX hg w65 hbox hb; have HS1_ := (hb.cell (World.block_lt_of_cell? _ _ (hHeld.2.1))).trans (hHeld.2.1); have hTL2_ := lie_below hb (hHeld.2.2); replace X2 := bR X2 hb; replace XG := mk0 (Kd.N_below (Kd.N_elderB (pkN XG) XX (Nat.le_of_eq hg.symm)) hb); have X5 := mk0 (hbox); have Zt := mk0 (ge_go (a := w.heap.size) hg (below_size z17_10)); have YQ := mk0 (ge_go (a := w.heap.size) hg (below_size z17_10)); replace HB := bS z17_10 hb; have XU := mk0 (nb_lt hg (blk_ltB XH (pkb XH))); have X4 := mk0 (nb_gt hg (blk_ltB XH (pkb XH))); replace XH := bB XH hb; have XT := mk0 (nb_lt hg (blk_ltB XJ (pkb XJ))); have XN := mk0 (nb_gt hg (blk_ltB XJ (pkb XJ))); replace XJ := bB XJ hb; clear hb hbox hg; refine hK.out _ _ ⟨(blk_cell XH.out 0).trans rfl, HS1_, hTL2_⟩ (fun hHeld => ?_); clear hK K
            refine norm_ (a' := ?_) ?_ ?_
            rotate_left
            ·show Act.put _ (some 9) _ = _
             simp only [Act.put, List.setIfInBounds_toArray, List.set_cons_zero, List.set_cons_succ, i64_w, i32_w]
             rfl
            exact norm_ q_202 (hCont (XX) _ ⟨hHeld, z17_25, (pkR X2), (pkb XH), (pkb XJ), (pkb X5), Zt.out, YQ.out, XU.out, X4.out, XT.out, XN.out, z17_14⟩)
           skip
           refine box_step ?hg (N := 9) ?hd (cs := #[.int .i64 0, .int .i64 0, .bool false, .int .i64 0, .int .i64 0, .int .i64 0, .int .i64 0, .int .i64 0, .int .i64 0, .slice none 0 0, .slice none 0 0, .bool false, .int .i64 0, .slice none 0 0, .int .i64 0, .int .i64 0, .int .i64 0, .int .i64 0, .int .i64 0, .int .i64 0, .int .i64 0, .int .i64 0, .int .i64 0, .int .i64 0, .int .i64 0, .int .i64 0, .int .i64 0, .int .i64 0, .int .i64 0, .slice none 0 0, .slice none 0 0]) (t := 69) ?hr ?_; (case hd => rfl); (case hg => rfl); (case hr => first | (go_simp; done) | (go_simp; rfl))
           intro XX hg w64 hbox hb; have HS1_ := (hb.cell (World.block_lt_of_cell? _ _ (hHeld.2.1))).trans (hHeld.2.1); have hTL2_ := lie_below hb (hHeld.2.2); replace X2 := bR X2 hb; replace XG := mk0 (Kd.N_below (Kd.N_elderB (pkN XG) XX (Nat.le_of_eq hg.symm)) hb); have X5 := mk0 (hbox); have Zt := mk0 (ge_go (a := w.heap.size) hg (below_size z17_10)); have YQ := mk0 (ge_go (a := w.heap.size) hg (below_size z17_10)); replace HB := bS z17_10 hb; have XU := mk0 (nb_lt hg (blk_ltB XH (pkb XH))); have X4 := mk0 (nb_gt hg (blk_ltB XH (pkb XH))); replace XH := bB XH hb; have XT := mk0 (nb_lt hg (blk_ltB XJ (pkb XJ))); have XN := mk0 (nb_gt hg (blk_ltB XJ (pkb XJ))); replace XJ := bB XJ hb; clear hb hbox hg; refine hK.out _ _ ⟨(blk_cell XH.out 0).trans rfl, HS1_, hTL2_⟩ (fun hHeld => ?_); clear hK K
           refine norm_ (a' := ?_) ?_ ?_
           rotate_left
           ·show Act.put _ (some 9) _ = _
            simp only [Act.put, List.setIfInBounds_toArray, List.set_cons_zero, List.set_cons_succ, i64_w, i32_w]
            rfl
           refine one_ (i := 7) (N := some 93) (bA 12 1279) rfl rfl (one_of HT_.out (by kernel_rfl)) (by decide) (fun K hK => ?_)
           refine goes_ Try.func41 (by kernel_rfl) rfl #[.agg #[.slice (some XM) XD.length X8], .int .i64 (rd X3 Ye)] (by rfl) rfl rfl q_1 ?_
           with_reducible refine (impl_NodeAt.calls k4 _ _ XD (rd X3 Ye) XF _ ?side1 ?side2 A58.out).mono ?_
           (case side1 => exact z17_11)
           (case side2 => exact (Kd.N_reads' XG.out).2.1)
           rintro e w65 ⟨rfl, hb⟩; have HS1_ := (hb.cell (World.block_lt_of_cell? _ _ (hHeld.2.1))).trans (hHeld.2.1); have hTL2_ := lie_below hb (hHeld.2.2)
           refine ⟨_, rfl, ?_⟩
           replace X2 := bR X2 hb; replace XG := mk0 (Kd.N_below (pkN XG) hb); replace XH := bB XH hb; replace XJ := bB XJ hb; replace X5 := bB X5 hb; replace HB := bS z17_14 hb; (try clear hb); (try clear hb2); (try clear hk); (try clear hi); refine hK.out _ _ ⟨(blk_cell XH.out 0).trans rfl, HS1_, hTL2_⟩ (fun hHeld => ?_); clear hK K
           refine norm_ (a' := ?_) ?_ ?_
           rotate_left
           ·show Act.put _ (some 93) _ = _
            simp only [Act.put, List.setIfInBounds_toArray, List.set_cons_zero, List.set_cons_succ, i64_w, i32_w]
            rfl
           refine pzx (i := 8) (N := 94) (bA 12 1535) HT_ ?_
           refine take_ (i := 9) (N := some 95) (v := ?_) (a' := ?_) y17_26 rfl rfl (take_ofW HT_.out HW_.out (by kernel_rfl)) (fun _ _ _ h => h) (Or.inl ⟨by rfl, ?_⟩) hHeld ?_ ?_
           rotate_left
           ·rintro w' ⟨s0, s1, sL568⟩
            first | (refine load_yields (t := 69) (x := ?US) ?JB ?JC _ _ sL568 Try.underlying69 rfl (show (Try.prog.info? 69).map (·.size) = some 31 by kernel_rfl); (case JB => rfl); (case JC => rfl)) | (have c0_ := lie_at sL568 0 _ rfl; simp only [Nat.add_zero, Addr.add_zero'] at c0_; go_simp; with_reducible rfl) | (have c0_ : w'.cell? ⟨(XM.add ((XF).toNat * 31)).block, (XM.add ((XF).toNat * 31)).off + 2, none⟩ = some (.bool ((rd_T69 XD XF).f2)) := lie_at sL568 2 _ rfl; go_simp; with_reducible rfl) | (go_simp; with_reducible rfl)
           rotate_left
           ·exact x17_put
           exact norm_ q_202 (hCont (XX) _ ⟨hHeld, z17_25, (pkR X2), (pkb XH), (pkb XJ), (pkb X5), Zt.out, YQ.out, XU.out, X4.out, XT.out, XN.out, z17_14⟩)
          rintro XX w66 ⟨hS_, h0_, h1_, h2_, h3_, h4_, h5_, h6_, h7_, h8_, h9_, h10_, h11_⟩
          have n0_ : Aside0 (Kd.N k69 69 w66 w.heap.size (fun k_ => some k_ ≠ (.slice (some Yw) X3.length Uz : Value).ownBlock ∧ k_ ≠ XW ∧ k_ ≠ XK ∧ k_ ≠ XX) (.slice (some XM) XD.length X8) XD) := ⟨h0_⟩
          have n1_ : Aside0 (Kd.R (Kd.int .i64) 3 w66 w.heap.size (fun _ => True) (.slice (some Yw) X3.length Uz) X3) := ⟨h1_⟩
          have n2_ : Aside0 (w66.heap[XW]? = some (.cells #[.slice (some XM) XD.length X8] 53 (0, 0))) := ⟨h2_⟩
          have n3_ : Aside0 (w66.heap[XK]? = some (.cells #[.int .i64 ((rd_T69 XD XE).f0), .int .i64 ((rd_T69 XD XE).f1), .bool ((rd_T69 XD XE).f2), .int .i64 ((rd_T69 XD XE).f3.f0), .int .i64 ((rd_T69 XD XE).f3.f1), .int .i64 ((rd_T69 XD XE).f3.f2), .int .i64 ((rd_T69 XD XE).f3.f3), .int .i64 ((rd_T69 XD XE).f3.f4), .int .i64 ((rd_T69 XD XE).f3.f5), .slice Yj ((rd_T69 XD XE).f4.f0).length Ym, .slice X9 ((rd_T69 XD XE).f4.f1).length Yf, .bool ((rd_T69 XD XE).f5), .int .i64 ((rd_T69 XD XE).f6), .slice Ya ((rd_T69 XD XE).f7).length Yg, .int .i64 ((rd_T69 XD XE).f8.f0), .int .i64 ((rd_T69 XD XE).f8.f1.f0), .int .i64 ((rd_T69 XD XE).f8.f1.f1), .int .i64 ((rd_T69 XD XE).f8.f1.f2), .int .i64 ((rd_T69 XD XE).f8.f1.f3), .int .i64 ((rd_T69 XD XE).f8.f2.f0), .int .i64 ((rd_T69 XD XE).f8.f2.f1), .int .i64 ((rd_T69 XD XE).f8.f2.f2), .int .i64 ((rd_T69 XD XE).f8.f2.f3), .int .i64 ((rd_T69 XD XE).f8.f3.f0), .int .i64 ((rd_T69 XD XE).f8.f3.f1), .int .i64 ((rd_T69 XD XE).f8.f4.f0), .int .i64 ((rd_T69 XD XE).f8.f4.f1), .int .i64 ((rd_T69 XD XE).f9), .int .i64 ((rd_T69 XD XE).f10), .slice Yb ((rd_T69 XD XE).f11.f0).length Yh, .slice Yc ((rd_T69 XD XE).f11.f1).length Yi] 69 (0, 0))) := ⟨h3_⟩
          have n4_ : Aside0 (w66.heap[XX]? = some (.cells #[.int .i64 0, .int .i64 0, .bool false, .int .i64 0, .int .i64 0, .int .i64 0, .int .i64 0, .int .i64 0, .int .i64 0, .slice none 0 0, .slice none 0 0, .bool false, .int .i64 0, .slice none 0 0, .int .i64 0, .int .i64 0, .int .i64 0, .int .i64 0, .int .i64 0, .int .i64 0, .int .i64 0, .int .i64 0, .int .i64 0, .int .i64 0, .int .i64 0, .int .i64 0, .int .i64 0, .int .i64 0, .int .i64 0, .slice none 0 0, .slice none 0 0] 69 (0, 0))) := ⟨h4_⟩
          have n5_ : Aside0 (w.heap.size ≤ XX) := ⟨h5_⟩
          have n6_ : Aside0 (w.heap.size ≤ XX) := ⟨h6_⟩
          have n7_ : Aside0 (XW ≠ XX) := ⟨h7_⟩
          have n8_ : Aside0 (XX ≠ XW) := ⟨h8_⟩
          have n9_ : Aside0 (XK ≠ XX) := ⟨h9_⟩
          have n10_ : Aside0 (XX ≠ XK) := ⟨h10_⟩
          have n11_ : Aside0 (Below w.heap.size w w66) := ⟨h11_⟩
          clear X2 XG XH XJ HB h0_ h1_ h2_ h3_ h4_ h5_ h6_ h7_ h8_ h9_ h10_ h11_; have XG := n0_; have X2 := n1_; have XH := n2_; have XJ := n3_; have X5 := n4_; have Zt := n5_; have YQ := n6_; have XU := n7_; have X4 := n8_; have XT := n9_; have XN := n10_; have HB := n11_; clear n0_ n1_ n2_ n3_ n4_ n5_ n6_ n7_ n8_ n9_ n10_ n11_
          have hHeld : w66.cell? ⟨XW, 0, none⟩ = some (.slice (some XM) XD.length X8) ∧ w66.cell? (Yw.add (Ye).toNat) = some (.int .i64 (rd X3 Ye)) ∧ Lie w66 (XM.add ((XF).toNat * 31)) 0 [.int .i64 ((rd_T69 XD XF).f0), .int .i64 ((rd_T69 XD XF).f1), .bool ((rd_T69 XD XF).f2), .int .i64 ((rd_T69 XD XF).f3.f0), .int .i64 ((rd_T69 XD XF).f3.f1), .int .i64 ((rd_T69 XD XF).f3.f2), .int .i64 ((rd_T69 XD XF).f3.f3), .int .i64 ((rd_T69 XD XF).f3.f4), .int .i64 ((rd_T69 XD XF).f3.f5), .slice YJ ((rd_T69 XD XF).f4.f0).length YK, .slice Yn ((rd_T69 XD XF).f4.f1).length Yo, .bool ((rd_T69 XD XF).f5), .int .i64 ((rd_T69 XD XF).f6), .slice Yp ((rd_T69 XD XF).f7).length Yq, .int .i64 ((rd_T69 XD XF).f8.f0), .int .i64 ((rd_T69 XD XF).f8.f1.f0), .int .i64 ((rd_T69 XD XF).f8.f1.f1), .int .i64 ((rd_T69 XD XF).f8.f1.f2), .int .i64 ((rd_T69 XD XF).f8.f1.f3), .int .i64 ((rd_T69 XD XF).f8.f2.f0), .int .i64 ((rd_T69 XD XF).f8.f2.f1), .int .i64 ((rd_T69 XD XF).f8.f2.f2), .int .i64 ((rd_T69 XD XF).f8.f2.f3), .int .i64 ((rd_T69 XD XF).f8.f3.f0), .int .i64 ((rd_T69 XD XF).f8.f3.f1), .int .i64 ((rd_T69 XD XF).f8.f4.f0), .int .i64 ((rd_T69 XD XF).f8.f4.f1), .int .i64 ((rd_T69 XD XF).f9), .int .i64 ((rd_T69 XD XF).f10), .slice Yr ((rd_T69 XD XF).f11.f0).length Ys, .slice Yt ((rd_T69 XD XF).f11.f1).length Yu] := hS_
          refine norm_ (a' := ?_) ?_ ?_
          rotate_left
          ·simp only [putAll, Act.put, List.setIfInBounds_toArray, List.set_cons_zero, List.set_cons_succ]
           rfl
          refine one_ (i := 11) (N := none) (bA 12 4095) rfl rfl (one_of HT_.out (by kernel_rfl)) (by decide) (fun K hK => ?_)
          refine skip_ (w1 := ?_) ?hwx ?hN ?_ ?_; (case hwx => rfl); (case hN => rfl)
          rotate_left
          ·refine store_yields (t := 69) (x := ?xq2314) (y := ?yq2314) (cells := ?cq2314) ?hoq2314 ?hxq2314 ?hyq2314 X5.out ?hsq2314 ?hiq2314 ?h1q2314; (case hoq2314 => rfl); (case hxq2314 => rfl); (case hyq2314 => rfl); (case hsq2314 => rfl); (case hiq2314 => kernel_rfl); (case h1q2314 => rfl)
          generalize hx588_ : World.setCells _ XX _ _ = UT; have X6 := mk0 hx588_.symm; clear hx588_; have hbW_ := blk_setE X6.out X5.out rfl; refine bc_31 hbW_ ?_; intros; clear hbW_; (try (have hoW_ := blk_farE X6.out z17_22 XU.out; first | (refine bc_1 hoW_ ?_; intros) | (refine bc_31 hoW_ ?_; intros); clear hoW_)); (try (have hoW_ := blk_farE X6.out z17_45 XT.out; first | (refine bc_1 hoW_ ?_; intros) | (refine bc_31 hoW_ ?_; intros); clear hoW_))
          refine hK.out _ _ ⟨((cell_farE X6.out XU.out).trans (hHeld.1)), z17_26, lie_farE X6.out (hHeld.2.2) z17_27⟩ (fun hHeld => ?_); clear hK K
          refine done_ (done_of HT_.out (by kernel_rfl)) ?_
          have DF := X4.out; have DG := XU.out; have DH := XN.out; have DI := XT.out; refine bc_31 X5.out ?_; intros; have Dn := Yk.out; have Do := XS.out; refine bc_31 XJ.out ?_; intros
          try go_wp2_with (first | ((with_reducible refine gate_load (t := 69) rfl ?_); refine load_lie (t := 69) rfl rfl Yd HB (by with_reducible rfl) rfl Try.underlying69 rfl (show (Try.prog.info? 69).map (·.size) = some 31 by kernel_rfl) rfl ?_) | ((with_reducible refine gate_load (t := 69) rfl ?_); refine load_lie0 (t := 69) rfl rfl Yd (by with_reducible rfl) rfl Try.underlying69 rfl (show (Try.prog.info? 69).map (·.size) = some 31 by kernel_rfl) rfl ?_) | ((with_reducible refine gate_load (t := 69) rfl ?_); refine load_lie (t := 69) rfl rfl ZI HB (by with_reducible rfl) rfl Try.underlying69 rfl (show (Try.prog.info? 69).map (·.size) = some 31 by kernel_rfl) rfl ?_) | ((with_reducible refine gate_load (t := 69) rfl ?_); refine load_lie0 (t := 69) rfl rfl ZI (by with_reducible rfl) rfl Try.underlying69 rfl (show (Try.prog.info? 69).map (·.size) = some 31 by kernel_rfl) rfl ?_) | ((with_reducible refine gate_load (t := 69) rfl ?_); refine load_at (t := 69) XK rfl rfl ?_; refine load_blkQ (t := 69) rfl rfl XJ rfl z17_12 Try.underlying69 rfl (show (Try.prog.info? 69).map (·.size) = some 31 by kernel_rfl) (by rfl) ?_) | ((with_reducible refine gate_store (t := 69) rfl ?_); refine wstore_blkW (t := 69) rfl rfl XJ rfl rfl z17_13 rfl (show (Try.prog.info? 69).map (·.size) = some 31 by kernel_rfl) rfl ?_; intro Yv hx569_ hbW_; have XL := mk0 hx569_; clear hx569_; refine bc_31 hbW_ ?_; intros; clear hbW_; (try (have hoW_ := blk_farE XL.out z17_22 XS.out; first | (refine bc_1 hoW_ ?_; intros) | (refine bc_31 hoW_ ?_; intros); clear hoW_)); (try (have hoW_ := blk_farE XL.out z17_23 XN.out; first | (refine bc_1 hoW_ ?_; intros) | (refine bc_31 hoW_ ?_; intros); clear hoW_))))
          go_roundg k4
          case measure => have := HK1.out; have := J7.out; have := Us.out; have := HK4.out; omega
          case rel => exact ⟨(wrap64 (Ye + 1)), rs0, H', ⟨z17_43⟩, ⟨z17_42⟩, ⟨z17_32⟩, ⟨z17_33⟩, ⟨z17_34⟩, ⟨z17_14⟩⟩
         rw [if_neg c61] at H
         have c61b0 : (((rd_T69 XD XF).f0) == ((rd_T69 XD XE).f0)) = false := beq_eq_false_iff_ne.mpr c61
         have c61b1 : (((rd_T69 XD XF).f0) != ((rd_T69 XD XE).f0)) = true := bne_iff_ne.mpr c61
         obtain ⟨UG, A103, H⟩ := bnd H
         try dsimp only at H
         by_cases c104 : UG = true
         rotate_left
         ·replace c104 := Bool.eq_false_iff.mpr c104; subst c104; rw [if_neg (show ¬ (false = true) by decide)] at H
          obtain rfl := Option.some.inj H
          exact absurd hT Bool.false_ne_true
         subst c104; rw [if_pos rfl] at H
         have H' := mk0 H
         clear H; obtain ⟨DJ, JD, Dc⟩ := Kd.R_slice X2.out; subst Dc
         try go_wp2_with (first | ((with_reducible refine gate_load (t := 69) rfl ?_); refine load_lie (t := 69) rfl rfl Yd HB (by with_reducible rfl) rfl Try.underlying69 rfl (show (Try.prog.info? 69).map (·.size) = some 31 by kernel_rfl) rfl ?_) | ((with_reducible refine gate_load (t := 69) rfl ?_); refine load_lie0 (t := 69) rfl rfl Yd (by with_reducible rfl) rfl Try.underlying69 rfl (show (Try.prog.info? 69).map (·.size) = some 31 by kernel_rfl) rfl ?_) | ((with_reducible refine gate_load (t := 69) rfl ?_); refine load_at (t := 69) XK rfl rfl ?_; refine load_blkQ (t := 69) rfl rfl XJ rfl z17_12 Try.underlying69 rfl (show (Try.prog.info? 69).map (·.size) = some 31 by kernel_rfl) (by rfl) ?_) | ((with_reducible refine gate_store (t := 69) rfl ?_); refine wstore_blkW (t := 69) rfl rfl XJ rfl rfl z17_13 rfl (show (Try.prog.info? 69).map (·.size) = some 31 by kernel_rfl) rfl ?_; intro Yv hx569_ hbW_; have XL := mk0 hx569_; clear hx569_; refine bc_31 hbW_ ?_; intros; clear hbW_; (try (have hoW_ := blk_farE XL.out z17_22 XS.out; first | (refine bc_1 hoW_ ?_; intros) | (refine bc_31 hoW_ ?_; intros); clear hoW_)); (try (have hoW_ := blk_farE XL.out z17_23 XN.out; first | (refine bc_1 hoW_ ?_; intros) | (refine bc_31 hoW_ ?_; intros); clear hoW_))))
         replace X2 := mk0 (Kd.R_drew X2.out); replace XG := mk0 (Kd.N_drew XG.out); replace XH := mk0 (blk_drew XH.out); replace XJ := mk0 (blk_drew XJ.out); replace HB := mk0 (below_drew1 HB.out)
         have JO : 0 ≤ (Ye : Int) := of_decide_eq_true (by first | (with_reducible assumption) | assumption)
         have JP : Ye < (X3.length : Int) := of_decide_eq_true (by first | (with_reducible assumption) | assumption)
         obtain ⟨Yw, e585, Zh⟩ := Kd.at_int (Kd.R_reads' X2.out).2.2 Ye JO JP
         cases e585
         replace JO := eq_true JO; replace JP := eq_true JP
         have ZX : 0 ≤ (XF : Int) := of_decide_eq_true (by first | (with_reducible assumption) | assumption)
         have Z0 : XF < (XD.length : Int) := of_decide_eq_true (by first | (with_reducible assumption) | assumption)
         obtain ⟨Uf, YJ, YK, Yn, Yo, Yp, Yq, Yr, Ys, Yt, Yu, e587, Zi, Zj, Zk, Zl, Zm, Zn, Zo, Zp, Zq, YL, Yx, YR, YS, Yy, YT, YU, YV, YW, YX, YY, YZ, Y0, Y1, Y2, Y3, Y4, Y5, Y6, Y7, Yz, YA, Zr, Zs, Y8, Y9, Za, Zb, Zc, Zd, Ze, Zf⟩ := at_T69 (Kd.N_reads' XG.out).2.2 XF ZX Z0; have ZI := lie_zero Zi (lie_n Zj (lie_n Zk (lie_n Zl (lie_n Zm (lie_n Zn (lie_n Zo (lie_n Zp (lie_n Zq (lie_n YL (lie_n Yx (lie_n YR (lie_n YS (lie_n Yy (lie_n YT (lie_n YU (lie_n YV (lie_n YW (lie_n YX (lie_n YY (lie_n YZ (lie_n Y0 (lie_n Y1 (lie_n Y2 (lie_n Y3 (lie_n Y4 (lie_n Y5 (lie_n Y6 (lie_n Y7 (lie_n Yz (lie_n YA (lie_nil _ _ _)))))))))))))))))))))))))))))))
         obtain rfl : XM = Uf := (by injection e587)
         obtain ⟨ce587, JQ, JR, Yl⟩ := Kd.N_get XG.out z69 XF ZX z17_44; obtain ⟨UA, UB, Ug, Uh, Ui, Uj, Uk, Ul, Um, Un, rfl, YM, YN, YB, YC, YD, YE, YF, YG, YH, YI⟩ := k69_openF JR; have hv587_9 := Yl 9 _ rfl; rw [add_field _ _ 9 (by omega)] at hv587_9; replace hv587_9 := Option.some.inj (hv587_9.symm.trans YL)
         injection hv587_9 with hva_ hvn_ hvc_
         rw [hva_] at YN; rw [hvc_] at YM; have ZY := mk0 (show Kd.V (Kd.int .i64) 3 _ w.heap.size _ _ ((rd_T69 XD XF).f4.f0) from Kd.V_mk YM YN); clear hva_ hvn_ hvc_ YN YM; have hv587_10 := Yl 10 _ rfl; rw [add_field _ _ 10 (by omega)] at hv587_10; replace hv587_10 := Option.some.inj (hv587_10.symm.trans Yx)
         injection hv587_10 with hva_ hvn_ hvc_
         rw [hva_] at YC; rw [hvc_] at YB; have ZJ := mk0 (show Kd.V k29 29 _ w.heap.size _ _ ((rd_T69 XD XF).f4.f1) from Kd.V_mk YB YC); clear hva_ hvn_ hvc_ YC YB; have hv587_13 := Yl 13 _ rfl; rw [add_field _ _ 13 (by omega)] at hv587_13; replace hv587_13 := Option.some.inj (hv587_13.symm.trans Yy)
         injection hv587_13 with hva_ hvn_ hvc_
         rw [hva_] at YE; rw [hvc_] at YD; have ZK := mk0 (show Kd.V (Kd.int .i64) 3 _ w.heap.size _ _ ((rd_T69 XD XF).f7) from Kd.V_mk YD YE); clear hva_ hvn_ hvc_ YE YD; have hv587_29 := Yl 29 _ rfl; rw [add_field _ _ 29 (by omega)] at hv587_29; replace hv587_29 := Option.some.inj (hv587_29.symm.trans Yz)
         injection hv587_29 with hva_ hvn_ hvc_
         rw [hva_] at YG; rw [hvc_] at YF; have ZL := mk0 (show Kd.V (Kd.int .i64) 3 _ w.heap.size _ _ ((rd_T69 XD XF).f11.f0) from Kd.V_mk YF YG); clear hva_ hvn_ hvc_ YG YF; have hv587_30 := Yl 30 _ rfl; rw [add_field _ _ 30 (by omega)] at hv587_30; replace hv587_30 := Option.some.inj (hv587_30.symm.trans YA)
         injection hv587_30 with hva_ hvn_ hvc_
         rw [hva_] at YI; rw [hvc_] at YH; have ZM := mk0 (show Kd.V k29 29 _ w.heap.size _ _ ((rd_T69 XD XF).f11.f1) from Kd.V_mk YH YI); clear hva_ hvn_ hvc_ YI YH Yl JQ; have ZZ := mk0 Zs; have UC := mk0 Zr; clear Zs Zr; have ZN := mk0 Y9; have Uo := mk0 Y8; clear Y9 Y8; have ZO := mk0 Zb; have Up := mk0 Za; clear Zb Za; have ZP := mk0 Zd; have Uq := mk0 Zc; clear Zd Zc; have ZQ := mk0 Zf; have Ur := mk0 Ze; clear Zf Ze; replace ZX := eq_true ZX; replace Z0 := eq_true Z0
         refine start_ (n := 12) (S := fun w' => w'.cell? ⟨XW, 0, none⟩ = some (.slice (some XM) XD.length X8) ∧ w'.cell? (Yw.add (Ye).toNat) = some (.int .i64 (rd X3 Ye)) ∧ Lie w' (XM.add ((XF).toNat * 31)) 0 [.int .i64 ((rd_T69 XD XF).f0), .int .i64 ((rd_T69 XD XF).f1), .bool ((rd_T69 XD XF).f2), .int .i64 ((rd_T69 XD XF).f3.f0), .int .i64 ((rd_T69 XD XF).f3.f1), .int .i64 ((rd_T69 XD XF).f3.f2), .int .i64 ((rd_T69 XD XF).f3.f3), .int .i64 ((rd_T69 XD XF).f3.f4), .int .i64 ((rd_T69 XD XF).f3.f5), .slice YJ ((rd_T69 XD XF).f4.f0).length YK, .slice Yn ((rd_T69 XD XF).f4.f1).length Yo, .bool ((rd_T69 XD XF).f5), .int .i64 ((rd_T69 XD XF).f6), .slice Yp ((rd_T69 XD XF).f7).length Yq, .int .i64 ((rd_T69 XD XF).f8.f0), .int .i64 ((rd_T69 XD XF).f8.f1.f0), .int .i64 ((rd_T69 XD XF).f8.f1.f1), .int .i64 ((rd_T69 XD XF).f8.f1.f2), .int .i64 ((rd_T69 XD XF).f8.f1.f3), .int .i64 ((rd_T69 XD XF).f8.f2.f0), .int .i64 ((rd_T69 XD XF).f8.f2.f1), .int .i64 ((rd_T69 XD XF).f8.f2.f2), .int .i64 ((rd_T69 XD XF).f8.f2.f3), .int .i64 ((rd_T69 XD XF).f8.f3.f0), .int .i64 ((rd_T69 XD XF).f8.f3.f1), .int .i64 ((rd_T69 XD XF).f8.f4.f0), .int .i64 ((rd_T69 XD XF).f8.f4.f1), .int .i64 ((rd_T69 XD XF).f9), .int .i64 ((rd_T69 XD XF).f10), .slice Yr ((rd_T69 XD XF).f11.f0).length Ys, .slice Yt ((rd_T69 XD XF).f11.f1).length Yu]) (ds := []) y17_1 (by kernel_rfl) rfl rfl ⟨(blk_cell XH.out 0).trans rfl, Zh, ZI⟩ (fun hHeld => ?_); refine with_tabW laws_FnTrees.tab20 laws_FnTrees.bits20 (fun HT_ HW_ => ?_)
         generalize wr.drew = w106 at X2 XG XH XJ HB ZJ ZK ZL ZM ZY ZN ZO ZP ZQ ZZ Zh Zi Zj Yx YR YS Yy YT YU YV YW YX YY Zk YZ Y0 Y1 Y2 Y3 Y4 Y5 Y6 Y7 Yz Zl YA Zm Zn Zo Zp Zq YL hHeld ⊢
         refine pzx (i := 0) (N := 86) y17_3 HT_ ?_; refine pzx (i := 3) (N := 89) y17_4 HT_ ?_; refine pzx (i := 4) (N := 90) y17_5 HT_ ?_; refine pzx (i := 5) (N := 91) y17_6 HT_ ?_
         refine take_ (i := 1) (N := some 87) (v := ?_) (a' := ?_) y17_8 rfl rfl (take_ofW HT_.out HW_.out (by kernel_rfl)) (fun _ _ _ h => h) (Or.inl ⟨by rfl, ?_⟩) hHeld ?_ ?_
         rotate_left
         ·rintro w' ⟨s0, s1, sL568⟩
          first | (refine load_yields (t := 69) (x := ?UU) ?JE ?JF _ _ sL568 Try.underlying69 rfl (show (Try.prog.info? 69).map (·.size) = some 31 by kernel_rfl); (case JE => rfl); (case JF => rfl)) | (have c0_ := lie_at sL568 0 _ rfl; simp only [Nat.add_zero, Addr.add_zero'] at c0_; go_simp; with_reducible rfl) | (have c0_ : w'.cell? ⟨(XM.add ((XF).toNat * 31)).block, (XM.add ((XF).toNat * 31)).off + 2, none⟩ = some (.bool ((rd_T69 XD XF).f2)) := lie_at sL568 2 _ rfl; go_simp; with_reducible rfl) | (go_simp; with_reducible rfl)
         rotate_left
         ·exact x17_put
         refine take_ (i := 2) (N := some 88) (v := ?_) (a' := ?_) y17_13 rfl rfl (take_ofW HT_.out HW_.out (by kernel_rfl)) (fun _ _ _ h => h) (Or.inl ⟨by rfl, ?_⟩) hHeld ?_ ?_
         rotate_left
         ·rintro w' ⟨s0, s1, sL568⟩
          first | (refine load_yields (t := 69) (x := ?UV) ?JG ?JH _ _ sL568 Try.underlying69 rfl (show (Try.prog.info? 69).map (·.size) = some 31 by kernel_rfl); (case JG => rfl); (case JH => rfl)) | (have c0_ := lie_at sL568 0 _ rfl; simp only [Nat.add_zero, Addr.add_zero'] at c0_; go_simp; with_reducible rfl) | (have c0_ : w'.cell? ⟨(XM.add ((XF).toNat * 31)).block, (XM.add ((XF).toNat * 31)).off + 2, none⟩ = some (.bool ((rd_T69 XD XF).f2)) := lie_at sL568 2 _ rfl; go_simp; with_reducible rfl) | (go_simp; with_reducible rfl)
         rotate_left
         ·exact x17_put
         refine take_ (i := 6) (N := some 92) (v := ?_) (a' := ?_) y17_15 rfl rfl (take_ofW HT_.out HW_.out (by kernel_rfl)) (fun _ _ _ h => h) (Or.inl ⟨by rfl, ?_⟩) hHeld ?_ ?_
         rotate_left
         ·rintro w' ⟨s0, s1, sL568⟩
          first | (refine load_yields (t := 69) (x := ?UW) ?JI ?JJ _ _ sL568 Try.underlying69 rfl (show (Try.prog.info? 69).map (·.size) = some 31 by kernel_rfl); (case JI => rfl); (case JJ => rfl)) | (have c0_ := lie_at sL568 0 _ rfl; simp only [Nat.add_zero, Addr.add_zero'] at c0_; go_simp; with_reducible rfl) | (have c0_ : w'.cell? ⟨(XM.add ((XF).toNat * 31)).block, (XM.add ((XF).toNat * 31)).off + 2, none⟩ = some (.bool ((rd_T69 XD XF).f2)) := lie_at sL568 2 _ rfl; go_simp; with_reducible rfl) | (go_simp; with_reducible rfl)
         rotate_left
         ·exact x17_put
         refine join_ (σ := Nat) 1 y17_26 (fun s_ => [(93, .int .i64 XF), (9, .pointer (some ⟨s_, 0, none⟩)), (94, .pointer (some (XM.add ((XF).toNat * 31)))), (95, .agg #[.int .i64 ((rd_T69 XD XF).f0), .int .i64 ((rd_T69 XD XF).f1), .bool ((rd_T69 XD XF).f2), .int .i64 ((rd_T69 XD XF).f3.f0), .int .i64 ((rd_T69 XD XF).f3.f1), .int .i64 ((rd_T69 XD XF).f3.f2), .int .i64 ((rd_T69 XD XF).f3.f3), .int .i64 ((rd_T69 XD XF).f3.f4), .int .i64 ((rd_T69 XD XF).f3.f5), .slice YJ ((rd_T69 XD XF).f4.f0).length YK, .slice Yn ((rd_T69 XD XF).f4.f1).length Yo, .bool ((rd_T69 XD XF).f5), .int .i64 ((rd_T69 XD XF).f6), .slice Yp ((rd_T69 XD XF).f7).length Yq, .int .i64 ((rd_T69 XD XF).f8.f0), .int .i64 ((rd_T69 XD XF).f8.f1.f0), .int .i64 ((rd_T69 XD XF).f8.f1.f1), .int .i64 ((rd_T69 XD XF).f8.f1.f2), .int .i64 ((rd_T69 XD XF).f8.f1.f3), .int .i64 ((rd_T69 XD XF).f8.f2.f0), .int .i64 ((rd_T69 XD XF).f8.f2.f1), .int .i64 ((rd_T69 XD XF).f8.f2.f2), .int .i64 ((rd_T69 XD XF).f8.f2.f3), .int .i64 ((rd_T69 XD XF).f8.f3.f0), .int .i64 ((rd_T69 XD XF).f8.f3.f1), .int .i64 ((rd_T69 XD XF).f8.f4.f0), .int .i64 ((rd_T69 XD XF).f8.f4.f1), .int .i64 ((rd_T69 XD XF).f9), .int .i64 ((rd_T69 XD XF).f10), .slice Yr ((rd_T69 XD XF).f11.f0).length Ys, .slice Yt ((rd_T69 XD XF).f11.f1).length Yu])]) (fun s_ w' => (w'.cell? ⟨XW, 0, none⟩ = some (.slice (some XM) XD.length X8) ∧ w'.cell? (Yw.add (Ye).toNat) = some (.int .i64 (rd X3 Ye)) ∧ Lie w' (XM.add ((XF).toNat * 31)) 0 [.int .i64 ((rd_T69 XD XF).f0), .int .i64 ((rd_T69 XD XF).f1), .bool ((rd_T69 XD XF).f2), .int .i64 ((rd_T69 XD XF).f3.f0), .int .i64 ((rd_T69 XD XF).f3.f1), .int .i64 ((rd_T69 XD XF).f3.f2), .int .i64 ((rd_T69 XD XF).f3.f3), .int .i64 ((rd_T69 XD XF).f3.f4), .int .i64 ((rd_T69 XD XF).f3.f5), .slice YJ ((rd_T69 XD XF).f4.f0).length YK, .slice Yn ((rd_T69 XD XF).f4.f1).length Yo, .bool ((rd_T69 XD XF).f5), .int .i64 ((rd_T69 XD XF).f6), .slice Yp ((rd_T69 XD XF).f7).length Yq, .int .i64 ((rd_T69 XD XF).f8.f0), .int .i64 ((rd_T69 XD XF).f8.f1.f0), .int .i64 ((rd_T69 XD XF).f8.f1.f1), .int .i64 ((rd_T69 XD XF).f8.f1.f2), .int .i64 ((rd_T69 XD XF).f8.f1.f3), .int .i64 ((rd_T69 XD XF).f8.f2.f0), .int .i64 ((rd_T69 XD XF).f8.f2.f1), .int .i64 ((rd_T69 XD XF).f8.f2.f2), .int .i64 ((rd_T69 XD XF).f8.f2.f3), .int .i64 ((rd_T69 XD XF).f8.f3.f0), .int .i64 ((rd_T69 XD XF).f8.f3.f1), .int .i64 ((rd_T69 XD XF).f8.f4.f0), .int .i64 ((rd_T69 XD XF).f8.f4.f1), .int .i64 ((rd_T69 XD XF).f9), .int .i64 ((rd_T69 XD XF).f10), .slice Yr ((rd_T69 XD XF).f11.f0).length Ys, .slice Yt ((rd_T69 XD XF).f11.f1).length Yu]) ∧ (Kd.N k69 69 w' w.heap.size (fun k_ => some k_ ≠ (.slice (some Yw) X3.length JD : Value).ownBlock ∧ k_ ≠ XW ∧ k_ ≠ XK ∧ k_ ≠ s_) (.slice (some XM) XD.length X8) XD) ∧ (Kd.R (Kd.int .i64) 3 w' w.heap.size (fun _ => True) (.slice (some Yw) X3.length JD) X3) ∧ (w'.heap[XW]? = some (.cells #[.slice (some XM) XD.length X8] 53 (0, 0))) ∧ (w'.heap[XK]? = some (.cells #[.int .i64 ((rd_T69 XD XE).f0), .int .i64 ((rd_T69 XD XE).f1), .bool ((rd_T69 XD XE).f2), .int .i64 ((rd_T69 XD XE).f3.f0), .int .i64 ((rd_T69 XD XE).f3.f1), .int .i64 ((rd_T69 XD XE).f3.f2), .int .i64 ((rd_T69 XD XE).f3.f3), .int .i64 ((rd_T69 XD XE).f3.f4), .int .i64 ((rd_T69 XD XE).f3.f5), .slice Yj ((rd_T69 XD XE).f4.f0).length Ym, .slice X9 ((rd_T69 XD XE).f4.f1).length Yf, .bool ((rd_T69 XD XE).f5), .int .i64 ((rd_T69 XD XE).f6), .slice Ya ((rd_T69 XD XE).f7).length Yg, .int .i64 ((rd_T69 XD XE).f8.f0), .int .i64 ((rd_T69 XD XE).f8.f1.f0), .int .i64 ((rd_T69 XD XE).f8.f1.f1), .int .i64 ((rd_T69 XD XE).f8.f1.f2), .int .i64 ((rd_T69 XD XE).f8.f1.f3), .int .i64 ((rd_T69 XD XE).f8.f2.f0), .int .i64 ((rd_T69 XD XE).f8.f2.f1), .int .i64 ((rd_T69 XD XE).f8.f2.f2), .int .i64 ((rd_T69 XD XE).f8.f2.f3), .int .i64 ((rd_T69 XD XE).f8.f3.f0), .int .i64 ((rd_T69 XD XE).f8.f3.f1), .int .i64 ((rd_T69 XD XE).f8.f4.f0), .int .i64 ((rd_T69 XD XE).f8.f4.f1), .int .i64 ((rd_T69 XD XE).f9), .int .i64 ((rd_T69 XD XE).f10), .slice Yb ((rd_T69 XD XE).f11.f0).length Yh, .slice Yc ((rd_T69 XD XE).f11.f1).length Yi] 69 (0, 0))) ∧ (w'.heap[s_]? = some (.cells #[.int .i64 0, .int .i64 0, .bool false, .int .i64 0, .int .i64 0, .int .i64 0, .int .i64 0, .int .i64 0, .int .i64 0, .slice none 0 0, .slice none 0 0, .bool false, .int .i64 0, .slice none 0 0, .int .i64 0, .int .i64 0, .int .i64 0, .int .i64 0, .int .i64 0, .int .i64 0, .int .i64 0, .int .i64 0, .int .i64 0, .int .i64 0, .int .i64 0, .int .i64 0, .int .i64 0, .int .i64 0, .int .i64 0, .slice none 0 0, .slice none 0 0] 69 (0, 0))) ∧ (w.heap.size ≤ s_) ∧ (w.heap.size ≤ s_) ∧ (XW ≠ s_) ∧ (s_ ≠ XW) ∧ (XK ≠ s_) ∧ (s_ ≠ XK) ∧ (Below w.heap.size w w')) ?_ ?_
         rotate_left
         ·intro hCont
          refine two_ (i := 7) (j := 10) (Ni := some 93) (Nj := some 9) (bA 12 255) (bA 12 1151) rfl rfl rfl rfl (two_of HT_.out (by kernel_rfl)) (by decide) (by decide) (fun K hK => ?_) (fun K hK => ?_)
          ·skip
           refine goes_ Try.func41 (by kernel_rfl) rfl #[.agg #[.slice (some XM) XD.length X8], .int .i64 (rd X3 Ye)] (by rfl) rfl rfl q_1 ?_
           with_reducible refine (impl_NodeAt.calls k4 _ _ XD (rd X3 Ye) XF _ ?side1 ?side2 A58.out).mono ?_
           (case side1 => exact z17_11)
           (case side2 => exact (Kd.N_reads' XG.out).2.1)
           rintro e w107 ⟨rfl, hb⟩; have HS1_ := (hb.cell (World.block_lt_of_cell? _ _ (hHeld.2.1))).trans (hHeld.2.1); have hTL2_ := lie_below hb (hHeld.2.2)
           refine ⟨_, rfl, ?_⟩
           replace X2 := bR X2 hb; replace XG := mk0 (Kd.N_below (pkN XG) hb); replace XH := bB XH hb; replace XJ := bB XJ hb; replace HB := bS z17_10 hb; (try clear hb); (try clear hb2); (try clear hk); (try clear hi); refine hK.out _ _ ⟨(blk_cell XH.out 0).trans rfl, HS1_, hTL2_⟩ (fun hHeld => ?_); clear hK K
           refine norm_ (a' := ?_) ?_ ?_
           rotate_left
           ·show Act.put _ (some 93) _ = _
            simp only [Act.put, List.setIfInBounds_toArray, List.set_cons_zero, List.set_cons_succ, i64_w, i32_w]
            rfl
           refine pzx (i := 8) (N := 94) (bA 12 511) HT_ ?_
           refine take_ (i := 9) (N := some 95) (v := ?_) (a' := ?_) (bA 12 1023) rfl rfl (take_ofW HT_.out HW_.out (by kernel_rfl)) (fun _ _ _ h => h) (Or.inl ⟨by rfl, ?_⟩) hHeld ?_ ?_
           rotate_left
           ·rintro w' ⟨s0, s1, sL568⟩
            first | (refine load_yields (t := 69) (x := ?UX) ?JK ?JL _ _ sL568 Try.underlying69 rfl (show (Try.prog.info? 69).map (·.size) = some 31 by kernel_rfl); (case JK => rfl); (case JL => rfl)) | (have c0_ := lie_at sL568 0 _ rfl; simp only [Nat.add_zero, Addr.add_zero'] at c0_; go_simp; with_reducible rfl) | (have c0_ : w'.cell? ⟨(XM.add ((XF).toNat * 31)).block, (XM.add ((XF).toNat * 31)).off + 2, none⟩ = some (.bool ((rd_T69 XD XF).f2)) := lie_at sL568 2 _ rfl; go_simp; with_reducible rfl) | (go_simp; with_reducible rfl)
           rotate_left
           ·exact x17_put
           refine one_ (i := 10) (N := some 9) y17_26 rfl rfl (one_of HT_.out (by kernel_rfl)) (by decide) (fun K hK => ?_)
           refine box_step ?hg (N := 9) ?hd (cs := #[.int .i64 0, .int .i64 0, .bool false, .int .i64 0, .int .i64 0, .int .i64 0, .int .i64 0, .int .i64 0, .int .i64 0, .slice none 0 0, .slice none 0 0, .bool false, .int .i64 0, .slice none 0 0, .int .i64 0, .int .i64 0, .int .i64 0, .int .i64 0, .int .i64 0, .int .i64 0, .int .i64 0, .int .i64 0, .int .i64 0, .int .i64 0, .int .i64 0, .int .i64 0, .int .i64 0, .int .i64 0, .int .i64 0, .slice none 0 0, .slice none 0 0]) (t := 69) ?hr ?_; (case hd => rfl); (case hg => rfl); (case hr => first | (go_simp; done) | (go_simp; rfl))
           intro XX hg w108 hbox hb; have HS1_ := (hb.cell (World.block_lt_of_cell? _ _ (hHeld.2.1))).trans (hHeld.2.1); have hTL2_ := lie_below hb (hHeld.2.2); replace X2 := bR X2 hb; replace XG := mk0 (Kd.N_below (Kd.N_elderB (pkN XG) XX (Nat.le_of_eq hg.symm)) hb); have X5 := mk0 (hbox); have Zt := mk0 (ge_go (a := w.heap.size) hg (below_size z17_10)); have YQ := mk0 (ge_go (a := w.heap.size) hg (below_size z17_10)); replace HB := bS z17_10 hb; have XU := mk0 (nb_lt hg (blk_ltB XH (pkb XH))); have X4 := mk0 (nb_gt hg (blk_ltB XH (pkb XH))); replace XH := bB XH hb; have XT := mk0 (nb_lt hg (blk_ltB XJ (pkb XJ))); have XN := mk0 (nb_gt hg (blk_ltB XJ (pkb XJ))); replace XJ := bB XJ hb; clear hb hbox hg; refine hK.out _ _ ⟨(blk_cell XH.out 0).trans rfl, HS1_, hTL2_⟩ (fun hHeld => ?_); clear hK K
           refine norm_ (a' := ?_) ?_ ?_
           rotate_left
           ·show Act.put _ (some 9) _ = _
            simp only [Act.put, List.setIfInBounds_toArray, List.set_cons_zero, List.set_cons_succ, i64_w, i32_w]
            rfl
           exact norm_ q_202 (hCont (XX) _ ⟨hHeld, z17_25, (pkR X2), (pkb XH), (pkb XJ), (pkb X5), Zt.out, YQ.out, XU.out, X4.out, XT.out, XN.out, z17_14⟩)
          skip
          refine box_step ?hg (N := 9) ?hd (cs := #[.int .i64 0, .int .i64 0, .bool false, .int .i64 0, .int .i64 0, .int .i64 0, .int .i64 0, .int .i64 0, .int .i64 0, .slice none 0 0, .slice none 0 0, .bool false, .int .i64 0, .slice none 0 0, .int .i64 0, .int .i64 0, .int .i64 0, .int .i64 0, .int .i64 0, .int .i64 0, .int .i64 0, .int .i64 0, .int .i64 0, .int .i64 0, .int .i64 0, .int .i64 0, .int .i64 0, .int .i64 0, .int .i64 0, .slice none 0 0, .slice none 0 0]) (t := 69) ?hr ?_; (case hd => rfl); (case hg => rfl); (case hr => first | (go_simp; done) | (go_simp; rfl))
          intro XX hg w107 hbox hb; have HS1_ := (hb.cell (World.block_lt_of_cell? _ _ (hHeld.2.1))).trans (hHeld.2.1); have hTL2_ := lie_below hb (hHeld.2.2); replace X2 := bR X2 hb; replace XG := mk0 (Kd.N_below (Kd.N_elderB (pkN XG) XX (Nat.le_of_eq hg.symm)) hb); have X5 := mk0 (hbox); have Zt := mk0 (ge_go (a := w.heap.size) hg (below_size z17_10)); have YQ := mk0 (ge_go (a := w.heap.size) hg (below_size z17_10)); replace HB := bS z17_10 hb; have XU := mk0 (nb_lt hg (blk_ltB XH (pkb XH))); have X4 := mk0 (nb_gt hg (blk_ltB XH (pkb XH))); replace XH := bB XH hb; have XT := mk0 (nb_lt hg (blk_ltB XJ (pkb XJ))); have XN := mk0 (nb_gt hg (blk_ltB XJ (pkb XJ))); replace XJ := bB XJ hb; clear hb hbox hg; refine hK.out _ _ ⟨(blk_cell XH.out 0).trans rfl, HS1_, hTL2_⟩ (fun hHeld => ?_); clear hK K
          refine norm_ (a' := ?_) ?_ ?_
          rotate_left
          ·show Act.put _ (some 9) _ = _
           simp only [Act.put, List.setIfInBounds_toArray, List.set_cons_zero, List.set_cons_succ, i64_w, i32_w]
           rfl
          refine one_ (i := 7) (N := some 93) (bA 12 1279) rfl rfl (one_of HT_.out (by kernel_rfl)) (by decide) (fun K hK => ?_)
          refine goes_ Try.func41 (by kernel_rfl) rfl #[.agg #[.slice (some XM) XD.length X8], .int .i64 (rd X3 Ye)] (by rfl) rfl rfl q_1 ?_
          with_reducible refine (impl_NodeAt.calls k4 _ _ XD (rd X3 Ye) XF _ ?side1 ?side2 A58.out).mono ?_
          (case side1 => exact z17_11)
          (case side2 => exact (Kd.N_reads' XG.out).2.1)
          rintro e w108 ⟨rfl, hb⟩; have HS1_ := (hb.cell (World.block_lt_of_cell? _ _ (hHeld.2.1))).trans (hHeld.2.1); have hTL2_ := lie_below hb (hHeld.2.2)
          refine ⟨_, rfl, ?_⟩
          replace X2 := bR X2 hb; replace XG := mk0 (Kd.N_below (pkN XG) hb); replace XH := bB XH hb; replace XJ := bB XJ hb; replace X5 := bB X5 hb; replace HB := bS z17_14 hb; (try clear hb); (try clear hb2); (try clear hk); (try clear hi); refine hK.out _ _ ⟨(blk_cell XH.out 0).trans rfl, HS1_, hTL2_⟩ (fun hHeld => ?_); clear hK K
          refine norm_ (a' := ?_) ?_ ?_
          rotate_left
          ·show Act.put _ (some 93) _ = _
           simp only [Act.put, List.setIfInBounds_toArray, List.set_cons_zero, List.set_cons_succ, i64_w, i32_w]
           rfl
          refine pzx (i := 8) (N := 94) (bA 12 1535) HT_ ?_
          refine take_ (i := 9) (N := some 95) (v := ?_) (a' := ?_) y17_26 rfl rfl (take_ofW HT_.out HW_.out (by kernel_rfl)) (fun _ _ _ h => h) (Or.inl ⟨by rfl, ?_⟩) hHeld ?_ ?_
          rotate_left
          ·rintro w' ⟨s0, s1, sL568⟩
           first | (refine load_yields (t := 69) (x := ?UY) ?JM ?JN _ _ sL568 Try.underlying69 rfl (show (Try.prog.info? 69).map (·.size) = some 31 by kernel_rfl); (case JM => rfl); (case JN => rfl)) | (have c0_ := lie_at sL568 0 _ rfl; simp only [Nat.add_zero, Addr.add_zero'] at c0_; go_simp; with_reducible rfl) | (have c0_ : w'.cell? ⟨(XM.add ((XF).toNat * 31)).block, (XM.add ((XF).toNat * 31)).off + 2, none⟩ = some (.bool ((rd_T69 XD XF).f2)) := lie_at sL568 2 _ rfl; go_simp; with_reducible rfl) | (go_simp; with_reducible rfl)
          rotate_left
          ·exact x17_put
          exact norm_ q_202 (hCont (XX) _ ⟨hHeld, z17_25, (pkR X2), (pkb XH), (pkb XJ), (pkb X5), Zt.out, YQ.out, XU.out, X4.out, XT.out, XN.out, z17_14⟩)
         rintro XX w109 ⟨hS_, h0_, h1_, h2_, h3_, h4_, h5_, h6_, h7_, h8_, h9_, h10_, h11_⟩
         have n0_ : Aside0 (Kd.N k69 69 w109 w.heap.size (fun k_ => some k_ ≠ (.slice (some Yw) X3.length JD : Value).ownBlock ∧ k_ ≠ XW ∧ k_ ≠ XK ∧ k_ ≠ XX) (.slice (some XM) XD.length X8) XD) := ⟨h0_⟩
         have n1_ : Aside0 (Kd.R (Kd.int .i64) 3 w109 w.heap.size (fun _ => True) (.slice (some Yw) X3.length JD) X3) := ⟨h1_⟩
         have n2_ : Aside0 (w109.heap[XW]? = some (.cells #[.slice (some XM) XD.length X8] 53 (0, 0))) := ⟨h2_⟩
         have n3_ : Aside0 (w109.heap[XK]? = some (.cells #[.int .i64 ((rd_T69 XD XE).f0), .int .i64 ((rd_T69 XD XE).f1), .bool ((rd_T69 XD XE).f2), .int .i64 ((rd_T69 XD XE).f3.f0), .int .i64 ((rd_T69 XD XE).f3.f1), .int .i64 ((rd_T69 XD XE).f3.f2), .int .i64 ((rd_T69 XD XE).f3.f3), .int .i64 ((rd_T69 XD XE).f3.f4), .int .i64 ((rd_T69 XD XE).f3.f5), .slice Yj ((rd_T69 XD XE).f4.f0).length Ym, .slice X9 ((rd_T69 XD XE).f4.f1).length Yf, .bool ((rd_T69 XD XE).f5), .int .i64 ((rd_T69 XD XE).f6), .slice Ya ((rd_T69 XD XE).f7).length Yg, .int .i64 ((rd_T69 XD XE).f8.f0), .int .i64 ((rd_T69 XD XE).f8.f1.f0), .int .i64 ((rd_T69 XD XE).f8.f1.f1), .int .i64 ((rd_T69 XD XE).f8.f1.f2), .int .i64 ((rd_T69 XD XE).f8.f1.f3), .int .i64 ((rd_T69 XD XE).f8.f2.f0), .int .i64 ((rd_T69 XD XE).f8.f2.f1), .int .i64 ((rd_T69 XD XE).f8.f2.f2), .int .i64 ((rd_T69 XD XE).f8.f2.f3), .int .i64 ((rd_T69 XD XE).f8.f3.f0), .int .i64 ((rd_T69 XD XE).f8.f3.f1), .int .i64 ((rd_T69 XD XE).f8.f4.f0), .int .i64 ((rd_T69 XD XE).f8.f4.f1), .int .i64 ((rd_T69 XD XE).f9), .int .i64 ((rd_T69 XD XE).f10), .slice Yb ((rd_T69 XD XE).f11.f0).length Yh, .slice Yc ((rd_T69 XD XE).f11.f1).length Yi] 69 (0, 0))) := ⟨h3_⟩
         have n4_ : Aside0 (w109.heap[XX]? = some (.cells #[.int .i64 0, .int .i64 0, .bool false, .int .i64 0, .int .i64 0, .int .i64 0, .int .i64 0, .int .i64 0, .int .i64 0, .slice none 0 0, .slice none 0 0, .bool false, .int .i64 0, .slice none 0 0, .int .i64 0, .int .i64 0, .int .i64 0, .int .i64 0, .int .i64 0, .int .i64 0, .int .i64 0, .int .i64 0, .int .i64 0, .int .i64 0, .int .i64 0, .int .i64 0, .int .i64 0, .int .i64 0, .int .i64 0, .slice none 0 0, .slice none 0 0] 69 (0, 0))) := ⟨h4_⟩
         have n5_ : Aside0 (w.heap.size ≤ XX) := ⟨h5_⟩
         have n6_ : Aside0 (w.heap.size ≤ XX) := ⟨h6_⟩
         have n7_ : Aside0 (XW ≠ XX) := ⟨h7_⟩
         have n8_ : Aside0 (XX ≠ XW) := ⟨h8_⟩
         have n9_ : Aside0 (XK ≠ XX) := ⟨h9_⟩
         have n10_ : Aside0 (XX ≠ XK) := ⟨h10_⟩
         have n11_ : Aside0 (Below w.heap.size w w109) := ⟨h11_⟩
         clear X2 XG XH XJ HB h0_ h1_ h2_ h3_ h4_ h5_ h6_ h7_ h8_ h9_ h10_ h11_; have XG := n0_; have X2 := n1_; have XH := n2_; have XJ := n3_; have X5 := n4_; have Zt := n5_; have YQ := n6_; have XU := n7_; have X4 := n8_; have XT := n9_; have XN := n10_; have HB := n11_; clear n0_ n1_ n2_ n3_ n4_ n5_ n6_ n7_ n8_ n9_ n10_ n11_
         have hHeld : w109.cell? ⟨XW, 0, none⟩ = some (.slice (some XM) XD.length X8) ∧ w109.cell? (Yw.add (Ye).toNat) = some (.int .i64 (rd X3 Ye)) ∧ Lie w109 (XM.add ((XF).toNat * 31)) 0 [.int .i64 ((rd_T69 XD XF).f0), .int .i64 ((rd_T69 XD XF).f1), .bool ((rd_T69 XD XF).f2), .int .i64 ((rd_T69 XD XF).f3.f0), .int .i64 ((rd_T69 XD XF).f3.f1), .int .i64 ((rd_T69 XD XF).f3.f2), .int .i64 ((rd_T69 XD XF).f3.f3), .int .i64 ((rd_T69 XD XF).f3.f4), .int .i64 ((rd_T69 XD XF).f3.f5), .slice YJ ((rd_T69 XD XF).f4.f0).length YK, .slice Yn ((rd_T69 XD XF).f4.f1).length Yo, .bool ((rd_T69 XD XF).f5), .int .i64 ((rd_T69 XD XF).f6), .slice Yp ((rd_T69 XD XF).f7).length Yq, .int .i64 ((rd_T69 XD XF).f8.f0), .int .i64 ((rd_T69 XD XF).f8.f1.f0), .int .i64 ((rd_T69 XD XF).f8.f1.f1), .int .i64 ((rd_T69 XD XF).f8.f1.f2), .int .i64 ((rd_T69 XD XF).f8.f1.f3), .int .i64 ((rd_T69 XD XF).f8.f2.f0), .int .i64 ((rd_T69 XD XF).f8.f2.f1), .int .i64 ((rd_T69 XD XF).f8.f2.f2), .int .i64 ((rd_T69 XD XF).f8.f2.f3), .int .i64 ((rd_T69 XD XF).f8.f3.f0), .int .i64 ((rd_T69 XD XF).f8.f3.f1), .int .i64 ((rd_T69 XD XF).f8.f4.f0), .int .i64 ((rd_T69 XD XF).f8.f4.f1), .int .i64 ((rd_T69 XD XF).f9), .int .i64 ((rd_T69 XD XF).f10), .slice Yr ((rd_T69 XD XF).f11.f0).length Ys, .slice Yt ((rd_T69 XD XF).f11.f1).length Yu] := hS_
         refine norm_ (a' := ?_) ?_ ?_
         rotate_left
         ·simp only [putAll, Act.put, List.setIfInBounds_toArray, List.set_cons_zero, List.set_cons_succ]
          rfl
         refine one_ (i := 11) (N := none) (bA 12 4095) rfl rfl (one_of HT_.out (by kernel_rfl)) (by decide) (fun K hK => ?_)
         refine skip_ (w1 := ?_) ?hwx ?hN ?_ ?_; (case hwx => rfl); (case hN => rfl)
         rotate_left
         ·refine store_yields (t := 69) (x := ?xq2975) (y := ?yq2975) (cells := ?cq2975) ?hoq2975 ?hxq2975 ?hyq2975 X5.out ?hsq2975 ?hiq2975 ?h1q2975; (case hoq2975 => rfl); (case hxq2975 => rfl); (case hyq2975 => rfl); (case hsq2975 => rfl); (case hiq2975 => kernel_rfl); (case h1q2975 => rfl)
         generalize hx588_ : World.setCells _ XX _ _ = UT; have X6 := mk0 hx588_.symm; clear hx588_; have hbW_ := blk_setE X6.out X5.out rfl; refine bc_31 hbW_ ?_; intros; clear hbW_; (try (have hoW_ := blk_farE X6.out z17_22 XU.out; first | (refine bc_1 hoW_ ?_; intros) | (refine bc_31 hoW_ ?_; intros); clear hoW_)); (try (have hoW_ := blk_farE X6.out z17_45 XT.out; first | (refine bc_1 hoW_ ?_; intros) | (refine bc_31 hoW_ ?_; intros); clear hoW_))
         refine hK.out _ _ ⟨((cell_farE X6.out XU.out).trans (hHeld.1)), z17_26, lie_farE X6.out (hHeld.2.2) z17_27⟩ (fun hHeld => ?_); clear hK K
         refine done_ (done_of HT_.out (by kernel_rfl)) ?_
         have Dp := X4.out; have Dq := XU.out; have Dr := XN.out; have Ds := XT.out; refine bc_31 X5.out ?_; intros; have Dt := Yk.out; have Du := XS.out; refine bc_31 XJ.out ?_; intros
         try go_wp2_with (first | ((with_reducible refine gate_load (t := 69) rfl ?_); refine load_lie (t := 69) rfl rfl Yd HB (by with_reducible rfl) rfl Try.underlying69 rfl (show (Try.prog.info? 69).map (·.size) = some 31 by kernel_rfl) rfl ?_) | ((with_reducible refine gate_load (t := 69) rfl ?_); refine load_lie0 (t := 69) rfl rfl Yd (by with_reducible rfl) rfl Try.underlying69 rfl (show (Try.prog.info? 69).map (·.size) = some 31 by kernel_rfl) rfl ?_) | ((with_reducible refine gate_load (t := 69) rfl ?_); refine load_lie (t := 69) rfl rfl ZI HB (by with_reducible rfl) rfl Try.underlying69 rfl (show (Try.prog.info? 69).map (·.size) = some 31 by kernel_rfl) rfl ?_) | ((with_reducible refine gate_load (t := 69) rfl ?_); refine load_lie0 (t := 69) rfl rfl ZI (by with_reducible rfl) rfl Try.underlying69 rfl (show (Try.prog.info? 69).map (·.size) = some 31 by kernel_rfl) rfl ?_) | (go_at_call 43; (with_reducible refine (laws_in.calls k4 _ _ X3 ((rd_T69 XD XF).f1) true _ ?side1 ?side2 A103.out).mono ?_); (case side1 => refine (Kd.R_reads' (e := 3) (base := w.heap.size) (ok := fun k_ => True) (n := X3.length) (c := JD) ?_).2.2; exact (by (with_reducible repeat (first | apply Kd.R_alloc | apply Kd.R_drewN | apply Kd.R_drew)); exact (Kd.R_mono (Kd.R_farE X6.out (Kd.R_types X2.out X5.out (by decide)) (fun _ hk => hk.2)) (fun _ h_ => h_.1)))); (case side2 => exact (Kd.R_reads' X2.out).2.1); rintro e w' ⟨rfl, ⟨nd, rfl⟩⟩) | ((with_reducible refine gate_load (t := 69) rfl ?_); refine load_at (t := 69) XK rfl rfl ?_; refine load_blkQ (t := 69) rfl rfl XJ rfl z17_12 Try.underlying69 rfl (show (Try.prog.info? 69).map (·.size) = some 31 by kernel_rfl) (by rfl) ?_) | ((with_reducible refine gate_store (t := 69) rfl ?_); refine wstore_blkW (t := 69) rfl rfl XJ rfl rfl z17_13 rfl (show (Try.prog.info? 69).map (·.size) = some 31 by kernel_rfl) rfl ?_; intro Yv hx569_ hbW_; have XL := mk0 hx569_; clear hx569_; refine bc_31 hbW_ ?_; intros; clear hbW_; (try (have hoW_ := blk_farE XL.out z17_22 XS.out; first | (refine bc_1 hoW_ ?_; intros) | (refine bc_31 hoW_ ?_; intros); clear hoW_)); (try (have hoW_ := blk_farE XL.out z17_23 XN.out; first | (refine bc_1 hoW_ ?_; intros) | (refine bc_31 hoW_ ?_; intros); clear hoW_))))
         go_roundg k4
         case measure => have := HK1.out; have := J7.out; have := Us.out; have := HK4.out; omega
         case rel => exact ⟨(wrap64 (Ye + 1)), rs0, H', ⟨z17_43⟩, ⟨z17_42⟩, ⟨z17_32⟩, ⟨z17_33⟩, ⟨z17_34⟩, ⟨z17_14⟩⟩

/-- THE ONE PURE STATEMENT of laws_FnTrees: yours. -/
def laws_FnTrees.Pure : Prop := ∀ (l0 : List Int), l0.length ≤ maxLen → l0.length * 1 ≤ 140737488351232 → (∀ x ∈ l0, (Lit.int .u8 x).wf = true) → ∃ k, laws_FnTrees.f k l0 = some true
theorem laws_FnTrees.walk (P : laws_FnTrees.Pure) (a0 : Option Addr) (len0 cap0 : Nat) (z0 : List Int) (w : World) (w0 : (a0 = none ∧ len0 = 0 ∧ cap0 = 0 ∧ z0 = []) ∨ ∃ x, a0 = some x ∧ len0 ≤ cap0 ∧ cap0 ≤ maxLen ∧ z0.length = cap0 ∧ (∀ i, i < z0.length → w.cell? (x.add i) = some (.int .u8 (z0.getD i 0))) ∧ ∀ n ∈ z0, (Lit.int .u8 n).wf = true) (y0 : len0 * 1 ≤ 140737488351232) :
  Calls Try.prog 8 #[.slice a0 len0 cap0] w fun e w' => e = .returned (.bool true) ∧ Below w.heap.size w w' := by
 obtain ⟨l0, rfl, hr0, hm0, hw0, hc0⟩ := ReadsInt.ofRowC w0; obtain ⟨k, h⟩ := P l0 hm0 y0 hw0
 refine (laws_FnTrees.calls k _ _ l0 true w (Kd.C_of_reads (d := (0 : Int)) (h1 := fun _ => rfl) hr0) hc0 rfl h).mono ?_
 rintro e w' ⟨rfl, hd⟩
 exact ⟨rfl, hd⟩

end Go.Proofs.Ytjfienkbcacijaa.MFnTrees
