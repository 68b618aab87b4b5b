/- Functions of the program as Lean functions, and the proof that a call comes to just these: machine text of this session's own program (myprint.py). -/
import Derived.Test.YtgdlbilpfmjeaaaMFnCoversx0
import Derived.Test.YtgdlbilpfmjeaaaMFnCoversx2
import Derived.Test.YtgdlbilpfmjeaaaMFnCoversx3
import Derived.Test.YtgdlbilpfmjeaaaMFnCoversx4
import Derived.Test.YtgdlbilpfmjeaaaMFnCoversx5
import Derived.Test.YtgdlbilpfmjeaaaMFnCoversx9
import Derived.Test.YtgdlbilpfmjeaaaMFnCoversx10
import Derived.Test.YtgdlbilpfmjeaaaMFnCoversx11
namespace Go.Proofs.Ytgdlbilpfmjeaaa.MFnCovers
open Go.RowKit Go.Proofs.YtgdlbilpfmjeaaaW.PrintWords Go.Proofs.YtgdlbilpfmjeaaaW.PrintLast Go.Proofs.YtgdlbilpfmjeaaaW.PrintMore
attribute [local go_sem] max2_int min2_int max_two min_two max_three min_three max_four min_four   -- for this text's walks alone
set_option linter.unusedVariables false
set_option linter.unusedSimpArgs false

def y12_1 : Array Bool := #[false, false, false, false, false, false, false, false, false, false, false, false, false, false]
def y12_6 : Array Bool := #[true, false, false, false, false, false, false, false, false, false, false, false, false, false]
def y12_15 : Array Bool := #[true, true, false, false, false, false, false, false, false, false, false, false, false, false]
def y12_20 : Array Bool := #[true, true, true, false, false, false, false, false, false, false, false, false, false, false]
def y12_22 : Array Bool := #[true, true, true, true, false, false, false, false, false, false, false, false, false, false]
def y12_41 : Array Bool := #[true, true, true, true, true, true, true, true, true, false, false, false, false, false]
def y12_43 : Array Bool := #[true, true, true, true, true, true, true, true, true, true, false, false, false, false]
def y12_45 : Array Bool := #[true, true, true, true, true, true, true, true, true, true, true, false, false, false]
def y12_47 : Array Bool := #[true, true, true, true, true, true, true, true, true, true, true, true, false, false]
def y12_49 : Array Bool := #[true, true, true, true, true, true, true, true, true, true, true, true, true, false]
def y12_52 : Array Bool := #[true, true, true, true, true, true, true, true, true, true, true, true, true, true]
theorem x12_put {P : Prop} (h : P := by simp only [Act.put, List.setIfInBounds_toArray, List.set_cons_zero, List.set_cons_succ, i64_w, i32_w]; rfl) : P := h
theorem z12_12 {P : Prop} (h : P := by repeat (first | (with_reducible first | exact HB.out | apply below_alloc | apply pw_below_drewN | apply below_drew1 | refine below_set ?_ GE384.out | refine below_set ?_ GE385.out | refine below_set ?_ GE386.out | refine below_set ?_ GE387.out) | exact HB.out)) : P := h
theorem z12_13 {P : Prop} (h : P := by (with_reducible repeat (first | refine blk_drewN ?_ _ | refine blk_drew ?_ | refine blk_alloc ?_ _)); exact BK384.out) : P := h
theorem z12_14 {P : Prop} (h : P := by (with_reducible repeat (first | refine blk_drewN ?_ _ | refine blk_drew ?_ | refine blk_alloc ?_ _)); exact BK386.out) : P := h
theorem z12_15 {P : Prop} (h : P := by (with_reducible repeat (first | refine blk_drewN ?_ _ | refine blk_drew ?_ | refine blk_alloc ?_ _)); exact BK385.out) : P := h
theorem z12_16 {P : Prop} (h : P := by (with_reducible repeat (first | refine blk_drewN ?_ _ | refine blk_drew ?_ | refine blk_alloc ?_ _)); exact BK387.out) : P := h
theorem z12_17 {P : Prop} (h : P := by repeat (first | (with_reducible first | exact HB.out | apply below_alloc | apply pw_below_drewN | apply below_drew1 | refine below_set ?_ GE384.out | refine below_set ?_ GE385.out | refine below_set ?_ GE386.out | refine below_set ?_ GE387.out | refine below_set ?_ GE426.out | refine below_set ?_ GE432.out | refine below_set ?_ GE435.out) | exact HB.out)) : P := h
theorem z12_18 {P : Prop} (h : P := by (try simp only [List.map_toArray, List.map_cons, List.map_nil]); first | done | rfl | (simp only [List.length_drop, List.length_take]; rfl)) : P := h
theorem z12_19 {P : Prop} (h : P := by repeat (first | (with_reducible first | exact HB.out | apply below_alloc | apply pw_below_drewN | apply below_drew1 | refine below_set ?_ GE384.out | refine below_set ?_ GE385.out | refine below_set ?_ GE386.out | refine below_set ?_ GE387.out | refine below_set ?_ GE426.out) | exact HB.out)) : P := h
theorem z12_20 {P : Prop} (h : P := by (with_reducible repeat (first | refine blk_drewN ?_ _ | refine blk_drew ?_ | refine blk_alloc ?_ _)); exact BK426.out) : P := h
theorem z12_21 {P : Prop} (h : P := by (with_reducible repeat (first | refine blk_drewN ?_ _ | refine blk_drew ?_ | refine blk_alloc ?_ _)); exact BK432.out) : P := h
theorem z12_22 {P : Prop} (h : P := by first | exact Kd.own_blk (Kd.R_ne HO429.out BK432.out (by decide)) | (rw [add_block]; exact Kd.own_blk (Kd.R_ne HO429.out BK432.out (by decide))) | (show (Addr.add _ _).block ≠ _; rw [add_block]; exact Kd.own_blk (Kd.R_ne HO429.out BK432.out (by decide))) | (dsimp only; exact Kd.own_blk (Kd.R_ne HO429.out BK432.out (by decide)))) : P := h
theorem z12_23 {P : Prop} (h : P := by first | exact Kd.own_blk (Kd.R_ne HO429.out BK435.out (by decide)) | (rw [add_block]; exact Kd.own_blk (Kd.R_ne HO429.out BK435.out (by decide))) | (show (Addr.add _ _).block ≠ _; rw [add_block]; exact Kd.own_blk (Kd.R_ne HO429.out BK435.out (by decide))) | (dsimp only; exact Kd.own_blk (Kd.R_ne HO429.out BK435.out (by decide)))) : P := h
theorem z12_24 {P : Prop} (h : P := by (with_reducible repeat (first | apply Kd.R_alloc | apply Kd.R_drewN | apply Kd.R_drew)); exact HO429.out) : P := h
theorem z12_25 {P : Prop} (h : P := by (with_reducible repeat (first | refine blk_drewN ?_ _ | refine blk_drew ?_ | refine blk_alloc ?_ _)); exact BK435.out) : P := h
theorem z12_26 {P : Prop} (h : P := by apply blk_fin; (focus ((with_reducible repeat (first | apply blk_putQ | refine blk_farQ NB384_386.out ?_ | refine blk_farQ NB384_385.out ?_ | refine blk_drewN ?_ _ | refine blk_drew ?_ | refine blk_alloc ?_ _)); exact BK384.out)); first | (simp only [List.setIfInBounds_toArray, List.set_cons_zero, List.set_cons_succ]; done) | rfl) : P := h
theorem z12_27 {P : Prop} (h : P := by apply blk_fin; (focus ((with_reducible repeat (first | apply blk_putQ | refine blk_farQ NB385_386.out ?_ | refine blk_farQ NB385_384.out ?_ | refine blk_drewN ?_ _ | refine blk_drew ?_ | refine blk_alloc ?_ _)); exact BK385.out)); first | (simp only [List.setIfInBounds_toArray, List.set_cons_zero, List.set_cons_succ]; done) | rfl) : P := h
theorem z12_28 {P : Prop} (h : P := by apply blk_fin; (focus ((with_reducible repeat (first | apply blk_putQ | refine blk_farQ NB386_385.out ?_ | refine blk_farQ NB386_384.out ?_ | refine blk_drewN ?_ _ | refine blk_drew ?_ | refine blk_alloc ?_ _)); exact BK386.out)); first | (simp only [List.setIfInBounds_toArray, List.set_cons_zero, List.set_cons_succ]; done) | rfl) : P := h
theorem z12_29 {P : Prop} (h : P := by repeat (first | (with_reducible first | exact HB.out | apply below_alloc | apply pw_below_drewN | apply below_drew1 | refine below_set ?_ GE384.out | refine below_set ?_ GE385.out | refine below_set ?_ GE386.out | refine below_set ?_ GE387.out | refine below_set ?_ GE426.out | refine below_set ?_ GE432.out) | exact HB.out)) : P := h
theorem z12_30 {P : Prop} (h : P := by (with_reducible repeat (first | apply Kd.R_alloc | apply Kd.R_drewN | apply Kd.R_drew)); exact HO390.out) : P := h
theorem z12_31 {P : Prop} (h : P := by (with_reducible repeat (first | apply Kd.R_alloc | apply Kd.R_drewN | apply Kd.R_drew)); exact HO393.out) : P := h
theorem z12_32 {P : Prop} (h : P := by repeat (first | (with_reducible first | exact HB.out | apply below_alloc | apply pw_below_drewN | apply below_drew1) | exact HB.out)) : P := h
theorem z12_33 {P : Prop} (h : P := by repeat (first | (with_reducible first | exact HB.out | apply below_alloc | apply pw_below_drewN | apply below_drew1 | refine below_set ?_ GE384.out | refine below_set ?_ GE385.out | refine below_set ?_ GE386.out) | exact HB.out)) : P := h
theorem z12_34 {P : Prop} (h : P := by (with_reducible repeat (first | apply Kd.N_alloc | apply Kd.N_drewN | apply Kd.N_drew)); exact HO396.out) : P := h
theorem z12_35 {P : Prop} (h : P := by (with_reducible repeat (first | apply Kd.V_alloc | apply Kd.V_drewN | apply Kd.V_drew)); exact HO421.out) : P := h
theorem z12_36 {P : Prop} (h : P := by (with_reducible repeat (first | apply Kd.N_alloc | apply Kd.N_drewN | apply Kd.N_drew)); exact HO438.out) : P := h
theorem z12_37 {P : Prop} (h : P := by repeat (first | (with_reducible first | exact HB.out | apply below_alloc | apply pw_below_drewN | apply below_drew1 | refine below_set ?_ GE384.out | refine below_set ?_ GE385.out) | exact HB.out)) : P := h
theorem z12_38 {P : Prop} (h : P := by repeat (first | (with_reducible first | exact HB.out | apply below_alloc | apply pw_below_drewN | apply below_drew1 | refine below_set ?_ GE384.out) | exact HB.out)) : P := h
theorem z12_39 {P : Prop} (h : P := by (with_reducible repeat (first | apply Kd.R_alloc | apply Kd.R_drewN | apply Kd.R_drew)); exact HO421.out) : P := h
theorem z12_40 {P : Prop} (h : P := by repeat (first | exact HR0.out | (with_reducible refine Kd.C_alloc ?_ _) | (with_reducible refine Kd.C_drewN ?_ _) | (with_reducible refine Kd.C_drew ?_))) : P := h
theorem z12_41 {P : Prop} (h : P := by (with_reducible repeat (first | apply Kd.R_alloc | apply Kd.R_drewN | apply Kd.R_drew)); exact HO403.out) : P := h
theorem z12_42 {P : Prop} (h : P := by (with_reducible repeat (first | apply Kd.R_alloc | apply Kd.R_drewN | apply Kd.R_drew)); exact HO406.out) : P := h
theorem z12_43 {P : Prop} (h : P := by (with_reducible repeat (first | apply Kd.V_alloc | apply Kd.V_drewN | apply Kd.V_drew)); exact HO413.out) : P := h
theorem z12_44 {P : Prop} (h : P := by repeat (first | exact (Kd.N_reads' HO416.out).2.2 | (with_reducible refine Kd.C_alloc ?_ _) | (with_reducible refine Kd.C_drewN ?_ _) | (with_reducible refine Kd.C_drew ?_))) : P := h
/-! ### laws_FnCovers: function 4 -/
mutual
def laws_FnCovers.j0 : Nat → List Int → Bool → Int → Int → Int → Int → Int → Int → Int → Int → Int → Int → Option (Bool)
 | 0, _, _, _, _, _, _, _, _, _, _, _, _ => none
 | k + 1, x0, x58, x385000, x385001, x385002, x385003, x387000, x387001, x388000, x388001, x388002, x388003 => if x58 = true then (some false) else ((spec_Empty.f x385000 x385001 x385002 x385003).bind fun t400 => (if t400 = true then (laws_FnCovers.j1 k x0 false x387000 x387001) else ((spec_RectPath.f x388000 x388001 x388002 x388003).bind fun bt401 => ((spec_FlatOf.f k bt401.1 bt401.2).bind fun t407 => ((impl_MaskAt.f k t407 true x385000 x385001).bind fun t410 => (laws_FnCovers.j1 k x0 (t410 != 15) x387000 x387001))))))
def laws_FnCovers.j1 : Nat → List Int → Bool → Int → Int → Option (Bool)
 | 0, _, _, _, _ => none
 | k + 1, x0, x72, x387000, x387001 => if x72 = true then (some false) else ((some (([(([(⟨wrap64 (256 * x387000), wrap64 (256 * x387001)⟩ : S32), (⟨wrap64 ((wrap64 (256 * x387000)) + 128), wrap64 (256 * x387001)⟩ : S32), (⟨wrap64 ((wrap64 (256 * x387000)) + 128), wrap64 ((wrap64 (256 * x387001)) + 256)⟩ : S32), (⟨wrap64 (256 * x387000), wrap64 ((wrap64 (256 * x387001)) + 256)⟩ : S32)] : List (S32)))] : List (List (S32))) : List (List (S32)))).bind fun y414 => ((impl_MaskAt.f k y414 false x387000 x387001).bind fun t417 => (if t417 = 5 then ((impl_Covers.f k y414 false (wrap64 ((wrap64 (256 * x387000)) + 1)) (wrap64 (256 * x387001))).bind fun t418 => (laws_FnCovers.j2 k x0 (!t418))) else (laws_FnCovers.j2 k x0 true))))
def laws_FnCovers.j2 : Nat → List Int → Bool → Option (Bool)
 | 0, _, _ => none
 | k + 1, x0, x126 => if x126 = true then (some false) else ((spec_DrawPoints.f k x0).bind fun t419 => ((spec_BoxOf.f k t419).bind fun bt422 => ((spec_DrawPlaces.f k x0).bind fun t427 => (if 0 < (t427.length : Int) then (if 1 < (t427.length : Int) then ((impl_Covers.f k (([t419] : List (List (S32)))) false (wrap64 (bt422.2.2.1 + (Int.tmod (rd t427 0) 50))) (wrap64 ((rd t427 1) - 5000))).bind fun t439 => (if t439 = true then (some false) else ((impl_Covers.f k (([t419] : List (List (S32)))) true (wrap64 ((rd t427 0) - 5000)) (wrap64 ((wrap64 (bt422.2.1 - 1)) - (Int.tmod (rd t427 1) 50)))).bind fun t443 => (if t443 = true then (some false) else ((impl_WindOf.f k t419 (wrap64 (bt422.2.2.1 + (Int.tmod (rd t427 0) 50))) (wrap64 ((rd t427 1) - 5000))).bind fun t444 => (some (t444 == 0))))))) else (none)) else (none)))))
end
def laws_FnCovers.f (k : Nat) (l0 : List Int) : Option (Bool) := (laws_big.f l0).bind fun t373 => (if t373 = true then (some true) else ((spec_DrawBoxes.f k l0).bind fun bt374 => ((spec_RectPath.f (wrap64 (256 * bt374.1)) (wrap64 (256 * bt374.2.1)) (wrap64 (256 * bt374.2.2.1)) (wrap64 (256 * bt374.2.2.2.1))).bind fun bt388 => ((spec_FlatOf.f k bt388.1 bt388.2).bind fun t394 => ((impl_MaskAt.f k t394 false bt374.2.2.2.2.2.2.2.2.1 bt374.2.2.2.2.2.2.2.2.2).bind fun t397 => ((spec_InBox.f bt374.1 bt374.2.1 bt374.2.2.1 bt374.2.2.2.1 bt374.2.2.2.2.2.2.2.2.1 bt374.2.2.2.2.2.2.2.2.2).bind fun t398 => (if (t398 != (t397 == 15)) = true then (laws_FnCovers.j0 k l0 true bt374.1 bt374.2.1 bt374.2.2.1 bt374.2.2.2.1 bt374.2.2.2.2.2.2.2.2.1 bt374.2.2.2.2.2.2.2.2.2 (wrap64 (256 * bt374.1)) (wrap64 (256 * bt374.2.1)) (wrap64 (256 * bt374.2.2.1)) (wrap64 (256 * bt374.2.2.2.1))) else ((spec_InBox.f bt374.1 bt374.2.1 bt374.2.2.1 bt374.2.2.2.1 bt374.2.2.2.2.2.2.2.2.1 bt374.2.2.2.2.2.2.2.2.2).bind fun t399 => (if t399 = true then (laws_FnCovers.j0 k l0 false bt374.1 bt374.2.1 bt374.2.2.1 bt374.2.2.2.1 bt374.2.2.2.2.2.2.2.2.1 bt374.2.2.2.2.2.2.2.2.2 (wrap64 (256 * bt374.1)) (wrap64 (256 * bt374.2.1)) (wrap64 (256 * bt374.2.2.1)) (wrap64 (256 * bt374.2.2.2.1))) else (laws_FnCovers.j0 k l0 (t397 != 0) bt374.1 bt374.2.1 bt374.2.2.1 bt374.2.2.2.1 bt374.2.2.2.2.2.2.2.2.1 bt374.2.2.2.2.2.2.2.2.2 (wrap64 (256 * bt374.1)) (wrap64 (256 * bt374.2.1)) (wrap64 (256 * bt374.2.2.1)) (wrap64 (256 * bt374.2.2.2.1))))))))))))
theorem laws_FnCovers.mono_l : ∀ k, (∀ y0 y1 y2 y3 y4 y5 y6 y7 y8 y9 y10 y11, LeO (laws_FnCovers.j0 k y0 y1 y2 y3 y4 y5 y6 y7 y8 y9 y10 y11) (laws_FnCovers.j0 (k + 1) y0 y1 y2 y3 y4 y5 y6 y7 y8 y9 y10 y11)) ∧ (∀ y0 y1 y2 y3, LeO (laws_FnCovers.j1 k y0 y1 y2 y3) (laws_FnCovers.j1 (k + 1) y0 y1 y2 y3)) ∧ (∀ y0 y1, LeO (laws_FnCovers.j2 k y0 y1) (laws_FnCovers.j2 (k + 1) y0 y1))
 | 0 => ⟨fun _ _ _ _ _ _ _ _ _ _ _ _ r h => by simp [laws_FnCovers.j0] at h, fun _ _ _ _ r h => by simp [laws_FnCovers.j1] at h, fun _ _ r h => by simp [laws_FnCovers.j2] at h⟩
 | k + 1 => by
  obtain ⟨ih0, ih1, ih2⟩ := laws_FnCovers.mono_l k
  refine ⟨?_, ?_, ?_⟩
  ·intro y0 y1 y2 y3 y4 y5 y6 y7 y8 y9 y10 y11
   unfold laws_FnCovers.j0
   repeat' first
   | (with_reducible exact ih0 _ _ _ _ _ _ _ _ _ _ _ _)
   | (with_reducible exact ih1 _ _ _ _)
   | (with_reducible exact ih2 _ _)
   | (with_reducible exact impl_Covers.mono _ _ _ _ _)
   | (with_reducible exact impl_MaskAt.mono _ _ _ _ _)
   | (with_reducible exact impl_WindOf.mono _ _ _ _)
   | (with_reducible exact spec_BoxOf.mono _ _)
   | (with_reducible exact spec_DrawBoxes.mono _ _)
   | (with_reducible exact spec_DrawPlaces.mono _ _)
   | (with_reducible exact spec_DrawPoints.mono _ _)
   | (with_reducible exact spec_FlatOf.mono _ _ _)
   | (with_reducible exact LeO.refl _)
   | (with_reducible exact LeO.none _)
   | (with_reducible refine LeO.ite ?_ ?_)
   | (with_reducible refine LeO.bind ?_ (fun _ => ?_))
   | exact ih0 _ _ _ _ _ _ _ _ _ _ _ _
   | exact ih1 _ _ _ _
   | exact ih2 _ _
   | exact impl_Covers.mono _ _ _ _ _
   | exact impl_MaskAt.mono _ _ _ _ _
   | exact impl_WindOf.mono _ _ _ _
   | exact spec_BoxOf.mono _ _
   | exact spec_DrawBoxes.mono _ _
   | exact spec_DrawPlaces.mono _ _
   | exact spec_DrawPoints.mono _ _
   | exact spec_FlatOf.mono _ _ _
   | exact LeO.none _
   | refine LeO.ite ?_ ?_
   | refine LeO.bind ?_ (fun _ => ?_)
  ·intro y0 y1 y2 y3
   unfold laws_FnCovers.j1
   repeat' first
   | (with_reducible exact ih0 _ _ _ _ _ _ _ _ _ _ _ _)
   | (with_reducible exact ih1 _ _ _ _)
   | (with_reducible exact ih2 _ _)
   | (with_reducible exact impl_Covers.mono _ _ _ _ _)
   | (with_reducible exact impl_MaskAt.mono _ _ _ _ _)
   | (with_reducible exact impl_WindOf.mono _ _ _ _)
   | (with_reducible exact spec_BoxOf.mono _ _)
   | (with_reducible exact spec_DrawBoxes.mono _ _)
   | (with_reducible exact spec_DrawPlaces.mono _ _)
   | (with_reducible exact spec_DrawPoints.mono _ _)
   | (with_reducible exact spec_FlatOf.mono _ _ _)
   | (with_reducible exact LeO.refl _)
   | (with_reducible exact LeO.none _)
   | (with_reducible refine LeO.ite ?_ ?_)
   | (with_reducible refine LeO.bind ?_ (fun _ => ?_))
   | exact ih0 _ _ _ _ _ _ _ _ _ _ _ _
   | exact ih1 _ _ _ _
   | exact ih2 _ _
   | exact impl_Covers.mono _ _ _ _ _
   | exact impl_MaskAt.mono _ _ _ _ _
   | exact impl_WindOf.mono _ _ _ _
   | exact spec_BoxOf.mono _ _
   | exact spec_DrawBoxes.mono _ _
   | exact spec_DrawPlaces.mono _ _
   | exact spec_DrawPoints.mono _ _
   | exact spec_FlatOf.mono _ _ _
   | exact LeO.none _
   | refine LeO.ite ?_ ?_
   | refine LeO.bind ?_ (fun _ => ?_)
  ·intro y0 y1
   unfold laws_FnCovers.j2
   repeat' first
   | (with_reducible exact ih0 _ _ _ _ _ _ _ _ _ _ _ _)
   | (with_reducible exact ih1 _ _ _ _)
   | (with_reducible exact ih2 _ _)
   | (with_reducible exact impl_Covers.mono _ _ _ _ _)
   | (with_reducible exact impl_MaskAt.mono _ _ _ _ _)
   | (with_reducible exact impl_WindOf.mono _ _ _ _)
   | (with_reducible exact spec_BoxOf.mono _ _)
   | (with_reducible exact spec_DrawBoxes.mono _ _)
   | (with_reducible exact spec_DrawPlaces.mono _ _)
   | (with_reducible exact spec_DrawPoints.mono _ _)
   | (with_reducible exact spec_FlatOf.mono _ _ _)
   | (with_reducible exact LeO.refl _)
   | (with_reducible exact LeO.none _)
   | (with_reducible refine LeO.ite ?_ ?_)
   | (with_reducible refine LeO.bind ?_ (fun _ => ?_))
   | exact ih0 _ _ _ _ _ _ _ _ _ _ _ _
   | exact ih1 _ _ _ _
   | exact ih2 _ _
   | exact impl_Covers.mono _ _ _ _ _
   | exact impl_MaskAt.mono _ _ _ _ _
   | exact impl_WindOf.mono _ _ _ _
   | exact spec_BoxOf.mono _ _
   | exact spec_DrawBoxes.mono _ _
   | exact spec_DrawPlaces.mono _ _
   | exact spec_DrawPoints.mono _ _
   | exact spec_FlatOf.mono _ _ _
   | exact LeO.none _
   | refine LeO.ite ?_ ?_
   | refine LeO.bind ?_ (fun _ => ?_)
theorem laws_FnCovers.mono : ∀ a0 k, LeO (laws_FnCovers.f k a0) (laws_FnCovers.f (k + 1) a0) := by
 intro a0 k
 obtain ⟨ih0, ih1, ih2⟩ := laws_FnCovers.mono_l k
 unfold laws_FnCovers.f
 repeat' first
   | (with_reducible exact ih0 _ _ _ _ _ _ _ _ _ _ _ _)
   | (with_reducible exact ih1 _ _ _ _)
   | (with_reducible exact ih2 _ _)
   | (with_reducible exact impl_Covers.mono _ _ _ _ _)
   | (with_reducible exact impl_MaskAt.mono _ _ _ _ _)
   | (with_reducible exact impl_WindOf.mono _ _ _ _)
   | (with_reducible exact spec_BoxOf.mono _ _)
   | (with_reducible exact spec_DrawBoxes.mono _ _)
   | (with_reducible exact spec_DrawPlaces.mono _ _)
   | (with_reducible exact spec_DrawPoints.mono _ _)
   | (with_reducible exact spec_FlatOf.mono _ _ _)
   | (with_reducible exact LeO.refl _)
   | (with_reducible exact LeO.none _)
   | (with_reducible refine LeO.ite ?_ ?_)
   | (with_reducible refine LeO.bind ?_ (fun _ => ?_))
   | exact ih0 _ _ _ _ _ _ _ _ _ _ _ _
   | exact ih1 _ _ _ _
   | exact ih2 _ _
   | exact impl_Covers.mono _ _ _ _ _
   | exact impl_MaskAt.mono _ _ _ _ _
   | exact impl_WindOf.mono _ _ _ _
   | exact spec_BoxOf.mono _ _
   | exact spec_DrawBoxes.mono _ _
   | exact spec_DrawPlaces.mono _ _
   | exact spec_DrawPoints.mono _ _
   | exact spec_FlatOf.mono _ _ _
   | exact LeO.none _
   | refine LeO.ite ?_ ?_
   | refine LeO.bind ?_ (fun _ => ?_)
def laws_FnCovers.T5 : Bool × List (List Nat × List Nat) := (true, [([], []), ([0], [0]), ([1, 1], [1]), ([], []), ([3], [3]), ([], []), ([5], [5]), ([2, 4, 6, 2], [2, 4, 6]), ([7, 7, 0, 1, 2, 3, 4, 5, 6, 7], [7])])
def laws_FnCovers.B5 : List Nat := [0, 1, 3, 0, 8, 0, 32, 127, 255]
theorem laws_FnCovers.tab5 : rtab .any (opsOf Try.f4 5) = laws_FnCovers.T5 := by kernel_rfl
theorem laws_FnCovers.bits5 : waitsOk laws_FnCovers.T5.2 laws_FnCovers.B5 = true := by kernel_rfl
def laws_FnCovers.T8 : Bool × List (List Nat × List Nat) := (true, [([], []), ([0], [0]), ([1], [1]), ([2, 1], [2]), ([3], [3]), ([4, 3, 3], [3, 4]), ([5, 5, 3], [3, 5]), ([3], [3]), ([7, 3], [3, 7]), ([3], [3]), ([9, 3], [3, 9]), ([6, 8, 10, 6, 3], [3, 6, 8, 10]), ([11, 3], [3, 11]), ([3, 12], [3, 12])])
def laws_FnCovers.B8 : List Nat := [0, 1, 3, 7, 15, 31, 63, 15, 143, 15, 527, 2047, 4095, 8191]
theorem laws_FnCovers.tab8 : rtab .any (opsOf Try.f4 8) = laws_FnCovers.T8 := by kernel_rfl
theorem laws_FnCovers.bits8 : waitsOk laws_FnCovers.T8.2 laws_FnCovers.B8 = true := by kernel_rfl
def laws_FnCovers.T16 : Bool × List (List Nat × List Nat) := (true, [([], []), ([0], [0]), ([], []), ([2], [2]), ([3], [3]), ([4], [4]), ([1, 5], [1, 5]), ([], []), ([7], [7]), ([8], [8]), ([9], [9]), ([6, 10], [6, 10]), ([], []), ([12, 11, 0, 1, 2, 3, 4, 5, 6, 7, 8, 9, 10, 11, 12], [11, 12])])
def laws_FnCovers.B16 : List Nat := [0, 1, 0, 4, 12, 28, 63, 0, 128, 384, 896, 2047, 0, 8191]
theorem laws_FnCovers.tab16 : rtab .any (opsOf Try.f4 16) = laws_FnCovers.T16 := by kernel_rfl
theorem laws_FnCovers.bits16 : waitsOk laws_FnCovers.T16.2 laws_FnCovers.B16 = true := by kernel_rfl
def laws_FnCovers.T17 : Bool × List (List Nat × List Nat) := (true, [([], []), ([0], [0]), ([1], [1]), ([2], [2]), ([], []), ([4], [4]), ([5], [5]), ([], []), ([7], [7]), ([8], [8]), ([9], [9]), ([6, 10], [6, 10]), ([3, 11], [3, 11]), ([], []), ([13, 12, 0, 1, 2, 3, 4, 5, 6, 7, 8, 9, 10, 11, 12, 13], [12, 13])])
def laws_FnCovers.B17 : List Nat := [0, 1, 3, 7, 0, 16, 48, 0, 128, 384, 896, 2032, 4095, 0, 16383]
theorem laws_FnCovers.tab17 : rtab .any (opsOf Try.f4 17) = laws_FnCovers.T17 := by kernel_rfl
theorem laws_FnCovers.bits17 : waitsOk laws_FnCovers.T17.2 laws_FnCovers.B17 = true := by kernel_rfl
set_option maxHeartbeats 8000000 in
set_option maxRecDepth 100000 in
theorem laws_FnCovers.calls (k : Nat) (A0 : Option Addr) (c0 : Nat) (l0 : List Int) (r : Bool) (w : World) (hr0 : Kd.C (Kd.int .u8) w A0 l0.length l0) (hc0 : l0.length ≤ c0) (hT : r = true) (h : laws_FnCovers.f k l0 = some r) :
  Calls Try.prog 4 #[.slice A0 l0.length c0] w fun e w' => e = .returned (.bool r) ∧ Below w.heap.size w w' := by
 have hu35 := Try.underlying35
 have hu32 := Try.underlying32
 have HR0 := Aside0.mk hr0
 have HC0 := Aside0.mk hc0
 clear hr0 hc0
 have HB := Aside0.mk (Below.refl w.heap.size w)
 have H : ((laws_big.f l0).bind fun t373 => (if t373 = true then (some true) else ((spec_DrawBoxes.f k l0).bind fun bt374 => ((spec_RectPath.f (wrap64 (256 * bt374.1)) (wrap64 (256 * bt374.2.1)) (wrap64 (256 * bt374.2.2.1)) (wrap64 (256 * bt374.2.2.2.1))).bind fun bt388 => ((spec_FlatOf.f k bt388.1 bt388.2).bind fun t394 => ((impl_MaskAt.f k t394 false bt374.2.2.2.2.2.2.2.2.1 bt374.2.2.2.2.2.2.2.2.2).bind fun t397 => ((spec_InBox.f bt374.1 bt374.2.1 bt374.2.2.1 bt374.2.2.2.1 bt374.2.2.2.2.2.2.2.2.1 bt374.2.2.2.2.2.2.2.2.2).bind fun t398 => (if (t398 != (t397 == 15)) = true then (laws_FnCovers.j0 k l0 true bt374.1 bt374.2.1 bt374.2.2.1 bt374.2.2.2.1 bt374.2.2.2.2.2.2.2.2.1 bt374.2.2.2.2.2.2.2.2.2 (wrap64 (256 * bt374.1)) (wrap64 (256 * bt374.2.1)) (wrap64 (256 * bt374.2.2.1)) (wrap64 (256 * bt374.2.2.2.1))) else ((spec_InBox.f bt374.1 bt374.2.1 bt374.2.2.1 bt374.2.2.2.1 bt374.2.2.2.2.2.2.2.2.1 bt374.2.2.2.2.2.2.2.2.2).bind fun t399 => (if t399 = true then (laws_FnCovers.j0 k l0 false bt374.1 bt374.2.1 bt374.2.2.1 bt374.2.2.2.1 bt374.2.2.2.2.2.2.2.2.1 bt374.2.2.2.2.2.2.2.2.2 (wrap64 (256 * bt374.1)) (wrap64 (256 * bt374.2.1)) (wrap64 (256 * bt374.2.2.1)) (wrap64 (256 * bt374.2.2.2.1))) else (laws_FnCovers.j0 k l0 (t397 != 0) bt374.1 bt374.2.1 bt374.2.2.1 bt374.2.2.2.1 bt374.2.2.2.2.2.2.2.2.1 bt374.2.2.2.2.2.2.2.2.2 (wrap64 (256 * bt374.1)) (wrap64 (256 * bt374.2.1)) (wrap64 (256 * bt374.2.2.1)) (wrap64 (256 * bt374.2.2.2.1))))))))))))) = some r := h
 clear h
 replace H := Option.bind_eq_some_iff.mp H
 obtain ⟨t373, A20, H⟩ := H
 replace H : (if t373 = true then (some true) else ((spec_DrawBoxes.f k l0).bind fun bt374 => ((spec_RectPath.f (wrap64 (256 * bt374.1)) (wrap64 (256 * bt374.2.1)) (wrap64 (256 * bt374.2.2.1)) (wrap64 (256 * bt374.2.2.2.1))).bind fun bt388 => ((spec_FlatOf.f k bt388.1 bt388.2).bind fun t394 => ((impl_MaskAt.f k t394 false bt374.2.2.2.2.2.2.2.2.1 bt374.2.2.2.2.2.2.2.2.2).bind fun t397 => ((spec_InBox.f bt374.1 bt374.2.1 bt374.2.2.1 bt374.2.2.2.1 bt374.2.2.2.2.2.2.2.2.1 bt374.2.2.2.2.2.2.2.2.2).bind fun t398 => (if (t398 != (t397 == 15)) = true then (laws_FnCovers.j0 k l0 true bt374.1 bt374.2.1 bt374.2.2.1 bt374.2.2.2.1 bt374.2.2.2.2.2.2.2.2.1 bt374.2.2.2.2.2.2.2.2.2 (wrap64 (256 * bt374.1)) (wrap64 (256 * bt374.2.1)) (wrap64 (256 * bt374.2.2.1)) (wrap64 (256 * bt374.2.2.2.1))) else ((spec_InBox.f bt374.1 bt374.2.1 bt374.2.2.1 bt374.2.2.2.1 bt374.2.2.2.2.2.2.2.2.1 bt374.2.2.2.2.2.2.2.2.2).bind fun t399 => (if t399 = true then (laws_FnCovers.j0 k l0 false bt374.1 bt374.2.1 bt374.2.2.1 bt374.2.2.2.1 bt374.2.2.2.2.2.2.2.2.1 bt374.2.2.2.2.2.2.2.2.2 (wrap64 (256 * bt374.1)) (wrap64 (256 * bt374.2.1)) (wrap64 (256 * bt374.2.2.1)) (wrap64 (256 * bt374.2.2.2.1))) else (laws_FnCovers.j0 k l0 (t397 != 0) bt374.1 bt374.2.1 bt374.2.2.1 bt374.2.2.2.1 bt374.2.2.2.2.2.2.2.2.1 bt374.2.2.2.2.2.2.2.2.2 (wrap64 (256 * bt374.1)) (wrap64 (256 * bt374.2.1)) (wrap64 (256 * bt374.2.2.1)) (wrap64 (256 * bt374.2.2.2.1)))))))))))) = some r := H
 have A2 := Aside0.mk A20
 clear A20
 by_cases c3 : t373 = true
 ·subst c3
  have H1 : (some true) = some r := by rw [if_pos rfl] at H; exact H
  clear H; have H := H1; clear H1
  obtain rfl := Option.some.inj H
  simp only [Option.some.injEq, Prod.mk.injEq] at H
  obtain ⟨rfl⟩ := H
  go_enter Try.func4, Try.ntmps4
  go_wp2_with (first | ((with_reducible refine gate_callee (f := 15) rfl ?_); refine goesL_ (some 15) rfl rfl Try.func15 (by kernel_rfl) rfl #[.slice A0 l0.length c0] rfl z12_18 ?_; (with_reducible refine (laws_big.calls _ _ l0 true _ ?side1 ?side2 A2.out).mono ?_); (case side1 => exact z12_40); (case side2 => exact HC0.out); rintro e w' ⟨rfl, ⟨nd, rfl⟩⟩; refine ⟨_, rfl, ?_⟩))
  go_ret
  exact ⟨(by first | rfl | (simp [errW_none, errW_some] <;> rfl) | (simp [*, errW_none, errW_some] <;> rfl)), z12_32⟩
 ·replace c3 := Bool.eq_false_iff.mpr c3
  subst c3
  have H1 : ((spec_DrawBoxes.f k l0).bind fun bt374 => ((spec_RectPath.f (wrap64 (256 * bt374.1)) (wrap64 (256 * bt374.2.1)) (wrap64 (256 * bt374.2.2.1)) (wrap64 (256 * bt374.2.2.2.1))).bind fun bt388 => ((spec_FlatOf.f k bt388.1 bt388.2).bind fun t394 => ((impl_MaskAt.f k t394 false bt374.2.2.2.2.2.2.2.2.1 bt374.2.2.2.2.2.2.2.2.2).bind fun t397 => ((spec_InBox.f bt374.1 bt374.2.1 bt374.2.2.1 bt374.2.2.2.1 bt374.2.2.2.2.2.2.2.2.1 bt374.2.2.2.2.2.2.2.2.2).bind fun t398 => (if (t398 != (t397 == 15)) = true then (laws_FnCovers.j0 k l0 true bt374.1 bt374.2.1 bt374.2.2.1 bt374.2.2.2.1 bt374.2.2.2.2.2.2.2.2.1 bt374.2.2.2.2.2.2.2.2.2 (wrap64 (256 * bt374.1)) (wrap64 (256 * bt374.2.1)) (wrap64 (256 * bt374.2.2.1)) (wrap64 (256 * bt374.2.2.2.1))) else ((spec_InBox.f bt374.1 bt374.2.1 bt374.2.2.1 bt374.2.2.2.1 bt374.2.2.2.2.2.2.2.2.1 bt374.2.2.2.2.2.2.2.2.2).bind fun t399 => (if t399 = true then (laws_FnCovers.j0 k l0 false bt374.1 bt374.2.1 bt374.2.2.1 bt374.2.2.2.1 bt374.2.2.2.2.2.2.2.2.1 bt374.2.2.2.2.2.2.2.2.2 (wrap64 (256 * bt374.1)) (wrap64 (256 * bt374.2.1)) (wrap64 (256 * bt374.2.2.1)) (wrap64 (256 * bt374.2.2.2.1))) else (laws_FnCovers.j0 k l0 (t397 != 0) bt374.1 bt374.2.1 bt374.2.2.1 bt374.2.2.2.1 bt374.2.2.2.2.2.2.2.2.1 bt374.2.2.2.2.2.2.2.2.2 (wrap64 (256 * bt374.1)) (wrap64 (256 * bt374.2.1)) (wrap64 (256 * bt374.2.2.1)) (wrap64 (256 * bt374.2.2.2.1))))))))))) = some r := by rw [if_neg (show ¬ (false = true) by decide)] at H; exact H
  clear H; have H := H1; clear H1
  replace H := Option.bind_eq_some_iff.mp H
  obtain ⟨⟨t374, t375, t376, t377, t378, t379, t380, t381, t382, t383⟩, A40, H⟩ := H
  replace H : ((spec_RectPath.f (wrap64 (256 * t374)) (wrap64 (256 * t375)) (wrap64 (256 * t376)) (wrap64 (256 * t377))).bind fun bt388 => ((spec_FlatOf.f k bt388.1 bt388.2).bind fun t394 => ((impl_MaskAt.f k t394 false t382 t383).bind fun t397 => ((spec_InBox.f t374 t375 t376 t377 t382 t383).bind fun t398 => (if (t398 != (t397 == 15)) = true then (laws_FnCovers.j0 k l0 true t374 t375 t376 t377 t382 t383 (wrap64 (256 * t374)) (wrap64 (256 * t375)) (wrap64 (256 * t376)) (wrap64 (256 * t377))) else ((spec_InBox.f t374 t375 t376 t377 t382 t383).bind fun t399 => (if t399 = true then (laws_FnCovers.j0 k l0 false t374 t375 t376 t377 t382 t383 (wrap64 (256 * t374)) (wrap64 (256 * t375)) (wrap64 (256 * t376)) (wrap64 (256 * t377))) else (laws_FnCovers.j0 k l0 (t397 != 0) t374 t375 t376 t377 t382 t383 (wrap64 (256 * t374)) (wrap64 (256 * t375)) (wrap64 (256 * t376)) (wrap64 (256 * t377)))))))))) = some r := H
  have A4 := Aside0.mk A40
  clear A40
  replace H := Option.bind_eq_some_iff.mp H
  obtain ⟨⟨t388, t391⟩, A50, H⟩ := H
  replace H : ((spec_FlatOf.f k t388 t391).bind fun t394 => ((impl_MaskAt.f k t394 false t382 t383).bind fun t397 => ((spec_InBox.f t374 t375 t376 t377 t382 t383).bind fun t398 => (if (t398 != (t397 == 15)) = true then (laws_FnCovers.j0 k l0 true t374 t375 t376 t377 t382 t383 (wrap64 (256 * t374)) (wrap64 (256 * t375)) (wrap64 (256 * t376)) (wrap64 (256 * t377))) else ((spec_InBox.f t374 t375 t376 t377 t382 t383).bind fun t399 => (if t399 = true then (laws_FnCovers.j0 k l0 false t374 t375 t376 t377 t382 t383 (wrap64 (256 * t374)) (wrap64 (256 * t375)) (wrap64 (256 * t376)) (wrap64 (256 * t377))) else (laws_FnCovers.j0 k l0 (t397 != 0) t374 t375 t376 t377 t382 t383 (wrap64 (256 * t374)) (wrap64 (256 * t375)) (wrap64 (256 * t376)) (wrap64 (256 * t377))))))))) = some r := H
  have A5 := Aside0.mk A50
  clear A50
  replace H := Option.bind_eq_some_iff.mp H
  obtain ⟨t394, A60, H⟩ := H
  replace H : ((impl_MaskAt.f k t394 false t382 t383).bind fun t397 => ((spec_InBox.f t374 t375 t376 t377 t382 t383).bind fun t398 => (if (t398 != (t397 == 15)) = true then (laws_FnCovers.j0 k l0 true t374 t375 t376 t377 t382 t383 (wrap64 (256 * t374)) (wrap64 (256 * t375)) (wrap64 (256 * t376)) (wrap64 (256 * t377))) else ((spec_InBox.f t374 t375 t376 t377 t382 t383).bind fun t399 => (if t399 = true then (laws_FnCovers.j0 k l0 false t374 t375 t376 t377 t382 t383 (wrap64 (256 * t374)) (wrap64 (256 * t375)) (wrap64 (256 * t376)) (wrap64 (256 * t377))) else (laws_FnCovers.j0 k l0 (t397 != 0) t374 t375 t376 t377 t382 t383 (wrap64 (256 * t374)) (wrap64 (256 * t375)) (wrap64 (256 * t376)) (wrap64 (256 * t377)))))))) = some r := H
  have A6 := Aside0.mk A60
  clear A60
  replace H := Option.bind_eq_some_iff.mp H
  obtain ⟨t397, A70, H⟩ := H
  replace H : ((spec_InBox.f t374 t375 t376 t377 t382 t383).bind fun t398 => (if (t398 != (t397 == 15)) = true then (laws_FnCovers.j0 k l0 true t374 t375 t376 t377 t382 t383 (wrap64 (256 * t374)) (wrap64 (256 * t375)) (wrap64 (256 * t376)) (wrap64 (256 * t377))) else ((spec_InBox.f t374 t375 t376 t377 t382 t383).bind fun t399 => (if t399 = true then (laws_FnCovers.j0 k l0 false t374 t375 t376 t377 t382 t383 (wrap64 (256 * t374)) (wrap64 (256 * t375)) (wrap64 (256 * t376)) (wrap64 (256 * t377))) else (laws_FnCovers.j0 k l0 (t397 != 0) t374 t375 t376 t377 t382 t383 (wrap64 (256 * t374)) (wrap64 (256 * t375)) (wrap64 (256 * t376)) (wrap64 (256 * t377))))))) = some r := H
  have A7 := Aside0.mk A70
  clear A70
  have HC8 := Aside0.mk H
  clear H
  go_enter Try.func4, Try.ntmps4
  try go_wp2_with (first | ((with_reducible refine gate_callee (f := 15) rfl ?_); refine goesL_ (some 15) rfl rfl Try.func15 (by kernel_rfl) rfl #[.slice A0 l0.length c0] rfl z12_18 ?_; (with_reducible refine (laws_big.calls _ _ l0 false _ ?side1 ?side2 A2.out).mono ?_); (case side1 => exact z12_40); (case side2 => exact HC0.out); rintro e w' ⟨rfl, ⟨nd, rfl⟩⟩; refine ⟨_, rfl, ?_⟩) | ((with_reducible refine gate_callee (f := 22) rfl ?_); refine goesL_ (some 18) rfl rfl Try.func22 (by kernel_rfl) rfl #[.slice A0 l0.length c0] rfl z12_18 ?_; (with_reducible refine (spec_DrawBoxes.calls k _ _ l0 t374 t375 t376 t377 t378 t379 t380 t381 t382 t383 _ ?side1 ?side2 A4.out).mono ?_); (case side1 => exact z12_40); (case side2 => exact HC0.out); rintro e w9 ⟨rfl, hb⟩; refine ⟨_, rfl, ?_⟩; have n0_ := Aside0.mk (below_step z12_32 hb); clear HB; have HB := n0_; clear n0_; (try clear hb)) | ((with_reducible refine gate_dst (N := 3) rfl ?_); (try (refine gate_guard (by rfl) ?_; dsimp only)); refine boxz (cs := #[.int .i64 0, .int .i64 0, .int .i64 0, .int .i64 0]) (t := 35) rfl ?_; intro gb384 hg w10 hbox hb; have n0_ := Aside0.mk (below_step z12_32 hb); have n1_ := Aside0.mk (hbox); have n2_ := Aside0.mk (ge_go (a := w.heap.size) hg (below_size z12_32)); have n3_ := Aside0.mk (ge_go (a := w.heap.size) hg (below_size z12_32)); clear HB; have HB := n0_; have BK384 := n1_; have GW384 := n2_; have GE384 := n3_; clear n0_ n1_ n2_ n3_; clear hb hbox hg) | ((with_reducible refine gate_dst (N := 4) rfl ?_); (try (refine gate_guard (by rfl) ?_; dsimp only)); refine boxz (cs := #[.int .i64 0, .int .i64 0, .int .i64 0, .int .i64 0]) (t := 35) rfl ?_; intro gb385 hg w11 hbox hb; have n0_ := Aside0.mk (blk_belowB BK384 z12_13 hb); have n1_ := Aside0.mk (below_step z12_38 hb); have n2_ := Aside0.mk (hbox); have n3_ := Aside0.mk (ge_go (a := w.heap.size) hg (below_size z12_38)); have n4_ := Aside0.mk (ge_go (a := w.heap.size) hg (below_size z12_38)); have n5_ := Aside0.mk (nb_lt hg (blk_ltB BK384 z12_13)); have n6_ := Aside0.mk (nb_gt hg (blk_ltB BK384 z12_13)); clear BK384; clear HB; have BK384 := n0_; have HB := n1_; have BK385 := n2_; have GW385 := n3_; have GE385 := n4_; have NB384_385 := n5_; have NB385_384 := n6_; clear n0_ n1_ n2_ n3_ n4_ n5_ n6_; clear hb hbox hg) | ((with_reducible refine gate_dst (N := 5) rfl ?_); (try (refine gate_guard (by rfl) ?_; dsimp only)); refine boxz (cs := #[.int .i64 0, .int .i64 0]) (t := 32) rfl ?_; intro gb386 hg w12 hbox hb; have n0_ := Aside0.mk (blk_belowB BK384 z12_13 hb); have n1_ := Aside0.mk (blk_belowB BK385 z12_15 hb); have n2_ := Aside0.mk (below_step z12_37 hb); have n3_ := Aside0.mk (hbox); have n4_ := Aside0.mk (ge_go (a := w.heap.size) hg (below_size z12_37)); have n5_ := Aside0.mk (ge_go (a := w.heap.size) hg (below_size z12_37)); have n6_ := Aside0.mk (nb_lt hg (blk_ltB BK384 z12_13)); have n7_ := Aside0.mk (nb_gt hg (blk_ltB BK384 z12_13)); have n8_ := Aside0.mk (nb_lt hg (blk_ltB BK385 z12_15)); have n9_ := Aside0.mk (nb_gt hg (blk_ltB BK385 z12_15)); clear BK384; clear BK385; clear HB; have BK384 := n0_; have BK385 := n1_; have HB := n2_; have BK386 := n3_; have GW386 := n4_; have GE386 := n5_; have NB384_386 := n6_; have NB386_384 := n7_; have NB385_386 := n8_; have NB386_385 := n9_; clear n0_ n1_ n2_ n3_ n4_ n5_ n6_ n7_ n8_ n9_; clear hb hbox hg; have hnb13 := NB384_385.out; have hnc13 := NB385_384.out; have hnb14 := NB384_386.out; have hnc14 := NB386_384.out; obtain ⟨_, _, _, _, _, _, _, _⟩ := be_4 BK384.out; have hnb16 := NB385_386.out; have hnc16 := NB386_385.out; obtain ⟨_, _, _, _, _, _, _, _⟩ := be_4 BK385.out; obtain ⟨_, _, _, _⟩ := be_2 BK386.out) | ((with_reducible refine gate_dst (N := 6) rfl ?_); (try (refine gate_guard (by rfl) ?_; dsimp only)); refine boxz (cs := #[.int .i64 0, .int .i64 0, .int .i64 0, .int .i64 0]) (t := 35) rfl ?_; intro gb387 hg w19 hbox hb; have n0_ := Aside0.mk (blk_below (g := gb384) (o := .cells #[.int .i64 t374, .int .i64 t375, .int .i64 t376, .int .i64 t377] 35 (0, 0)) z12_26 hb); have n1_ := Aside0.mk (blk_below (g := gb385) (o := .cells #[.int .i64 t378, .int .i64 t379, .int .i64 t380, .int .i64 t381] 35 (0, 0)) z12_27 hb); have n2_ := Aside0.mk (blk_below (g := gb386) (o := .cells #[.int .i64 t382, .int .i64 t383] 32 (0, 0)) z12_28 hb); have n3_ := Aside0.mk (below_step z12_33 hb); have n4_ := Aside0.mk (hbox); have n5_ := Aside0.mk (ge_go (a := w.heap.size) hg (below_size z12_33)); have n6_ := Aside0.mk (ge_go (a := w.heap.size) hg (below_size z12_33)); have n7_ := Aside0.mk ((by rw [hg]; exact Nat.ne_of_lt (blk_lt (g := gb384) (o := .cells #[.int .i64 t374, .int .i64 t375, .int .i64 t376, .int .i64 t377] 35 (0, 0)) z12_26) : gb384 ≠ gb387)); have n8_ := Aside0.mk ((by rw [hg]; exact Nat.ne_of_gt (blk_lt (g := gb384) (o := .cells #[.int .i64 t374, .int .i64 t375, .int .i64 t376, .int .i64 t377] 35 (0, 0)) z12_26) : gb387 ≠ gb384)); have n9_ := Aside0.mk ((by rw [hg]; exact Nat.ne_of_lt (blk_lt (g := gb385) (o := .cells #[.int .i64 t378, .int .i64 t379, .int .i64 t380, .int .i64 t381] 35 (0, 0)) z12_27) : gb385 ≠ gb387)); have n10_ := Aside0.mk ((by rw [hg]; exact Nat.ne_of_gt (blk_lt (g := gb385) (o := .cells #[.int .i64 t378, .int .i64 t379, .int .i64 t380, .int .i64 t381] 35 (0, 0)) z12_27) : gb387 ≠ gb385)); have n11_ := Aside0.mk ((by rw [hg]; exact Nat.ne_of_lt (blk_lt (g := gb386) (o := .cells #[.int .i64 t382, .int .i64 t383] 32 (0, 0)) z12_28) : gb386 ≠ gb387)); have n12_ := Aside0.mk ((by rw [hg]; exact Nat.ne_of_gt (blk_lt (g := gb386) (o := .cells #[.int .i64 t382, .int .i64 t383] 32 (0, 0)) z12_28) : gb387 ≠ gb386)); clear BK384; clear BK385; clear BK386; clear HB; have BK384 := n0_; have BK385 := n1_; have BK386 := n2_; have HB := n3_; have BK387 := n4_; have GW387 := n5_; have GE387 := n6_; have NB384_387 := n7_; have NB387_384 := n8_; have NB385_387 := n9_; have NB387_385 := n10_; have NB386_387 := n11_; have NB387_386 := n12_; clear n0_ n1_ n2_ n3_ n4_ n5_ n6_ n7_ n8_ n9_ n10_ n11_ n12_; clear hb hbox hg; have hnb20 := NB387_384.out; have hnc20 := NB384_387.out; have hnb21 := NB387_385.out; have hnc21 := NB385_387.out; have hnb22 := NB387_386.out; have hnc22 := NB386_387.out; obtain ⟨_, _, _, _, _, _, _, _⟩ := be_4 BK387.out))
  obtain ⟨w24, hw_⟩ : ∃ w_ : World, w_ = ((((w19.setCell ⟨gb387, 0, none⟩ (.int .i64 (wrap64 (256 * t374)))).setCell ⟨gb387, 1, none⟩ (.int .i64 (wrap64 (256 * t375)))).setCell ⟨gb387, 2, none⟩ (.int .i64 (wrap64 (256 * t376)))).setCell ⟨gb387, 3, none⟩ (.int .i64 (wrap64 (256 * t377)))) := ⟨_, rfl⟩
  have n0_ : Aside0 (w24.heap[gb384]? = some (.cells #[.int .i64 t374, .int .i64 t375, .int .i64 t376, .int .i64 t377] 35 (0, 0))) := ⟨(by rw [hw_]; (with_reducible repeat (first | refine blk_drewN ?_ _ | refine blk_drew ?_ | refine blk_alloc ?_ _)); refine blk_far ?_ NB384_387.out _; (with_reducible repeat (first | refine blk_drewN ?_ _ | refine blk_drew ?_ | refine blk_alloc ?_ _)); refine blk_far ?_ NB384_387.out _; (with_reducible repeat (first | refine blk_drewN ?_ _ | refine blk_drew ?_ | refine blk_alloc ?_ _)); refine blk_far ?_ NB384_387.out _; (with_reducible repeat (first | refine blk_drewN ?_ _ | refine blk_drew ?_ | refine blk_alloc ?_ _)); refine blk_far ?_ NB384_387.out _; (with_reducible repeat (first | refine blk_drewN ?_ _ | refine blk_drew ?_ | refine blk_alloc ?_ _)); exact BK384.out)⟩
  have n1_ : Aside0 (w24.heap[gb385]? = some (.cells #[.int .i64 t378, .int .i64 t379, .int .i64 t380, .int .i64 t381] 35 (0, 0))) := ⟨(by rw [hw_]; (with_reducible repeat (first | refine blk_drewN ?_ _ | refine blk_drew ?_ | refine blk_alloc ?_ _)); refine blk_far ?_ NB385_387.out _; (with_reducible repeat (first | refine blk_drewN ?_ _ | refine blk_drew ?_ | refine blk_alloc ?_ _)); refine blk_far ?_ NB385_387.out _; (with_reducible repeat (first | refine blk_drewN ?_ _ | refine blk_drew ?_ | refine blk_alloc ?_ _)); refine blk_far ?_ NB385_387.out _; (with_reducible repeat (first | refine blk_drewN ?_ _ | refine blk_drew ?_ | refine blk_alloc ?_ _)); refine blk_far ?_ NB385_387.out _; (with_reducible repeat (first | refine blk_drewN ?_ _ | refine blk_drew ?_ | refine blk_alloc ?_ _)); exact BK385.out)⟩
  have n2_ : Aside0 (w24.heap[gb386]? = some (.cells #[.int .i64 t382, .int .i64 t383] 32 (0, 0))) := ⟨(by rw [hw_]; (with_reducible repeat (first | refine blk_drewN ?_ _ | refine blk_drew ?_ | refine blk_alloc ?_ _)); refine blk_far ?_ NB386_387.out _; (with_reducible repeat (first | refine blk_drewN ?_ _ | refine blk_drew ?_ | refine blk_alloc ?_ _)); refine blk_far ?_ NB386_387.out _; (with_reducible repeat (first | refine blk_drewN ?_ _ | refine blk_drew ?_ | refine blk_alloc ?_ _)); refine blk_far ?_ NB386_387.out _; (with_reducible repeat (first | refine blk_drewN ?_ _ | refine blk_drew ?_ | refine blk_alloc ?_ _)); refine blk_far ?_ NB386_387.out _; (with_reducible repeat (first | refine blk_drewN ?_ _ | refine blk_drew ?_ | refine blk_alloc ?_ _)); exact BK386.out)⟩
  have n3_ : Aside0 (w24.heap[gb387]? = some (.cells #[.int .i64 (wrap64 (256 * t374)), .int .i64 (wrap64 (256 * t375)), .int .i64 (wrap64 (256 * t376)), .int .i64 (wrap64 (256 * t377))] 35 (0, 0))) := ⟨(by rw [hw_]; (with_reducible repeat (first | refine blk_drewN ?_ _ | refine blk_drew ?_ | refine blk_alloc ?_ _)); refine blk_put (cs := #[.int .i64 (wrap64 (256 * t374)), .int .i64 (wrap64 (256 * t375)), .int .i64 (wrap64 (256 * t376)), .int .i64 0]) ?_ 3 _ rfl; (with_reducible repeat (first | refine blk_drewN ?_ _ | refine blk_drew ?_ | refine blk_alloc ?_ _)); refine blk_put (cs := #[.int .i64 (wrap64 (256 * t374)), .int .i64 (wrap64 (256 * t375)), .int .i64 0, .int .i64 0]) ?_ 2 _ rfl; (with_reducible repeat (first | refine blk_drewN ?_ _ | refine blk_drew ?_ | refine blk_alloc ?_ _)); refine blk_put (cs := #[.int .i64 (wrap64 (256 * t374)), .int .i64 0, .int .i64 0, .int .i64 0]) ?_ 1 _ rfl; (with_reducible repeat (first | refine blk_drewN ?_ _ | refine blk_drew ?_ | refine blk_alloc ?_ _)); refine blk_put (cs := #[.int .i64 0, .int .i64 0, .int .i64 0, .int .i64 0]) ?_ 0 _ rfl; (with_reducible repeat (first | refine blk_drewN ?_ _ | refine blk_drew ?_ | refine blk_alloc ?_ _)); exact BK387.out)⟩
  have n4_ : Aside0 (Below w.heap.size w w24) := ⟨(by rw [hw_]; repeat (first | (with_reducible first | exact HB.out | apply below_alloc | apply pw_below_drewN | apply below_drew1 | refine below_set ?_ GE384.out | refine below_set ?_ GE385.out | refine below_set ?_ GE386.out | refine below_set ?_ GE387.out) | exact HB.out))⟩
  (try clear BK384); (try clear BK385); (try clear BK386); (try clear BK387); (try clear HB)
  rw [← hw_]; clear hw_; have BK384 := n0_; have BK385 := n1_; have BK386 := n2_; have BK387 := n3_; have HB := n4_; clear n0_ n1_ n2_ n3_ n4_
  have n0_ := Aside0.mk (blk_drew BK384.out)
  have n1_ := Aside0.mk (blk_drew BK385.out)
  have n2_ := Aside0.mk (blk_drew BK386.out)
  have n3_ := Aside0.mk (blk_drew BK387.out)
  have n4_ := Aside0.mk (below_drew1 HB.out)
  clear BK384; clear BK385; clear BK386; clear BK387; clear HB; have BK384 := n0_; have BK385 := n1_; have BK386 := n2_; have BK387 := n3_; have HB := n4_; clear n0_ n1_ n2_ n3_ n4_
  refine start_ (n := 9) (S := fun w' => w'.cell? ⟨gb387, 0, none⟩ = some (.int .i64 (wrap64 (256 * t374))) ∧ w'.cell? ⟨gb387, 1, none⟩ = some (.int .i64 (wrap64 (256 * t375))) ∧ w'.cell? ⟨gb387, 2, none⟩ = some (.int .i64 (wrap64 (256 * t376))) ∧ w'.cell? ⟨gb387, 3, none⟩ = some (.int .i64 (wrap64 (256 * t377))) ∧ w'.cell? ⟨gb386, 0, none⟩ = some (.int .i64 t382) ∧ w'.cell? ⟨gb386, 1, none⟩ = some (.int .i64 t383)) (ds := []) #[false, false, false, false, false, false, false, false, false] (by kernel_rfl) rfl rfl ⟨(blk_cell BK387.out 0).trans rfl, (blk_cell BK387.out 1).trans rfl, (blk_cell BK387.out 2).trans rfl, (blk_cell BK387.out 3).trans rfl, (blk_cell BK386.out 0).trans rfl, (blk_cell BK386.out 1).trans rfl⟩ (fun hHeld => ?_); refine with_tabW laws_FnCovers.tab5 laws_FnCovers.bits5 (fun HT_ HW_ => ?_)
  generalize w24.drew = w25 at BK384 BK385 BK386 BK387 HB hHeld ⊢
  refine pzv (i := 3) (N := 38) (v := ?_) (a' := ?_) #[false, false, false, true, false, false, false, false, false] HT_ ?_ ?_ ?_
  rotate_left
  ·intro w'
   go_simp; with_reducible rfl
  rotate_left
  ·exact x12_put
  refine pzv (i := 5) (N := 40) (v := ?_) (a' := ?_) #[false, false, false, true, false, true, false, false, false] HT_ ?_ ?_ ?_
  rotate_left
  ·intro w'
   go_simp; with_reducible rfl
  rotate_left
  ·exact x12_put
  refine take_ (i := 0) (N := some 35) (v := ?_) (a' := ?_) #[true, false, false, true, false, true, false, false, false] rfl rfl (take_ofW HT_.out HW_.out (by kernel_rfl)) (fun _ _ _ h => h) (Or.inl ⟨by rfl, ?_⟩) hHeld ?_ ?_
  rotate_left
  ·rintro w' ⟨s0, s1, s2, s3, s4, s5⟩
   go_simp; with_reducible rfl
  rotate_left
  ·exact x12_put
  refine take_ (i := 4) (N := some 39) (v := ?_) (a' := ?_) #[true, false, false, true, true, true, false, false, false] rfl rfl (take_ofW HT_.out HW_.out (by kernel_rfl)) (fun _ _ _ h => h) (Or.inl ⟨by rfl, ?_⟩) hHeld ?_ ?_
  rotate_left
  ·rintro w' ⟨s0, s1, s2, s3, s4, s5⟩
   go_simp; with_reducible rfl
  rotate_left
  ·exact x12_put
  refine take_ (i := 6) (N := some 41) (v := ?_) (a' := ?_) #[true, false, false, true, true, true, true, false, false] rfl rfl (take_ofW HT_.out HW_.out (by kernel_rfl)) (fun _ _ _ h => h) (Or.inl ⟨by rfl, ?_⟩) hHeld ?_ ?_
  rotate_left
  ·rintro w' ⟨s0, s1, s2, s3, s4, s5⟩
   go_simp; with_reducible rfl
  rotate_left
  ·exact x12_put
  refine one_ (i := 1) (N := some 36) #[true, true, false, true, true, true, true, false, false] rfl rfl (one_of HT_.out (by kernel_rfl)) (by decide) (fun K hK => ?_)
  refine goes_ Try.func25 (by kernel_rfl) rfl #[.agg #[.int .i64 (wrap64 (256 * t374)), .int .i64 (wrap64 (256 * t375)), .int .i64 (wrap64 (256 * t376)), .int .i64 (wrap64 (256 * t377))]] (by rfl) rfl rfl z12_18 ?_
  with_reducible refine (spec_RectPath.calls (wrap64 (256 * t374)) (wrap64 (256 * t375)) (wrap64 (256 * t376)) (wrap64 (256 * t377)) t388 t391 _ A5.out).mono ?_
  rintro e w26 ⟨v389, v392, rfl, ho0, ho1, hb⟩
  refine ⟨_, rfl, ?_⟩
  have n0_ := Aside0.mk (Kd.R_lower ho0 (below_size z12_12))
  have n1_ := Aside0.mk (Kd.R_lower (Kd.R_newB ho1 (g := gb386) (o := .cells #[.int .i64 t382, .int .i64 t383] 32 (0, 0)) z12_14) (below_size z12_12))
  have n2_ := Aside0.mk (blk_belowB BK384 z12_13 hb)
  have n3_ := Aside0.mk (blk_belowB BK385 z12_15 hb)
  have n4_ := Aside0.mk (blk_belowB BK386 z12_14 hb)
  have n5_ := Aside0.mk (blk_belowB BK387 z12_16 hb)
  have n6_ := Aside0.mk (below_step z12_12 hb)
  clear BK384; clear BK385; clear BK386; clear BK387; clear HB; have HO390 := n0_; have HO393 := n1_; have BK384 := n2_; have BK385 := n3_; have BK386 := n4_; have BK387 := n5_; have HB := n6_; clear n0_ n1_ n2_ n3_ n4_ n5_ n6_; (try clear hb); (try clear hb2); (try clear hk); (try clear hi); (try clear ho0); (try clear ho1)
  obtain ⟨Ao27, co27, eo27⟩ := Kd.R_slice HO390.out
  (first | subst eo27 | (injection eo27 with f1_ f2_ f3_; have f4_ := f1_.symm; have f5_ := f3_.symm; clear f1_ f2_ f3_; subst f4_; subst f5_))
  obtain ⟨Ao28, co28, eo28⟩ := Kd.R_slice HO393.out
  (first | subst eo28 | (injection eo28 with f1_ f2_ f3_; have f4_ := f1_.symm; have f5_ := f3_.symm; clear f1_ f2_ f3_; subst f4_; subst f5_))
  refine hK.out _ _ ⟨(blk_cell BK387.out 0).trans rfl, (blk_cell BK387.out 1).trans rfl, (blk_cell BK387.out 2).trans rfl, (blk_cell BK387.out 3).trans rfl, (blk_cell BK386.out 0).trans rfl, (blk_cell BK386.out 1).trans rfl⟩ (fun hHeld => ?_)
  clear hK K
  refine norm_ (a' := ?_) ?_ ?_
  rotate_left
  ·show Act.put _ (some 36) _ = _
   simp only [Act.put, List.setIfInBounds_toArray, List.set_cons_zero, List.set_cons_succ, i64_w, i32_w]
   rfl
  refine one_ (i := 2) (N := some 37) #[true, true, true, true, true, true, true, false, false] rfl rfl (one_of HT_.out (by kernel_rfl)) (by decide) (fun K hK => ?_)
  refine goes_ Try.func24 (by kernel_rfl) rfl #[.agg #[.slice Ao27 t388.length co27, .slice Ao28 t391.length co28]] (by rfl) rfl rfl z12_18 ?_
  with_reducible refine (spec_FlatOf.calls k _ _ t388 _ _ t391 t394 _ ?side1 ?side2 ?side3 ?side4 A6.out).mono ?_
  (case side1 => repeat (first | exact (Kd.R_reads' HO390.out).2.2 | (with_reducible refine Kd.C_alloc ?_ _) | (with_reducible refine Kd.C_drewN ?_ _) | (with_reducible refine Kd.C_drew ?_)))
  (case side2 => exact (Kd.R_reads' HO390.out).2.1)
  (case side3 => repeat (first | exact (Kd.R_reads' HO393.out).2.2 | (with_reducible refine Kd.C_alloc ?_ _) | (with_reducible refine Kd.C_drewN ?_ _) | (with_reducible refine Kd.C_drew ?_)))
  (case side4 => exact (Kd.R_reads' HO393.out).2.1)
  rintro e w29 ⟨v395, rfl, ho0, hb⟩
  refine ⟨_, rfl, ?_⟩
  have n0_ := Aside0.mk (Kd.R_below z12_30 hb)
  have n1_ := Aside0.mk (Kd.R_below z12_31 hb)
  have n2_ := Aside0.mk (Kd.N_lower (Kd.N_mono (ok' := fun k_ => some k_ ≠ (.slice Ao27 t388.length co27 : Value).ownBlock ∧ some k_ ≠ (.slice Ao28 t391.length co28 : Value).ownBlock ∧ k_ ≠ gb384 ∧ k_ ≠ gb385 ∧ k_ ≠ gb386 ∧ k_ ≠ gb387) (Kd.S_N (Kd.S_bound ho0)) (fun k_ hk_ => ⟨(Kd.fresh' (Kd.R_lt z12_30) k_ hk_.2.1), (Kd.fresh' (Kd.R_lt z12_31) k_ hk_.2.1), (Kd.freshB (g := gb384) (o := .cells #[.int .i64 t374, .int .i64 t375, .int .i64 t376, .int .i64 t377] 35 (0, 0)) z12_13 k_ hk_.2.1), (Kd.freshB (g := gb385) (o := .cells #[.int .i64 t378, .int .i64 t379, .int .i64 t380, .int .i64 t381] 35 (0, 0)) z12_15 k_ hk_.2.1), (Kd.freshB (g := gb386) (o := .cells #[.int .i64 t382, .int .i64 t383] 32 (0, 0)) z12_14 k_ hk_.2.1), (Kd.freshB (g := gb387) (o := .cells #[.int .i64 (wrap64 (256 * t374)), .int .i64 (wrap64 (256 * t375)), .int .i64 (wrap64 (256 * t376)), .int .i64 (wrap64 (256 * t377))] 35 (0, 0)) z12_16 k_ hk_.2.1)⟩)) (below_size z12_12))
  have n3_ := Aside0.mk (blk_belowB BK384 z12_13 hb)
  have n4_ := Aside0.mk (blk_belowB BK385 z12_15 hb)
  have n5_ := Aside0.mk (blk_belowB BK386 z12_14 hb)
  have n6_ := Aside0.mk (blk_belowB BK387 z12_16 hb)
  have n7_ := Aside0.mk (below_step z12_12 hb)
  clear HO390; clear HO393; clear BK384; clear BK385; clear BK386; clear BK387; clear HB; have HO390 := n0_; have HO393 := n1_; have HO396 := n2_; have BK384 := n3_; have BK385 := n4_; have BK386 := n5_; have BK387 := n6_; have HB := n7_; clear n0_ n1_ n2_ n3_ n4_ n5_ n6_ n7_; (try clear hb); (try clear hb2); (try clear hk); (try clear hi); (try clear ho0)
  obtain ⟨Ao30, co30, eo30⟩ := Kd.N_slice HO396.out
  (first | subst eo30 | (injection eo30 with f1_ f2_ f3_; have f4_ := f1_.symm; have f5_ := f3_.symm; clear f1_ f2_ f3_; subst f4_; subst f5_))
  refine hK.out _ _ ⟨(blk_cell BK387.out 0).trans rfl, (blk_cell BK387.out 1).trans rfl, (blk_cell BK387.out 2).trans rfl, (blk_cell BK387.out 3).trans rfl, (blk_cell BK386.out 0).trans rfl, (blk_cell BK386.out 1).trans rfl⟩ (fun hHeld => ?_)
  clear hK K
  refine norm_ (a' := ?_) ?_ ?_
  rotate_left
  ·show Act.put _ (some 37) _ = _
   simp only [Act.put, List.setIfInBounds_toArray, List.set_cons_zero, List.set_cons_succ, i64_w, i32_w]
   rfl
  refine one_ (i := 7) (N := some 42) #[true, true, true, true, true, true, true, true, false] rfl rfl (one_of HT_.out (by kernel_rfl)) (by decide) (fun K hK => ?_)
  refine goes_ Try.func23 (by kernel_rfl) rfl #[.slice Ao30 t394.length co30, .bool false, .int .i64 t382, .int .i64 t383] (by rfl) rfl rfl z12_18 ?_
  with_reducible refine (impl_MaskAt.calls k _ _ t394 false t382 t383 t397 _ ?side1 ?side2 A7.out).mono ?_
  (case side1 => repeat (first | exact (Kd.N_reads' HO396.out).2.2 | (with_reducible refine Kd.C_alloc ?_ _) | (with_reducible refine Kd.C_drewN ?_ _) | (with_reducible refine Kd.C_drew ?_)))
  (case side2 => exact (Kd.N_reads' HO396.out).2.1)
  rintro e w31 ⟨rfl, hb⟩
  refine ⟨_, rfl, ?_⟩
  have n0_ := Aside0.mk (Kd.R_below z12_30 hb)
  have n1_ := Aside0.mk (Kd.R_below z12_31 hb)
  have n2_ := Aside0.mk (Kd.N_below z12_34 hb)
  have n3_ := Aside0.mk (blk_belowB BK384 z12_13 hb)
  have n4_ := Aside0.mk (blk_belowB BK385 z12_15 hb)
  have n5_ := Aside0.mk (blk_belowB BK386 z12_14 hb)
  have n6_ := Aside0.mk (blk_belowB BK387 z12_16 hb)
  have n7_ := Aside0.mk (below_step z12_12 hb)
  clear HO390; clear HO393; clear HO396; clear BK384; clear BK385; clear BK386; clear BK387; clear HB; have HO390 := n0_; have HO393 := n1_; have HO396 := n2_; have BK384 := n3_; have BK385 := n4_; have BK386 := n5_; have BK387 := n6_; have HB := n7_; clear n0_ n1_ n2_ n3_ n4_ n5_ n6_ n7_; (try clear hb); (try clear hb2); (try clear hk); (try clear hi)
  refine hK.out _ _ ⟨(blk_cell BK387.out 0).trans rfl, (blk_cell BK387.out 1).trans rfl, (blk_cell BK387.out 2).trans rfl, (blk_cell BK387.out 3).trans rfl, (blk_cell BK386.out 0).trans rfl, (blk_cell BK386.out 1).trans rfl⟩ (fun hHeld => ?_)
  clear hK K
  refine norm_ (a' := ?_) ?_ ?_
  rotate_left
  ·show Act.put _ (some 42) _ = _
   simp only [Act.put, List.setIfInBounds_toArray, List.set_cons_zero, List.set_cons_succ, i64_w, i32_w]
   rfl
  refine pzv (i := 8) (N := 7) (v := ?_) (a' := ?_) #[true, true, true, true, true, true, true, true, true] HT_ ?_ ?_ ?_
  rotate_left
  ·intro w'
   go_simp; with_reducible rfl
  rotate_left
  ·exact x12_put
  refine done_ (done_of HT_.out (by kernel_rfl)) ?_
  go_upto_region 6 with (fail)
  go_cut [58] (fun v58 wc => ∃ (kq : Nat) (x58_7 : Bool), v58 = .bool x58_7 ∧ Aside0 (laws_FnCovers.j0 kq l0 x58_7 t374 t375 t376 t377 t382 t383 (wrap64 (256 * t374)) (wrap64 (256 * t375)) (wrap64 (256 * t376)) (wrap64 (256 * t377)) = some r) ∧ Aside0 (kq ≤ k) ∧ Aside0 (wc.heap[gb384]? = some (.cells #[.int .i64 t374, .int .i64 t375, .int .i64 t376, .int .i64 t377] 35 (0, 0))) ∧ Aside0 (wc.heap[gb385]? = some (.cells #[.int .i64 t378, .int .i64 t379, .int .i64 t380, .int .i64 t381] 35 (0, 0))) ∧ Aside0 (wc.heap[gb386]? = some (.cells #[.int .i64 t382, .int .i64 t383] 32 (0, 0))) ∧ Aside0 (wc.heap[gb387]? = some (.cells #[.int .i64 (wrap64 (256 * t374)), .int .i64 (wrap64 (256 * t375)), .int .i64 (wrap64 (256 * t376)), .int .i64 (wrap64 (256 * t377))] 35 (0, 0))) ∧ Aside0 (Below w.heap.size w wc))
  case first =>
   have H := HC8.out; clear HC8
   replace H := Option.bind_eq_some_iff.mp H
   obtain ⟨t398, A320, H⟩ := H
   replace H : (if (t398 != (t397 == 15)) = true then (laws_FnCovers.j0 k l0 true t374 t375 t376 t377 t382 t383 (wrap64 (256 * t374)) (wrap64 (256 * t375)) (wrap64 (256 * t376)) (wrap64 (256 * t377))) else ((spec_InBox.f t374 t375 t376 t377 t382 t383).bind fun t399 => (if t399 = true then (laws_FnCovers.j0 k l0 false t374 t375 t376 t377 t382 t383 (wrap64 (256 * t374)) (wrap64 (256 * t375)) (wrap64 (256 * t376)) (wrap64 (256 * t377))) else (laws_FnCovers.j0 k l0 (t397 != 0) t374 t375 t376 t377 t382 t383 (wrap64 (256 * t374)) (wrap64 (256 * t375)) (wrap64 (256 * t376)) (wrap64 (256 * t377)))))) = some r := H
   have A32 := Aside0.mk A320
   clear A320
   by_cases c33 : (t398 != (t397 == 15)) = true
   ·rw [if_pos c33] at H
    have c33b0 : (t398 != (t397 == 15)) = true := c33
    (try (have c33b1 : decide (t398 = (t397 == 15)) = false := by simpa using c33))
    (try (have c33b2 : (t398 == (t397 == 15)) = false := by simpa using c33))
    (try (have c33b3 : ¬ (t398 = (t397 == 15)) := by simpa using c33))
    clear c33
    (first | rw [c33b0] | (simp only [i64_w, i32_w]; rw [c33b0]) | skip)
    exact absurd (show r = false from by cases k with | zero => exact absurd H (by simp [laws_FnCovers.j0]) | succ k_ => simp only [laws_FnCovers.j0, if_true] at H; exact (Option.some.inj H).symm) (by rw [hT]; simp)
   ·rw [if_neg c33] at H
    have c33b0 : (t398 != (t397 == 15)) = false := by simpa using c33
    (try (have c33b1 : decide (t398 = (t397 == 15)) = true := by simpa using c33))
    (try (have c33b2 : (t398 == (t397 == 15)) = true := by simpa using c33))
    clear c33
    (first | rw [c33b0] | (simp only [i64_w, i32_w]; rw [c33b0]) | skip)
    replace H := Option.bind_eq_some_iff.mp H
    obtain ⟨t399, A340, H⟩ := H
    replace H : (if t399 = true then (laws_FnCovers.j0 k l0 false t374 t375 t376 t377 t382 t383 (wrap64 (256 * t374)) (wrap64 (256 * t375)) (wrap64 (256 * t376)) (wrap64 (256 * t377))) else (laws_FnCovers.j0 k l0 (t397 != 0) t374 t375 t376 t377 t382 t383 (wrap64 (256 * t374)) (wrap64 (256 * t375)) (wrap64 (256 * t376)) (wrap64 (256 * t377)))) = some r := H
    have A34 := Aside0.mk A340
    clear A340
    by_cases c35 : t399 = true
    ·subst c35
     have H1 : (laws_FnCovers.j0 k l0 false t374 t375 t376 t377 t382 t383 (wrap64 (256 * t374)) (wrap64 (256 * t375)) (wrap64 (256 * t376)) (wrap64 (256 * t377))) = some r := by rw [if_pos rfl] at H; exact H
     clear H; have H := H1; clear H1
     have H' := Aside0.mk H
     clear H; have hnb36 := NB384_385.out; have hnc36 := NB385_384.out; have hnb37 := NB384_386.out; have hnc37 := NB386_384.out; have hnb38 := NB384_387.out; have hnc38 := NB387_384.out
     obtain ⟨_, _, _, _, _, _, _, _⟩ := be_4 BK384.out
     have hnb40 := NB386_385.out; have hnc40 := NB385_386.out; have hnb41 := NB386_387.out; have hnc41 := NB387_386.out
     obtain ⟨_, _, _, _⟩ := be_2 BK386.out
     go_wp2_with (first | ((with_reducible refine gate_callee (f := 26) rfl ?_); refine goesL_ (some 45) rfl rfl Try.func26 (by kernel_rfl) rfl #[.agg #[.int .i64 t374, .int .i64 t375, .int .i64 t376, .int .i64 t377], .agg #[.int .i64 t382, .int .i64 t383]] rfl z12_18 ?_; (with_reducible refine (spec_InBox.calls t374 t375 t376 t377 t382 t383 t398 _ A32.out).mono ?_); rintro e w43 ⟨rfl, hb⟩; refine ⟨_, rfl, ?_⟩; have n0_ := Aside0.mk (Kd.R_below z12_30 hb); have n1_ := Aside0.mk (Kd.R_below z12_31 hb); have n2_ := Aside0.mk (Kd.N_below z12_34 hb); have n3_ := Aside0.mk (blk_belowB BK384 z12_13 hb); have n4_ := Aside0.mk (blk_belowB BK385 z12_15 hb); have n5_ := Aside0.mk (blk_belowB BK386 z12_14 hb); have n6_ := Aside0.mk (blk_belowB BK387 z12_16 hb); have n7_ := Aside0.mk (below_step z12_12 hb); clear HO390; clear HO393; clear HO396; clear BK384; clear BK385; clear BK386; clear BK387; clear HB; have HO390 := n0_; have HO393 := n1_; have HO396 := n2_; have BK384 := n3_; have BK385 := n4_; have BK386 := n5_; have BK387 := n6_; have HB := n7_; clear n0_ n1_ n2_ n3_ n4_ n5_ n6_ n7_; (try clear hb); obtain ⟨_, _, _, _, _, _, _, _⟩ := be_4 BK384.out; obtain ⟨_, _, _, _⟩ := be_2 BK386.out) | (go_at_call 26; (with_reducible refine (spec_InBox.calls t374 t375 t376 t377 t382 t383 true _ A34.out).mono ?_); rintro e w46 ⟨rfl, hb⟩; have n0_ := Aside0.mk (Kd.R_below z12_30 hb); have n1_ := Aside0.mk (Kd.R_below z12_31 hb); have n2_ := Aside0.mk (Kd.N_below z12_34 hb); have n3_ := Aside0.mk (blk_belowB BK384 z12_13 hb); have n4_ := Aside0.mk (blk_belowB BK385 z12_15 hb); have n5_ := Aside0.mk (blk_belowB BK386 z12_14 hb); have n6_ := Aside0.mk (blk_belowB BK387 z12_16 hb); have n7_ := Aside0.mk (below_step z12_12 hb); clear HO390; clear HO393; clear HO396; clear BK384; clear BK385; clear BK386; clear BK387; clear HB; have HO390 := n0_; have HO393 := n1_; have HO396 := n2_; have BK384 := n3_; have BK385 := n4_; have BK386 := n5_; have BK387 := n6_; have HB := n7_; clear n0_ n1_ n2_ n3_ n4_ n5_ n6_ n7_; (try clear hb)))
     go_meet
     case rel => exact ⟨_, (false), (by first | rfl | (simp; done) | (simp [*]; done)), H', ⟨by first | omega | exact Nat.le_refl _⟩, ⟨by (with_reducible repeat (first | refine blk_drewN ?_ _ | refine blk_drew ?_ | refine blk_alloc ?_ _)); exact BK384.out⟩, ⟨by (with_reducible repeat (first | refine blk_drewN ?_ _ | refine blk_drew ?_ | refine blk_alloc ?_ _)); exact BK385.out⟩, ⟨by (with_reducible repeat (first | refine blk_drewN ?_ _ | refine blk_drew ?_ | refine blk_alloc ?_ _)); exact BK386.out⟩, ⟨by (with_reducible repeat (first | refine blk_drewN ?_ _ | refine blk_drew ?_ | refine blk_alloc ?_ _)); exact BK387.out⟩, ⟨by repeat (first | (with_reducible first | exact HB.out | apply below_alloc | apply pw_below_drewN | apply below_drew1 | refine below_set ?_ GE384.out | refine below_set ?_ GE385.out | refine below_set ?_ GE386.out | refine below_set ?_ GE387.out) | exact HB.out)⟩⟩
    ·replace c35 := Bool.eq_false_iff.mpr c35
     subst c35
     have H1 : (laws_FnCovers.j0 k l0 (t397 != 0) t374 t375 t376 t377 t382 t383 (wrap64 (256 * t374)) (wrap64 (256 * t375)) (wrap64 (256 * t376)) (wrap64 (256 * t377))) = some r := by rw [if_neg (show ¬ (false = true) by decide)] at H; exact H
     clear H; have H := H1; clear H1
     have H' := Aside0.mk H
     clear H; have hnb47 := NB384_385.out; have hnc47 := NB385_384.out; have hnb48 := NB384_386.out; have hnc48 := NB386_384.out; have hnb49 := NB384_387.out; have hnc49 := NB387_384.out
     obtain ⟨_, _, _, _, _, _, _, _⟩ := be_4 BK384.out
     have hnb51 := NB386_385.out; have hnc51 := NB385_386.out; have hnb52 := NB386_387.out; have hnc52 := NB387_386.out
     obtain ⟨_, _, _, _⟩ := be_2 BK386.out
     go_wp2_with (first | ((with_reducible refine gate_callee (f := 26) rfl ?_); refine goesL_ (some 45) rfl rfl Try.func26 (by kernel_rfl) rfl #[.agg #[.int .i64 t374, .int .i64 t375, .int .i64 t376, .int .i64 t377], .agg #[.int .i64 t382, .int .i64 t383]] rfl z12_18 ?_; (with_reducible refine (spec_InBox.calls t374 t375 t376 t377 t382 t383 t398 _ A32.out).mono ?_); rintro e w54 ⟨rfl, hb⟩; refine ⟨_, rfl, ?_⟩; have n0_ := Aside0.mk (Kd.R_below z12_30 hb); have n1_ := Aside0.mk (Kd.R_below z12_31 hb); have n2_ := Aside0.mk (Kd.N_below z12_34 hb); have n3_ := Aside0.mk (blk_belowB BK384 z12_13 hb); have n4_ := Aside0.mk (blk_belowB BK385 z12_15 hb); have n5_ := Aside0.mk (blk_belowB BK386 z12_14 hb); have n6_ := Aside0.mk (blk_belowB BK387 z12_16 hb); have n7_ := Aside0.mk (below_step z12_12 hb); clear HO390; clear HO393; clear HO396; clear BK384; clear BK385; clear BK386; clear BK387; clear HB; have HO390 := n0_; have HO393 := n1_; have HO396 := n2_; have BK384 := n3_; have BK385 := n4_; have BK386 := n5_; have BK387 := n6_; have HB := n7_; clear n0_ n1_ n2_ n3_ n4_ n5_ n6_ n7_; (try clear hb); obtain ⟨_, _, _, _, _, _, _, _⟩ := be_4 BK384.out; obtain ⟨_, _, _, _⟩ := be_2 BK386.out) | (go_at_call 26; (with_reducible refine (spec_InBox.calls t374 t375 t376 t377 t382 t383 false _ A34.out).mono ?_); rintro e w57 ⟨rfl, hb⟩; have n0_ := Aside0.mk (Kd.R_below z12_30 hb); have n1_ := Aside0.mk (Kd.R_below z12_31 hb); have n2_ := Aside0.mk (Kd.N_below z12_34 hb); have n3_ := Aside0.mk (blk_belowB BK384 z12_13 hb); have n4_ := Aside0.mk (blk_belowB BK385 z12_15 hb); have n5_ := Aside0.mk (blk_belowB BK386 z12_14 hb); have n6_ := Aside0.mk (blk_belowB BK387 z12_16 hb); have n7_ := Aside0.mk (below_step z12_12 hb); clear HO390; clear HO393; clear HO396; clear BK384; clear BK385; clear BK386; clear BK387; clear HB; have HO390 := n0_; have HO393 := n1_; have HO396 := n2_; have BK384 := n3_; have BK385 := n4_; have BK386 := n5_; have BK387 := n6_; have HB := n7_; clear n0_ n1_ n2_ n3_ n4_ n5_ n6_ n7_; (try clear hb)))
     go_meet
     case rel => exact ⟨_, ((t397 != 0)), (by first | rfl | (simp; done) | (simp [*]; done)), H', ⟨by first | omega | exact Nat.le_refl _⟩, ⟨by (with_reducible repeat (first | refine blk_drewN ?_ _ | refine blk_drew ?_ | refine blk_alloc ?_ _)); exact BK384.out⟩, ⟨by (with_reducible repeat (first | refine blk_drewN ?_ _ | refine blk_drew ?_ | refine blk_alloc ?_ _)); exact BK385.out⟩, ⟨by (with_reducible repeat (first | refine blk_drewN ?_ _ | refine blk_drew ?_ | refine blk_alloc ?_ _)); exact BK386.out⟩, ⟨by (with_reducible repeat (first | refine blk_drewN ?_ _ | refine blk_drew ?_ | refine blk_alloc ?_ _)); exact BK387.out⟩, ⟨by repeat (first | (with_reducible first | exact HB.out | apply below_alloc | apply pw_below_drewN | apply below_drew1 | refine below_set ?_ GE384.out | refine below_set ?_ GE385.out | refine below_set ?_ GE386.out | refine below_set ?_ GE387.out) | exact HB.out)⟩⟩
  case rest =>
   clear HC8; try clear c1
   try clear c2
   try clear p2
   try clear c3
   try clear c4
   try clear c5
   try clear p6
   try clear c13
   try clear c14
   try clear c15
   try clear c16
   try clear c20
   try clear c21
   try clear c22
   try clear c23
   try clear c24
   try clear c25
   try clear c26
   try clear c33
   try clear c33b0
   try clear c33b1
   try clear c33b2
   try clear c35
   try clear c36
   try clear c37
   try clear c38
   try clear c40
   try clear c41
   try clear c47
   try clear c48
   try clear c49
   try clear c51
   try clear c52
   try clear hcz18_0
   try clear hcz18_1
   try clear hcz42_0
   try clear hcz42_1
   try clear hcz45_0
   try clear hcz45_1
   try clear hcz53_0
   try clear hcz53_1
   try clear hcz56_0
   try clear hcz56_1
   try clear hfz18_0
   try clear hfz18_1
   try clear hfz42_0
   try clear hfz42_1
   try clear hfz45_0
   try clear hfz45_1
   try clear hfz53_0
   try clear hfz53_1
   try clear hfz56_0
   try clear hfz56_1
   obtain ⟨kq, x58_7, rfl, HA, HJ7, BK384, BK385, BK386, BK387, HB⟩ := hcut
   cases kq with
   | zero => exact absurd HA.out (by simp [laws_FnCovers.j0])
   | succ kj7 =>
    have H := HA.out; clear HA
    simp only [laws_FnCovers.j0] at H
    by_cases c58 : x58_7 = true
    ·subst c58
     have H1 : (some false) = some r := by rw [if_pos rfl] at H; exact H
     clear H; have H := H1; clear H1
     obtain rfl := Option.some.inj H
     exact absurd hT Bool.false_ne_true
    ·replace c58 := Bool.eq_false_iff.mpr c58
     subst c58
     have H1 : ((spec_Empty.f t374 t375 t376 t377).bind fun t400 => (if t400 = true then (laws_FnCovers.j1 kj7 l0 false t382 t383) else ((spec_RectPath.f (wrap64 (256 * t374)) (wrap64 (256 * t375)) (wrap64 (256 * t376)) (wrap64 (256 * t377))).bind fun bt401 => ((spec_FlatOf.f kj7 bt401.1 bt401.2).bind fun t407 => ((impl_MaskAt.f kj7 t407 true t374 t375).bind fun t410 => (laws_FnCovers.j1 kj7 l0 (t410 != 15) t382 t383)))))) = some r := by rw [if_neg (show ¬ (false = true) by decide)] at H; exact H
     clear H; have H := H1; clear H1
     have HC59 := Aside0.mk H
     clear H
     go_upto_region 8 with (fail)
     go_cut [72] (fun v72 wc => ∃ (kq : Nat) (x72_58 : Bool), v72 = .bool x72_58 ∧ Aside0 (laws_FnCovers.j1 kq l0 x72_58 t382 t383 = some r) ∧ Aside0 (kq ≤ kj7) ∧ Aside0 (wc.heap[gb384]? = some (.cells #[.int .i64 t374, .int .i64 t375, .int .i64 t376, .int .i64 t377] 35 (0, 0))) ∧ Aside0 (wc.heap[gb385]? = some (.cells #[.int .i64 t378, .int .i64 t379, .int .i64 t380, .int .i64 t381] 35 (0, 0))) ∧ Aside0 (wc.heap[gb386]? = some (.cells #[.int .i64 t382, .int .i64 t383] 32 (0, 0))) ∧ Aside0 (wc.heap[gb387]? = some (.cells #[.int .i64 (wrap64 (256 * t374)), .int .i64 (wrap64 (256 * t375)), .int .i64 (wrap64 (256 * t376)), .int .i64 (wrap64 (256 * t377))] 35 (0, 0))) ∧ Aside0 (Below w.heap.size w wc))
     case first =>
      have H := HC59.out; clear HC59
      replace H := Option.bind_eq_some_iff.mp H
      obtain ⟨t400, A600, H⟩ := H
      replace H : (if t400 = true then (laws_FnCovers.j1 kj7 l0 false t382 t383) else ((spec_RectPath.f (wrap64 (256 * t374)) (wrap64 (256 * t375)) (wrap64 (256 * t376)) (wrap64 (256 * t377))).bind fun bt401 => ((spec_FlatOf.f kj7 bt401.1 bt401.2).bind fun t407 => ((impl_MaskAt.f kj7 t407 true t374 t375).bind fun t410 => (laws_FnCovers.j1 kj7 l0 (t410 != 15) t382 t383))))) = some r := H
      have A60 := Aside0.mk A600
      clear A600
      by_cases c61 : t400 = true
      ·subst c61
       have H1 : (laws_FnCovers.j1 kj7 l0 false t382 t383) = some r := by rw [if_pos rfl] at H; exact H
       clear H; have H := H1; clear H1
       have H' := Aside0.mk H
       clear H
       try go_wp2
       have n0_ := Aside0.mk (blk_drew BK384.out)
       have n1_ := Aside0.mk (blk_drew BK385.out)
       have n2_ := Aside0.mk (blk_drew BK386.out)
       have n3_ := Aside0.mk (blk_drew BK387.out)
       have n4_ := Aside0.mk (below_drew1 HB.out)
       clear BK384; clear BK385; clear BK386; clear BK387; clear HB; have BK384 := n0_; have BK385 := n1_; have BK386 := n2_; have BK387 := n3_; have HB := n4_; clear n0_ n1_ n2_ n3_ n4_
       refine start_ (n := 14) (S := fun w' => w'.cell? ⟨gb384, 0, none⟩ = some (.int .i64 t374) ∧ w'.cell? ⟨gb384, 1, none⟩ = some (.int .i64 t375) ∧ w'.cell? ⟨gb384, 2, none⟩ = some (.int .i64 t376) ∧ w'.cell? ⟨gb384, 3, none⟩ = some (.int .i64 t377)) (ds := []) y12_1 (by kernel_rfl) rfl rfl ⟨(blk_cell BK384.out 0).trans rfl, (blk_cell BK384.out 1).trans rfl, (blk_cell BK384.out 2).trans rfl, (blk_cell BK384.out 3).trans rfl⟩ (fun hHeld => ?_); refine with_tabW laws_FnCovers.tab8 laws_FnCovers.bits8 (fun HT_ HW_ => ?_)
       generalize wc.drew = w62 at BK384 BK385 BK386 BK387 HB hHeld ⊢
       refine take_ (i := 0) (N := some 59) (v := ?_) (a' := ?_) y12_6 rfl rfl (take_ofW HT_.out HW_.out (by kernel_rfl)) (fun _ _ _ h => h) (Or.inl ⟨by rfl, ?_⟩) hHeld ?_ ?_
       rotate_left
       ·rintro w' ⟨s0, s1, s2, s3⟩
        go_simp; with_reducible rfl
       rotate_left
       ·exact x12_put
       refine one_ (i := 1) (N := some 60) y12_15 rfl rfl (one_of HT_.out (by kernel_rfl)) (by decide) (fun K hK => ?_)
       refine goes_ Try.func27 (by kernel_rfl) rfl #[.agg #[.int .i64 t374, .int .i64 t375, .int .i64 t376, .int .i64 t377]] (by rfl) rfl rfl z12_18 ?_
       with_reducible refine (spec_Empty.calls t374 t375 t376 t377 true _ A60.out).mono ?_
       rintro e w63 ⟨rfl, hb⟩
       refine ⟨_, rfl, ?_⟩
       have n0_ := Aside0.mk (blk_belowB BK384 z12_13 hb)
       have n1_ := Aside0.mk (blk_belowB BK385 z12_15 hb)
       have n2_ := Aside0.mk (blk_belowB BK386 z12_14 hb)
       have n3_ := Aside0.mk (blk_belowB BK387 z12_16 hb)
       have n4_ := Aside0.mk (below_step z12_12 hb)
       clear BK384; clear BK385; clear BK386; clear BK387; clear HB; have BK384 := n0_; have BK385 := n1_; have BK386 := n2_; have BK387 := n3_; have HB := n4_; clear n0_ n1_ n2_ n3_ n4_; (try clear hb); (try clear hb2); (try clear hk); (try clear hi)
       refine hK.out _ _ ⟨(blk_cell BK384.out 0).trans rfl, (blk_cell BK384.out 1).trans rfl, (blk_cell BK384.out 2).trans rfl, (blk_cell BK384.out 3).trans rfl⟩ (fun hHeld => ?_)
       clear hK K
       refine norm_ (a' := ?_) ?_ ?_
       rotate_left
       ·show Act.put _ (some 60) _ = _
        simp only [Act.put, List.setIfInBounds_toArray, List.set_cons_zero, List.set_cons_succ, i64_w, i32_w]
        rfl
       refine pzv (i := 2) (N := 61) (v := ?_) (a' := ?_) y12_20 HT_ ?_ ?_ ?_
       rotate_left
       ·intro w'
        go_simp; with_reducible rfl
       rotate_left
       ·exact x12_put
       refine pzv (i := 3) (N := 62) (v := ?_) (a' := ?_) y12_22 HT_ ?_ ?_ ?_
       rotate_left
       ·intro w'
        go_simp; with_reducible rfl
       rotate_left
       ·exact x12_put
       refine pzu (i := 4) (N := 63) (a' := ?_) #[true, true, true, true, true, false, false, false, false, false, false, false, false, false] HT_ ?_ ?_
       rotate_left
       ·exact x12_put
       refine pzu (i := 5) (N := 64) (a' := ?_) #[true, true, true, true, true, true, false, false, false, false, false, false, false, false] HT_ ?_ ?_
       rotate_left
       ·exact x12_put
       refine pzu (i := 6) (N := 65) (a' := ?_) #[true, true, true, true, true, true, true, false, false, false, false, false, false, false] HT_ ?_ ?_
       rotate_left
       ·exact x12_put
       refine pzu (i := 7) (N := 66) (a' := ?_) #[true, true, true, true, true, true, true, true, false, false, false, false, false, false] HT_ ?_ ?_
       rotate_left
       ·exact x12_put
       refine pzu (i := 8) (N := 67) (a' := ?_) y12_41 HT_ ?_ ?_
       rotate_left
       ·exact x12_put
       refine pzu (i := 9) (N := 68) (a' := ?_) y12_43 HT_ ?_ ?_
       rotate_left
       ·exact x12_put
       refine pzu (i := 10) (N := 69) (a' := ?_) y12_45 HT_ ?_ ?_
       rotate_left
       ·exact x12_put
       refine pzu (i := 11) (N := 70) (a' := ?_) y12_47 HT_ ?_ ?_
       rotate_left
       ·exact x12_put
       refine pzu (i := 12) (N := 71) (a' := ?_) y12_49 HT_ ?_ ?_
       rotate_left
       ·exact x12_put
       refine pzv (i := 13) (N := 72) (v := ?_) (a' := ?_) y12_52 HT_ ?_ ?_ ?_
       rotate_left
       ·intro w'
        go_simp; with_reducible rfl
       rotate_left
       ·exact x12_put
       refine done_ (done_of HT_.out (by kernel_rfl)) ?_
       try go_wp2
       go_meet
       case rel => exact ⟨_, (false), (by first | rfl | (simp; done) | (simp [*]; done)), H', ⟨by have := HJ7.out; first | omega | exact Nat.le_refl _⟩, ⟨by (with_reducible repeat (first | refine blk_drewN ?_ _ | refine blk_drew ?_ | refine blk_alloc ?_ _)); exact BK384.out⟩, ⟨by (with_reducible repeat (first | refine blk_drewN ?_ _ | refine blk_drew ?_ | refine blk_alloc ?_ _)); exact BK385.out⟩, ⟨by (with_reducible repeat (first | refine blk_drewN ?_ _ | refine blk_drew ?_ | refine blk_alloc ?_ _)); exact BK386.out⟩, ⟨by (with_reducible repeat (first | refine blk_drewN ?_ _ | refine blk_drew ?_ | refine blk_alloc ?_ _)); exact BK387.out⟩, ⟨by repeat (first | (with_reducible first | exact HB.out | apply below_alloc | apply pw_below_drewN | apply below_drew1 | refine below_set ?_ GE384.out | refine below_set ?_ GE385.out | refine below_set ?_ GE386.out | refine below_set ?_ GE387.out) | exact HB.out)⟩⟩
      ·replace c61 := Bool.eq_false_iff.mpr c61
       subst c61
       have H1 : ((spec_RectPath.f (wrap64 (256 * t374)) (wrap64 (256 * t375)) (wrap64 (256 * t376)) (wrap64 (256 * t377))).bind fun bt401 => ((spec_FlatOf.f kj7 bt401.1 bt401.2).bind fun t407 => ((impl_MaskAt.f kj7 t407 true t374 t375).bind fun t410 => (laws_FnCovers.j1 kj7 l0 (t410 != 15) t382 t383)))) = some r := by rw [if_neg (show ¬ (false = true) by decide)] at H; exact H
       clear H; have H := H1; clear H1
       replace H := Option.bind_eq_some_iff.mp H
       obtain ⟨⟨t401, t404⟩, A640, H⟩ := H
       replace H : ((spec_FlatOf.f kj7 t401 t404).bind fun t407 => ((impl_MaskAt.f kj7 t407 true t374 t375).bind fun t410 => (laws_FnCovers.j1 kj7 l0 (t410 != 15) t382 t383))) = some r := H
       have A64 := Aside0.mk A640
       clear A640
       replace H := Option.bind_eq_some_iff.mp H
       obtain ⟨t407, A650, H⟩ := H
       replace H : ((impl_MaskAt.f kj7 t407 true t374 t375).bind fun t410 => (laws_FnCovers.j1 kj7 l0 (t410 != 15) t382 t383)) = some r := H
       have A65 := Aside0.mk A650
       clear A650
       replace H := Option.bind_eq_some_iff.mp H
       obtain ⟨t410, A660, H⟩ := H
       replace H : (laws_FnCovers.j1 kj7 l0 (t410 != 15) t382 t383) = some r := H
       have A66 := Aside0.mk A660
       clear A660
       have H' := Aside0.mk H
       clear H
       try go_wp2
       have n0_ := Aside0.mk (blk_drew BK384.out)
       have n1_ := Aside0.mk (blk_drew BK385.out)
       have n2_ := Aside0.mk (blk_drew BK386.out)
       have n3_ := Aside0.mk (blk_drew BK387.out)
       have n4_ := Aside0.mk (below_drew1 HB.out)
       clear BK384; clear BK385; clear BK386; clear BK387; clear HB; have BK384 := n0_; have BK385 := n1_; have BK386 := n2_; have BK387 := n3_; have HB := n4_; clear n0_ n1_ n2_ n3_ n4_
       refine start_ (n := 14) (S := fun w' => w'.cell? ⟨gb384, 0, none⟩ = some (.int .i64 t374) ∧ w'.cell? ⟨gb384, 1, none⟩ = some (.int .i64 t375) ∧ w'.cell? ⟨gb384, 2, none⟩ = some (.int .i64 t376) ∧ w'.cell? ⟨gb384, 3, none⟩ = some (.int .i64 t377) ∧ w'.cell? ⟨gb387, 0, none⟩ = some (.int .i64 (wrap64 (256 * t374))) ∧ w'.cell? ⟨gb387, 1, none⟩ = some (.int .i64 (wrap64 (256 * t375))) ∧ w'.cell? ⟨gb387, 2, none⟩ = some (.int .i64 (wrap64 (256 * t376))) ∧ w'.cell? ⟨gb387, 3, none⟩ = some (.int .i64 (wrap64 (256 * t377)))) (ds := []) y12_1 (by kernel_rfl) rfl rfl ⟨(blk_cell BK384.out 0).trans rfl, (blk_cell BK384.out 1).trans rfl, (blk_cell BK384.out 2).trans rfl, (blk_cell BK384.out 3).trans rfl, (blk_cell BK387.out 0).trans rfl, (blk_cell BK387.out 1).trans rfl, (blk_cell BK387.out 2).trans rfl, (blk_cell BK387.out 3).trans rfl⟩ (fun hHeld => ?_); refine with_tabW laws_FnCovers.tab8 laws_FnCovers.bits8 (fun HT_ HW_ => ?_)
       generalize wc.drew = w67 at BK384 BK385 BK386 BK387 HB hHeld ⊢
       refine take_ (i := 0) (N := some 59) (v := ?_) (a' := ?_) y12_6 rfl rfl (take_ofW HT_.out HW_.out (by kernel_rfl)) (fun _ _ _ h => h) (Or.inl ⟨by rfl, ?_⟩) hHeld ?_ ?_
       rotate_left
       ·rintro w' ⟨s0, s1, s2, s3, s4, s5, s6, s7⟩
        go_simp; with_reducible rfl
       rotate_left
       ·exact x12_put
       refine one_ (i := 1) (N := some 60) y12_15 rfl rfl (one_of HT_.out (by kernel_rfl)) (by decide) (fun K hK => ?_)
       refine goes_ Try.func27 (by kernel_rfl) rfl #[.agg #[.int .i64 t374, .int .i64 t375, .int .i64 t376, .int .i64 t377]] (by rfl) rfl rfl z12_18 ?_
       with_reducible refine (spec_Empty.calls t374 t375 t376 t377 false _ A60.out).mono ?_
       rintro e w68 ⟨rfl, hb⟩
       refine ⟨_, rfl, ?_⟩
       have n0_ := Aside0.mk (blk_belowB BK384 z12_13 hb)
       have n1_ := Aside0.mk (blk_belowB BK385 z12_15 hb)
       have n2_ := Aside0.mk (blk_belowB BK386 z12_14 hb)
       have n3_ := Aside0.mk (blk_belowB BK387 z12_16 hb)
       have n4_ := Aside0.mk (below_step z12_12 hb)
       clear BK384; clear BK385; clear BK386; clear BK387; clear HB; have BK384 := n0_; have BK385 := n1_; have BK386 := n2_; have BK387 := n3_; have HB := n4_; clear n0_ n1_ n2_ n3_ n4_; (try clear hb); (try clear hb2); (try clear hk); (try clear hi)
       refine hK.out _ _ ⟨(blk_cell BK384.out 0).trans rfl, (blk_cell BK384.out 1).trans rfl, (blk_cell BK384.out 2).trans rfl, (blk_cell BK384.out 3).trans rfl, (blk_cell BK387.out 0).trans rfl, (blk_cell BK387.out 1).trans rfl, (blk_cell BK387.out 2).trans rfl, (blk_cell BK387.out 3).trans rfl⟩ (fun hHeld => ?_)
       clear hK K
       refine norm_ (a' := ?_) ?_ ?_
       rotate_left
       ·show Act.put _ (some 60) _ = _
        simp only [Act.put, List.setIfInBounds_toArray, List.set_cons_zero, List.set_cons_succ, i64_w, i32_w]
        rfl
       refine pzv (i := 2) (N := 61) (v := ?_) (a' := ?_) y12_20 HT_ ?_ ?_ ?_
       rotate_left
       ·intro w'
        go_simp; with_reducible rfl
       rotate_left
       ·exact x12_put
       refine pzv (i := 3) (N := 62) (v := ?_) (a' := ?_) y12_22 HT_ ?_ ?_ ?_
       rotate_left
       ·intro w'
        go_simp; with_reducible rfl
       rotate_left
       ·exact x12_put
       refine pzv (i := 7) (N := 66) (v := ?_) (a' := ?_) #[true, true, true, true, false, false, false, true, false, false, false, false, false, false] HT_ ?_ ?_ ?_
       rotate_left
       ·intro w'
        go_simp; with_reducible rfl
       rotate_left
       ·exact x12_put
       refine pzv (i := 9) (N := 68) (v := ?_) (a' := ?_) #[true, true, true, true, false, false, false, true, false, true, false, false, false, false] HT_ ?_ ?_ ?_
       rotate_left
       ·intro w'
        go_simp; with_reducible rfl
       rotate_left
       ·exact x12_put
       refine take_ (i := 4) (N := some 63) (v := ?_) (a' := ?_) #[true, true, true, true, true, false, false, true, false, true, false, false, false, false] rfl rfl (take_ofW HT_.out HW_.out (by kernel_rfl)) (fun _ _ _ h => h) (Or.inl ⟨by rfl, ?_⟩) hHeld ?_ ?_
       rotate_left
       ·rintro w' ⟨s0, s1, s2, s3, s4, s5, s6, s7⟩
        go_simp; with_reducible rfl
       rotate_left
       ·exact x12_put
       refine take_ (i := 8) (N := some 67) (v := ?_) (a' := ?_) #[true, true, true, true, true, false, false, true, true, true, false, false, false, false] rfl rfl (take_ofW HT_.out HW_.out (by kernel_rfl)) (fun _ _ _ h => h) (Or.inl ⟨by rfl, ?_⟩) hHeld ?_ ?_
       rotate_left
       ·rintro w' ⟨s0, s1, s2, s3, s4, s5, s6, s7⟩
        go_simp; with_reducible rfl
       rotate_left
       ·exact x12_put
       refine take_ (i := 10) (N := some 69) (v := ?_) (a' := ?_) #[true, true, true, true, true, false, false, true, true, true, true, false, false, false] rfl rfl (take_ofW HT_.out HW_.out (by kernel_rfl)) (fun _ _ _ h => h) (Or.inl ⟨by rfl, ?_⟩) hHeld ?_ ?_
       rotate_left
       ·rintro w' ⟨s0, s1, s2, s3, s4, s5, s6, s7⟩
        go_simp; with_reducible rfl
       rotate_left
       ·exact x12_put
       refine one_ (i := 5) (N := some 64) #[true, true, true, true, true, true, false, true, true, true, true, false, false, false] rfl rfl (one_of HT_.out (by kernel_rfl)) (by decide) (fun K hK => ?_)
       refine goes_ Try.func25 (by kernel_rfl) rfl #[.agg #[.int .i64 (wrap64 (256 * t374)), .int .i64 (wrap64 (256 * t375)), .int .i64 (wrap64 (256 * t376)), .int .i64 (wrap64 (256 * t377))]] (by rfl) rfl rfl z12_18 ?_
       with_reducible refine (spec_RectPath.calls (wrap64 (256 * t374)) (wrap64 (256 * t375)) (wrap64 (256 * t376)) (wrap64 (256 * t377)) t401 t404 _ A64.out).mono ?_
       rintro e w69 ⟨v402, v405, rfl, ho0, ho1, hb⟩
       refine ⟨_, rfl, ?_⟩
       have n0_ := Aside0.mk (Kd.R_lower ho0 (below_size z12_12))
       have n1_ := Aside0.mk (Kd.R_lower (Kd.R_newB ho1 (g := gb386) (o := .cells #[.int .i64 t382, .int .i64 t383] 32 (0, 0)) z12_14) (below_size z12_12))
       have n2_ := Aside0.mk (blk_belowB BK384 z12_13 hb)
       have n3_ := Aside0.mk (blk_belowB BK385 z12_15 hb)
       have n4_ := Aside0.mk (blk_belowB BK386 z12_14 hb)
       have n5_ := Aside0.mk (blk_belowB BK387 z12_16 hb)
       have n6_ := Aside0.mk (below_step z12_12 hb)
       clear BK384; clear BK385; clear BK386; clear BK387; clear HB; have HO403 := n0_; have HO406 := n1_; have BK384 := n2_; have BK385 := n3_; have BK386 := n4_; have BK387 := n5_; have HB := n6_; clear n0_ n1_ n2_ n3_ n4_ n5_ n6_; (try clear hb); (try clear hb2); (try clear hk); (try clear hi); (try clear ho0); (try clear ho1)
       obtain ⟨Ao70, co70, eo70⟩ := Kd.R_slice HO403.out
       (first | subst eo70 | (injection eo70 with f1_ f2_ f3_; have f4_ := f1_.symm; have f5_ := f3_.symm; clear f1_ f2_ f3_; subst f4_; subst f5_))
       obtain ⟨Ao71, co71, eo71⟩ := Kd.R_slice HO406.out
       (first | subst eo71 | (injection eo71 with f1_ f2_ f3_; have f4_ := f1_.symm; have f5_ := f3_.symm; clear f1_ f2_ f3_; subst f4_; subst f5_))
       refine hK.out _ _ ⟨(blk_cell BK384.out 0).trans rfl, (blk_cell BK384.out 1).trans rfl, (blk_cell BK384.out 2).trans rfl, (blk_cell BK384.out 3).trans rfl, (blk_cell BK387.out 0).trans rfl, (blk_cell BK387.out 1).trans rfl, (blk_cell BK387.out 2).trans rfl, (blk_cell BK387.out 3).trans rfl⟩ (fun hHeld => ?_)
       clear hK K
       refine norm_ (a' := ?_) ?_ ?_
       rotate_left
       ·show Act.put _ (some 64) _ = _
        simp only [Act.put, List.setIfInBounds_toArray, List.set_cons_zero, List.set_cons_succ, i64_w, i32_w]
        rfl
       refine one_ (i := 6) (N := some 65) y12_45 rfl rfl (one_of HT_.out (by kernel_rfl)) (by decide) (fun K hK => ?_)
       refine goes_ Try.func24 (by kernel_rfl) rfl #[.agg #[.slice Ao70 t401.length co70, .slice Ao71 t404.length co71]] (by rfl) rfl rfl z12_18 ?_
       with_reducible refine (spec_FlatOf.calls kj7 _ _ t401 _ _ t404 t407 _ ?side1 ?side2 ?side3 ?side4 A65.out).mono ?_
       (case side1 => repeat (first | exact (Kd.R_reads' HO403.out).2.2 | (with_reducible refine Kd.C_alloc ?_ _) | (with_reducible refine Kd.C_drewN ?_ _) | (with_reducible refine Kd.C_drew ?_)))
       (case side2 => exact (Kd.R_reads' HO403.out).2.1)
       (case side3 => repeat (first | exact (Kd.R_reads' HO406.out).2.2 | (with_reducible refine Kd.C_alloc ?_ _) | (with_reducible refine Kd.C_drewN ?_ _) | (with_reducible refine Kd.C_drew ?_)))
       (case side4 => exact (Kd.R_reads' HO406.out).2.1)
       rintro e w72 ⟨v408, rfl, ho0, hb⟩
       refine ⟨_, rfl, ?_⟩
       have n0_ := Aside0.mk (Kd.R_below z12_41 hb)
       have n1_ := Aside0.mk (Kd.R_below z12_42 hb)
       have n2_ := Aside0.mk (Kd.N_lower (Kd.N_mono (ok' := fun k_ => some k_ ≠ (.slice Ao70 t401.length co70 : Value).ownBlock ∧ some k_ ≠ (.slice Ao71 t404.length co71 : Value).ownBlock ∧ k_ ≠ gb384 ∧ k_ ≠ gb385 ∧ k_ ≠ gb386 ∧ k_ ≠ gb387) (Kd.S_N (Kd.S_bound ho0)) (fun k_ hk_ => ⟨(Kd.fresh' (Kd.R_lt z12_41) k_ hk_.2.1), (Kd.fresh' (Kd.R_lt z12_42) k_ hk_.2.1), (Kd.freshB (g := gb384) (o := .cells #[.int .i64 t374, .int .i64 t375, .int .i64 t376, .int .i64 t377] 35 (0, 0)) z12_13 k_ hk_.2.1), (Kd.freshB (g := gb385) (o := .cells #[.int .i64 t378, .int .i64 t379, .int .i64 t380, .int .i64 t381] 35 (0, 0)) z12_15 k_ hk_.2.1), (Kd.freshB (g := gb386) (o := .cells #[.int .i64 t382, .int .i64 t383] 32 (0, 0)) z12_14 k_ hk_.2.1), (Kd.freshB (g := gb387) (o := .cells #[.int .i64 (wrap64 (256 * t374)), .int .i64 (wrap64 (256 * t375)), .int .i64 (wrap64 (256 * t376)), .int .i64 (wrap64 (256 * t377))] 35 (0, 0)) z12_16 k_ hk_.2.1)⟩)) (below_size z12_12))
       have n3_ := Aside0.mk (blk_belowB BK384 z12_13 hb)
       have n4_ := Aside0.mk (blk_belowB BK385 z12_15 hb)
       have n5_ := Aside0.mk (blk_belowB BK386 z12_14 hb)
       have n6_ := Aside0.mk (blk_belowB BK387 z12_16 hb)
       have n7_ := Aside0.mk (below_step z12_12 hb)
       clear HO403; clear HO406; clear BK384; clear BK385; clear BK386; clear BK387; clear HB; have HO403 := n0_; have HO406 := n1_; have HO409 := n2_; have BK384 := n3_; have BK385 := n4_; have BK386 := n5_; have BK387 := n6_; have HB := n7_; clear n0_ n1_ n2_ n3_ n4_ n5_ n6_ n7_; (try clear hb); (try clear hb2); (try clear hk); (try clear hi); (try clear ho0)
       obtain ⟨Ao73, co73, eo73⟩ := Kd.N_slice HO409.out
       (first | subst eo73 | (injection eo73 with f1_ f2_ f3_; have f4_ := f1_.symm; have f5_ := f3_.symm; clear f1_ f2_ f3_; subst f4_; subst f5_))
       refine hK.out _ _ ⟨(blk_cell BK384.out 0).trans rfl, (blk_cell BK384.out 1).trans rfl, (blk_cell BK384.out 2).trans rfl, (blk_cell BK384.out 3).trans rfl, (blk_cell BK387.out 0).trans rfl, (blk_cell BK387.out 1).trans rfl, (blk_cell BK387.out 2).trans rfl, (blk_cell BK387.out 3).trans rfl⟩ (fun hHeld => ?_)
       clear hK K
       refine norm_ (a' := ?_) ?_ ?_
       rotate_left
       ·show Act.put _ (some 65) _ = _
        simp only [Act.put, List.setIfInBounds_toArray, List.set_cons_zero, List.set_cons_succ, i64_w, i32_w]
        rfl
       refine one_ (i := 11) (N := some 70) y12_47 rfl rfl (one_of HT_.out (by kernel_rfl)) (by decide) (fun K hK => ?_)
       refine goes_ Try.func23 (by kernel_rfl) rfl #[.slice Ao73 t407.length co73, .bool true, .int .i64 t374, .int .i64 t375] (by rfl) rfl rfl z12_18 ?_
       with_reducible refine (impl_MaskAt.calls kj7 _ _ t407 true t374 t375 t410 _ ?side1 ?side2 A66.out).mono ?_
       (case side1 => repeat (first | exact (Kd.N_reads' HO409.out).2.2 | (with_reducible refine Kd.C_alloc ?_ _) | (with_reducible refine Kd.C_drewN ?_ _) | (with_reducible refine Kd.C_drew ?_)))
       (case side2 => exact (Kd.N_reads' HO409.out).2.1)
       rintro e w74 ⟨rfl, hb⟩
       refine ⟨_, rfl, ?_⟩
       have n0_ := Aside0.mk (Kd.R_below z12_41 hb)
       have n1_ := Aside0.mk (Kd.R_below z12_42 hb)
       have n2_ := Aside0.mk (Kd.N_below (by (with_reducible repeat (first | apply Kd.N_alloc | apply Kd.N_drewN | apply Kd.N_drew)); exact HO409.out) hb)
       have n3_ := Aside0.mk (blk_belowB BK384 z12_13 hb)
       have n4_ := Aside0.mk (blk_belowB BK385 z12_15 hb)
       have n5_ := Aside0.mk (blk_belowB BK386 z12_14 hb)
       have n6_ := Aside0.mk (blk_belowB BK387 z12_16 hb)
       have n7_ := Aside0.mk (below_step z12_12 hb)
       clear HO403; clear HO406; clear HO409; clear BK384; clear BK385; clear BK386; clear BK387; clear HB; have HO403 := n0_; have HO406 := n1_; have HO409 := n2_; have BK384 := n3_; have BK385 := n4_; have BK386 := n5_; have BK387 := n6_; have HB := n7_; clear n0_ n1_ n2_ n3_ n4_ n5_ n6_ n7_; (try clear hb); (try clear hb2); (try clear hk); (try clear hi)
       refine hK.out _ _ ⟨(blk_cell BK384.out 0).trans rfl, (blk_cell BK384.out 1).trans rfl, (blk_cell BK384.out 2).trans rfl, (blk_cell BK384.out 3).trans rfl, (blk_cell BK387.out 0).trans rfl, (blk_cell BK387.out 1).trans rfl, (blk_cell BK387.out 2).trans rfl, (blk_cell BK387.out 3).trans rfl⟩ (fun hHeld => ?_)
       clear hK K
       refine norm_ (a' := ?_) ?_ ?_
       rotate_left
       ·show Act.put _ (some 70) _ = _
        simp only [Act.put, List.setIfInBounds_toArray, List.set_cons_zero, List.set_cons_succ, i64_w, i32_w]
        rfl
       refine pzv (i := 12) (N := 71) (v := ?_) (a' := ?_) y12_49 HT_ ?_ ?_ ?_
       rotate_left
       ·intro w'
        go_simp; with_reducible rfl
       rotate_left
       ·exact x12_put
       refine pzv (i := 13) (N := 72) (v := ?_) (a' := ?_) y12_52 HT_ ?_ ?_ ?_
       rotate_left
       ·intro w'
        go_simp; with_reducible rfl
       rotate_left
       ·exact x12_put
       refine done_ (done_of HT_.out (by kernel_rfl)) ?_
       try go_wp2
       go_meet
       case rel => exact ⟨_, ((t410 != 15)), (by first | rfl | (simp; done) | (simp [*]; done)), H', ⟨by have := HJ7.out; first | omega | exact Nat.le_refl _⟩, ⟨by (with_reducible repeat (first | refine blk_drewN ?_ _ | refine blk_drew ?_ | refine blk_alloc ?_ _)); exact BK384.out⟩, ⟨by (with_reducible repeat (first | refine blk_drewN ?_ _ | refine blk_drew ?_ | refine blk_alloc ?_ _)); exact BK385.out⟩, ⟨by (with_reducible repeat (first | refine blk_drewN ?_ _ | refine blk_drew ?_ | refine blk_alloc ?_ _)); exact BK386.out⟩, ⟨by (with_reducible repeat (first | refine blk_drewN ?_ _ | refine blk_drew ?_ | refine blk_alloc ?_ _)); exact BK387.out⟩, ⟨by repeat (first | (with_reducible first | exact HB.out | apply below_alloc | apply pw_below_drewN | apply below_drew1 | refine below_set ?_ GE384.out | refine below_set ?_ GE385.out | refine below_set ?_ GE386.out | refine below_set ?_ GE387.out) | exact HB.out)⟩⟩
     case rest =>
      clear HC59; try clear c1
      try clear c2
      try clear p2
      try clear c3
      try clear c4
      try clear c5
      try clear c6
      try clear p6
      try clear c13
      try clear c14
      try clear c15
      try clear c16
      try clear c20
      try clear c21
      try clear c22
      try clear c23
      try clear c24
      try clear c25
      try clear c26
      try clear c27
      try clear c33
      try clear c33b0
      try clear c33b1
      try clear c33b2
      try clear c35
      try clear c36
      try clear c37
      try clear c38
      try clear c40
      try clear c41
      try clear c47
      try clear c48
      try clear c49
      try clear c51
      try clear c52
      try clear c58
      try clear c61
      try clear p64
      try clear hcz18_0
      try clear hcz18_1
      try clear hcz42_0
      try clear hcz42_1
      try clear hcz45_0
      try clear hcz45_1
      try clear hcz53_0
      try clear hcz53_1
      try clear hcz56_0
      try clear hcz56_1
      try clear hfz18_0
      try clear hfz18_1
      try clear hfz42_0
      try clear hfz42_1
      try clear hfz45_0
      try clear hfz45_1
      try clear hfz53_0
      try clear hfz53_1
      try clear hfz56_0
      try clear hfz56_1
      try clear p2
      try clear p6
      obtain ⟨kq, x72_58, rfl, HA, HJ58, BK384, BK385, BK386, BK387, HB⟩ := hcut
      cases kq with
      | zero => exact absurd HA.out (by simp [laws_FnCovers.j1])
      | succ kj58 =>
       have H := HA.out; clear HA
       simp only [laws_FnCovers.j1] at H
       by_cases c75 : x72_58 = true
       ·subst c75
        have H1 : (some false) = some r := by rw [if_pos rfl] at H; exact H
        clear H; have H := H1; clear H1
        obtain rfl := Option.some.inj H
        exact absurd hT Bool.false_ne_true
       ·replace c75 := Bool.eq_false_iff.mpr c75
        subst c75
        have H1 : ((some (([(([(⟨wrap64 (256 * t382), wrap64 (256 * t383)⟩ : S32), (⟨wrap64 ((wrap64 (256 * t382)) + 128), wrap64 (256 * t383)⟩ : S32), (⟨wrap64 ((wrap64 (256 * t382)) + 128), wrap64 ((wrap64 (256 * t383)) + 256)⟩ : S32), (⟨wrap64 (256 * t382), wrap64 ((wrap64 (256 * t383)) + 256)⟩ : S32)] : List (S32)))] : List (List (S32))) : List (List (S32)))).bind fun y414 => ((impl_MaskAt.f kj58 y414 false t382 t383).bind fun t417 => (if t417 = 5 then ((impl_Covers.f kj58 y414 false (wrap64 ((wrap64 (256 * t382)) + 1)) (wrap64 (256 * t383))).bind fun t418 => (laws_FnCovers.j2 kj58 l0 (!t418))) else (laws_FnCovers.j2 kj58 l0 true)))) = some r := by rw [if_neg (show ¬ (false = true) by decide)] at H; exact H
        clear H; have H := H1; clear H1
        obtain ⟨y411, hy411⟩ : ∃ y_ : List (S32), y_ = (([(⟨wrap64 (256 * t382), wrap64 (256 * t383)⟩ : S32), (⟨wrap64 ((wrap64 (256 * t382)) + 128), wrap64 (256 * t383)⟩ : S32), (⟨wrap64 ((wrap64 (256 * t382)) + 128), wrap64 ((wrap64 (256 * t383)) + 256)⟩ : S32), (⟨wrap64 (256 * t382), wrap64 ((wrap64 (256 * t383)) + 256)⟩ : S32)] : List (S32))) := ⟨_, rfl⟩
        replace H : ((some (([y411] : List (List (S32))) : List (List (S32)))).bind fun y414 => ((impl_MaskAt.f kj58 y414 false t382 t383).bind fun t417 => (if t417 = 5 then ((impl_Covers.f kj58 y414 false (wrap64 ((wrap64 (256 * t382)) + 1)) (wrap64 (256 * t383))).bind fun t418 => (laws_FnCovers.j2 kj58 l0 (!t418))) else (laws_FnCovers.j2 kj58 l0 true)))) = some r := by first | (rw [hy411]; with_reducible exact H) | (have H2_ := (Option.bind_some _ _).symm.trans H; rw [hy411]; with_reducible exact H2_) | (have H2_ := (Option.bind_some _ _).symm.trans H; with_reducible exact H2_) | with_reducible exact H | (rw [hy411]; exact H) | exact H
        have Ny411 := Aside0.mk hy411
        clear hy411
        obtain ⟨y414, hy414⟩ : ∃ y_ : List (List (S32)), y_ = (([y411] : List (List (S32)))) := ⟨_, rfl⟩
        replace H : ((impl_MaskAt.f kj58 y414 false t382 t383).bind fun t417 => (if t417 = 5 then ((impl_Covers.f kj58 y414 false (wrap64 ((wrap64 (256 * t382)) + 1)) (wrap64 (256 * t383))).bind fun t418 => (laws_FnCovers.j2 kj58 l0 (!t418))) else (laws_FnCovers.j2 kj58 l0 true))) = some r := by first | (rw [hy414]; with_reducible exact H) | (have H2_ := (Option.bind_some _ _).symm.trans H; rw [hy414]; with_reducible exact H2_) | (have H2_ := (Option.bind_some _ _).symm.trans H; with_reducible exact H2_) | with_reducible exact H | (rw [hy414]; exact H) | exact H
        have Ny414 := Aside0.mk hy414
        clear hy414
        have HC76 := Aside0.mk H
        clear H; have hnb77 := NB386_384.out; have hnc77 := NB384_386.out; have hnb78 := NB386_385.out; have hnc78 := NB385_386.out; have hnb79 := NB386_387.out; have hnc79 := NB387_386.out
        obtain ⟨_, _, _, _⟩ := be_2 BK386.out
        go_upto_region 11 with (first | ((with_reducible refine gate_dst (N := 105) rfl ?_); (try (refine gate_guard (by rfl) ?_; dsimp only)); refine Kd.R_lit k32 _ 32 ?hg (N := 105) ?hd (xs := ([(⟨wrap64 (256 * t382), wrap64 (256 * t383)⟩ : S32), (⟨wrap64 ((wrap64 (256 * t382)) + 128), wrap64 (256 * t383)⟩ : S32), (⟨wrap64 ((wrap64 (256 * t382)) + 128), wrap64 ((wrap64 (256 * t383)) + 256)⟩ : S32), (⟨wrap64 (256 * t382), wrap64 ((wrap64 (256 * t383)) + 256)⟩ : S32)] : List (S32))) (inner := [.int .i64 (wrap64 (256 * t382)), .int .i64 (wrap64 (256 * t383)), .int .i64 (wrap64 ((wrap64 (256 * t382)) + 128)), .int .i64 (wrap64 (256 * t383)), .int .i64 (wrap64 ((wrap64 (256 * t382)) + 128)), .int .i64 (wrap64 ((wrap64 (256 * t383)) + 256)), .int .i64 (wrap64 (256 * t382)), .int .i64 (wrap64 ((wrap64 (256 * t383)) + 256))]) (ok := fun _ => True) (okp := fun _ => True) ?hr ?hp (fun _ hk => hk) trivial (Below.refl _ _) (Nat.le_refl _) (by simp) ?_; (case hd => rfl); (case hg => rfl); (case hr => first | (go_simp; done) | (go_simp; rfl)); (case hp => exact (Reps.c2 (show Kd.M k32 _ _ _ (⟨wrap64 (256 * t382), wrap64 (256 * t383)⟩ : S32) [.int .i64 (wrap64 (256 * t382)), .int .i64 (wrap64 (256 * t383))] from (k32_mkM _ _ _ (⟨wrap64 (256 * t382), wrap64 (256 * t383)⟩ : S32) )) (Reps.c2 (show Kd.M k32 _ _ _ (⟨wrap64 ((wrap64 (256 * t382)) + 128), wrap64 (256 * t383)⟩ : S32) [.int .i64 (wrap64 ((wrap64 (256 * t382)) + 128)), .int .i64 (wrap64 (256 * t383))] from (k32_mkM _ _ _ (⟨wrap64 ((wrap64 (256 * t382)) + 128), wrap64 (256 * t383)⟩ : S32) )) (Reps.c2 (show Kd.M k32 _ _ _ (⟨wrap64 ((wrap64 (256 * t382)) + 128), wrap64 ((wrap64 (256 * t383)) + 256)⟩ : S32) [.int .i64 (wrap64 ((wrap64 (256 * t382)) + 128)), .int .i64 (wrap64 ((wrap64 (256 * t383)) + 256))] from (k32_mkM _ _ _ (⟨wrap64 ((wrap64 (256 * t382)) + 128), wrap64 ((wrap64 (256 * t383)) + 256)⟩ : S32) )) (Reps.c2 (show Kd.M k32 _ _ _ (⟨wrap64 (256 * t382), wrap64 ((wrap64 (256 * t383)) + 256)⟩ : S32) [.int .i64 (wrap64 (256 * t382)), .int .i64 (wrap64 ((wrap64 (256 * t383)) + 256))] from (k32_mkM _ _ _ (⟨wrap64 (256 * t382), wrap64 ((wrap64 (256 * t383)) + 256)⟩ : S32) )) (Reps.none _ _)))))); intro v412 w81 ho82 hb hg_ hnew_; clear hg_ hnew_; (first | rw [← Ny411.out] at ho82 | (simp only [Int.reduceToNat] at ho82; rw [← Ny411.out] at ho82)); have n0_ := Aside0.mk (Kd.R_lower (Kd.R_newB ho82 (g := gb386) (o := .cells #[.int .i64 t382, .int .i64 t383] 32 (0, 0)) z12_14) (below_size z12_12)); have n1_ := Aside0.mk (blk_belowB BK384 z12_13 hb); have n2_ := Aside0.mk (blk_belowB BK385 z12_15 hb); have n3_ := Aside0.mk (blk_belowB BK386 z12_14 hb); have n4_ := Aside0.mk (blk_belowB BK387 z12_16 hb); have n5_ := Aside0.mk (below_step z12_12 hb); clear BK384; clear BK385; clear BK386; clear BK387; clear HB; have HO413 := n0_; have BK384 := n1_; have BK385 := n2_; have BK386 := n3_; have BK387 := n4_; have HB := n5_; clear n0_ n1_ n2_ n3_ n4_ n5_; clear hb ho82; obtain ⟨Ao83, co83, eo83⟩ := Kd.R_slice HO413.out; subst eo83; have n_ := Aside0.mk (Kd.R_V (base' := w.heap.size) (Kd.R_types (Kd.R_types (Kd.R_types (HO413.out) BK384.out (by decide)) BK385.out (by decide)) BK387.out (by decide))); clear HO413; have HO413 := n_; clear n_) | ((with_reducible refine gate_dst (N := 106) rfl ?_); (try (refine gate_guard (by rfl) ?_; dsimp only)); refine Kd.N_lit (Kd.slice 32 k32) _ 24 ?hg (N' := 106) ?hd (xs := ([y411] : List (List (S32)))) (inner := [.slice Ao83 y411.length co83]) (ok := (fun k_ => k_ ≠ gb384 ∧ k_ ≠ gb385 ∧ k_ ≠ gb386 ∧ k_ ≠ gb387)) (okp := (fun k_ => k_ ≠ gb384 ∧ k_ ≠ gb385 ∧ k_ ≠ gb386 ∧ k_ ≠ gb387)) ?hr ?hp (fun _ hk => hk) ((show ∀ k_, w81.heap.size ≤ k_ → (fun k_ => k_ ≠ gb384 ∧ k_ ≠ gb385 ∧ k_ ≠ gb386 ∧ k_ ≠ gb387) k_ from fun k_ hk => ⟨Kd.freshB (g := gb384) (o := .cells #[.int .i64 t374, .int .i64 t375, .int .i64 t376, .int .i64 t377] 35 (0, 0)) z12_13 k_ hk, Kd.freshB (g := gb385) (o := .cells #[.int .i64 t378, .int .i64 t379, .int .i64 t380, .int .i64 t381] 35 (0, 0)) z12_15 k_ hk, Kd.freshB (g := gb386) (o := .cells #[.int .i64 t382, .int .i64 t383] 32 (0, 0)) z12_14 k_ hk, Kd.freshB (g := gb387) (o := .cells #[.int .i64 (wrap64 (256 * t374)), .int .i64 (wrap64 (256 * t375)), .int .i64 (wrap64 (256 * t376)), .int .i64 (wrap64 (256 * t377))] 35 (0, 0)) z12_16 k_ hk⟩) _ (Nat.le_refl _)) (Below.refl _ _) (Nat.le_refl _) (by simp) ?_; (case hd => rfl); (case hg => rfl); (case hr => first | (go_simp; done) | (go_simp; rfl)); (case hp => exact (Reps.one (show Kd.FK (Kd.slice 32 k32) _ _ y411 [.slice Ao83 y411.length co83] from (Kd.FK_slice_mk (Kd.V_reads' (Kd.V_mono (ok' := (fun k_ => k_ ≠ gb384 ∧ k_ ≠ gb385 ∧ k_ ≠ gb386 ∧ k_ ≠ gb387)) (HO413.out) (fun k_ hk => ⟨hk.1.1.2, ⟨hk.1.2, ⟨hk.1.1.1.2, hk.2⟩⟩⟩))).2.1 (Kd.V_F (by (with_reducible repeat (first | apply Kd.V_alloc | apply Kd.V_drewN | apply Kd.V_drew)); exact (Kd.V_mono (ok' := (fun k_ => k_ ≠ gb384 ∧ k_ ≠ gb385 ∧ k_ ≠ gb386 ∧ k_ ≠ gb387)) (HO413.out) (fun k_ hk => ⟨hk.1.1.2, ⟨hk.1.2, ⟨hk.1.1.1.2, hk.2⟩⟩⟩)))))) (Reps.none _ _))); intro v415 w84 ho85 hb hg_ hnew_; clear hg_ hnew_; (first | rw [← Ny414.out] at ho85 | (simp only [Int.reduceToNat] at ho85; rw [← Ny414.out] at ho85)); have n0_ := Aside0.mk (Kd.V_elder' z12_43 (Kd.N_base ho85) hb); have n1_ := Aside0.mk (Kd.N_lower ho85 (below_size z12_12)); have n2_ := Aside0.mk (blk_belowB BK384 z12_13 hb); have n3_ := Aside0.mk (blk_belowB BK385 z12_15 hb); have n4_ := Aside0.mk (blk_belowB BK386 z12_14 hb); have n5_ := Aside0.mk (blk_belowB BK387 z12_16 hb); have n6_ := Aside0.mk (below_step z12_12 hb); clear HO413; clear BK384; clear BK385; clear BK386; clear BK387; clear HB; have HO413 := n0_; have HO416 := n1_; have BK384 := n2_; have BK385 := n3_; have BK386 := n4_; have BK387 := n5_; have HB := n6_; clear n0_ n1_ n2_ n3_ n4_ n5_ n6_; clear hb ho85))
        (try simp only [Act.put, List.setIfInBounds_toArray, List.set_cons_zero, List.set_cons_succ])
        go_cut [126] (fun v126 wc => ∃ (kq : Nat) (x126_75 : Bool), v126 = .bool x126_75 ∧ Aside0 (laws_FnCovers.j2 kq l0 x126_75 = some r) ∧ Aside0 (kq ≤ kj58) ∧ Aside0 (wc.heap[gb384]? = some (.cells #[.int .i64 t374, .int .i64 t375, .int .i64 t376, .int .i64 t377] 35 (0, 0))) ∧ Aside0 (wc.heap[gb385]? = some (.cells #[.int .i64 t378, .int .i64 t379, .int .i64 t380, .int .i64 t381] 35 (0, 0))) ∧ Aside0 (wc.heap[gb386]? = some (.cells #[.int .i64 t382, .int .i64 t383] 32 (0, 0))) ∧ Aside0 (wc.heap[gb387]? = some (.cells #[.int .i64 (wrap64 (256 * t374)), .int .i64 (wrap64 (256 * t375)), .int .i64 (wrap64 (256 * t376)), .int .i64 (wrap64 (256 * t377))] 35 (0, 0))) ∧ Aside0 (Below w.heap.size w wc))
        case first =>
         have H := HC76.out; clear HC76
         replace H := Option.bind_eq_some_iff.mp H
         obtain ⟨t417, A860, H⟩ := H
         replace H : (if t417 = 5 then ((impl_Covers.f kj58 y414 false (wrap64 ((wrap64 (256 * t382)) + 1)) (wrap64 (256 * t383))).bind fun t418 => (laws_FnCovers.j2 kj58 l0 (!t418))) else (laws_FnCovers.j2 kj58 l0 true)) = some r := H
         have A86 := Aside0.mk A860
         clear A860
         by_cases c87 : t417 = 5
         ·rw [if_pos c87] at H
          have c87b0 : (t417 == 5) = true := beq_iff_eq.mpr c87
          have c87b1 : (t417 != 5) = false := bne_eq_false_iff_eq.mpr c87
          clear c87
          (first | rw [c87b0] | (simp only [i64_w, i32_w]; rw [c87b0]) | skip)
          replace H := Option.bind_eq_some_iff.mp H
          obtain ⟨t418, A880, H⟩ := H
          replace H : (laws_FnCovers.j2 kj58 l0 (!t418)) = some r := H
          have A88 := Aside0.mk A880
          clear A880
          have H' := Aside0.mk H
          clear H; have hnb89 := NB386_384.out; have hnc89 := NB384_386.out; have hnb90 := NB386_385.out; have hnc90 := NB385_386.out; have hnb91 := NB386_387.out; have hnc91 := NB387_386.out
          obtain ⟨_, _, _, _⟩ := be_2 BK386.out
          obtain ⟨Ao93, co93, eo93⟩ := Kd.N_slice HO416.out
          subst eo93
          go_wp2_with (first | ((with_reducible refine gate_callee (f := 23) rfl ?_); refine goesL_ (some 112) rfl rfl Try.func23 (by kernel_rfl) rfl #[.slice Ao93 y414.length co93, .bool false, .int .i64 t382, .int .i64 t383] rfl z12_18 ?_; (with_reducible refine (impl_MaskAt.calls kj58 _ _ y414 false t382 t383 t417 _ ?side1 ?side2 A86.out).mono ?_); (case side1 => exact z12_44); (case side2 => exact (Kd.N_reads' HO416.out).2.1); rintro e w94 ⟨rfl, hb⟩; refine ⟨_, rfl, ?_⟩; have n0_ := Aside0.mk (Kd.V_below z12_43 hb); have n1_ := Aside0.mk (Kd.N_below (by (with_reducible repeat (first | apply Kd.N_alloc | apply Kd.N_drewN | apply Kd.N_drew)); exact HO416.out) hb); have n2_ := Aside0.mk (blk_belowB BK384 z12_13 hb); have n3_ := Aside0.mk (blk_belowB BK385 z12_15 hb); have n4_ := Aside0.mk (blk_belowB BK386 z12_14 hb); have n5_ := Aside0.mk (blk_belowB BK387 z12_16 hb); have n6_ := Aside0.mk (below_step z12_12 hb); clear HO413; clear HO416; clear BK384; clear BK385; clear BK386; clear BK387; clear HB; have HO413 := n0_; have HO416 := n1_; have BK384 := n2_; have BK385 := n3_; have BK386 := n4_; have BK387 := n5_; have HB := n6_; clear n0_ n1_ n2_ n3_ n4_ n5_ n6_; (try clear hb); obtain ⟨_, _, _, _⟩ := be_2 BK386.out) | (go_at_call 28; (with_reducible refine (impl_Covers.calls kj58 _ _ y414 false (wrap64 ((wrap64 (256 * t382)) + 1)) (wrap64 (256 * t383)) t418 _ ?side1 ?side2 A88.out).mono ?_); (case side1 => exact z12_44); (case side2 => exact (Kd.N_reads' HO416.out).2.1); rintro e w96 ⟨rfl, hb⟩; have n0_ := Aside0.mk (Kd.V_below z12_43 hb); have n1_ := Aside0.mk (Kd.N_below (by (with_reducible repeat (first | apply Kd.N_alloc | apply Kd.N_drewN | apply Kd.N_drew)); exact HO416.out) hb); have n2_ := Aside0.mk (blk_belowB BK384 z12_13 hb); have n3_ := Aside0.mk (blk_belowB BK385 z12_15 hb); have n4_ := Aside0.mk (blk_belowB BK386 z12_14 hb); have n5_ := Aside0.mk (blk_belowB BK387 z12_16 hb); have n6_ := Aside0.mk (below_step z12_12 hb); clear HO413; clear HO416; clear BK384; clear BK385; clear BK386; clear BK387; clear HB; have HO413 := n0_; have HO416 := n1_; have BK384 := n2_; have BK385 := n3_; have BK386 := n4_; have BK387 := n5_; have HB := n6_; clear n0_ n1_ n2_ n3_ n4_ n5_ n6_; (try clear hb)))
          go_meet
          case rel => exact ⟨_, (!t418), (by first | rfl | (simp; done) | (simp [*]; done)), H', ⟨by have := HJ7.out; have := HJ58.out; first | omega | exact Nat.le_refl _⟩, ⟨by (with_reducible repeat (first | refine blk_drewN ?_ _ | refine blk_drew ?_ | refine blk_alloc ?_ _)); exact BK384.out⟩, ⟨by (with_reducible repeat (first | refine blk_drewN ?_ _ | refine blk_drew ?_ | refine blk_alloc ?_ _)); exact BK385.out⟩, ⟨by (with_reducible repeat (first | refine blk_drewN ?_ _ | refine blk_drew ?_ | refine blk_alloc ?_ _)); exact BK386.out⟩, ⟨by (with_reducible repeat (first | refine blk_drewN ?_ _ | refine blk_drew ?_ | refine blk_alloc ?_ _)); exact BK387.out⟩, ⟨by repeat (first | (with_reducible first | exact HB.out | apply below_alloc | apply pw_below_drewN | apply below_drew1 | refine below_set ?_ GE384.out | refine below_set ?_ GE385.out | refine below_set ?_ GE386.out | refine below_set ?_ GE387.out) | exact HB.out)⟩⟩
         ·rw [if_neg c87] at H
          have c87b0 : (t417 == 5) = false := beq_eq_false_iff_ne.mpr c87
          have c87b1 : (t417 != 5) = true := bne_iff_ne.mpr c87
          (first | rw [c87b0] | (simp only [i64_w, i32_w]; rw [c87b0]) | skip)
          exact absurd (show r = false from by cases kj58 with | zero => exact absurd H (by simp [laws_FnCovers.j2]) | succ k_ => simp only [laws_FnCovers.j2, if_true] at H; exact (Option.some.inj H).symm) (by rw [hT]; simp)
        case rest =>
         clear HC76; try clear c1
         try clear c2
         try clear p2
         try clear c3
         try clear c4
         try clear c5
         try clear c6
         try clear p6
         try clear c7
         try clear c8
         try clear c9
         try clear c13
         try clear c14
         try clear c15
         try clear c16
         try clear c20
         try clear c21
         try clear c22
         try clear c23
         try clear c24
         try clear c25
         try clear c26
         try clear c27
         try clear c33
         try clear c33b0
         try clear c33b1
         try clear c33b2
         try clear c35
         try clear c36
         try clear c37
         try clear c38
         try clear c40
         try clear c41
         try clear c47
         try clear c48
         try clear c49
         try clear c51
         try clear c52
         try clear c58
         try clear c61
         try clear p64
         try clear c75
         try clear c77
         try clear c78
         try clear c79
         try clear c87
         try clear c87b0
         try clear c87b1
         try clear c89
         try clear c90
         try clear c91
         try clear hcz18_0
         try clear hcz18_1
         try clear hcz42_0
         try clear hcz42_1
         try clear hcz45_0
         try clear hcz45_1
         try clear hcz53_0
         try clear hcz53_1
         try clear hcz56_0
         try clear hcz56_1
         try clear hcz80_0
         try clear hcz80_1
         try clear hcz92_0
         try clear hcz92_1
         try clear hcz95_0
         try clear hcz95_1
         try clear hfz18_0
         try clear hfz18_1
         try clear hfz42_0
         try clear hfz42_1
         try clear hfz45_0
         try clear hfz45_1
         try clear hfz53_0
         try clear hfz53_1
         try clear hfz56_0
         try clear hfz56_1
         try clear hfz80_0
         try clear hfz80_1
         try clear hfz92_0
         try clear hfz92_1
         try clear hfz95_0
         try clear hfz95_1
         try clear p2
         try clear p6
         try clear p64
         obtain ⟨kq, x126_75, rfl, HA, HJ75, BK384, BK385, BK386, BK387, HB⟩ := hcut
         cases kq with
         | zero => exact absurd HA.out (by simp [laws_FnCovers.j2])
         | succ kj75 =>
          have H := HA.out; clear HA
          simp only [laws_FnCovers.j2] at H
          by_cases c97 : x126_75 = true
          ·subst c97
           have H1 : (some false) = some r := by rw [if_pos rfl] at H; exact H
           clear H; have H := H1; clear H1
           obtain rfl := Option.some.inj H
           exact absurd hT Bool.false_ne_true
          ·replace c97 := Bool.eq_false_iff.mpr c97
           subst c97
           have H1 : ((spec_DrawPoints.f kj75 l0).bind fun t419 => ((spec_BoxOf.f kj75 t419).bind fun bt422 => ((spec_DrawPlaces.f kj75 l0).bind fun t427 => (if 0 < (t427.length : Int) then (if 1 < (t427.length : Int) then ((impl_Covers.f kj75 (([t419] : List (List (S32)))) false (wrap64 (bt422.2.2.1 + (Int.tmod (rd t427 0) 50))) (wrap64 ((rd t427 1) - 5000))).bind fun t439 => (if t439 = true then (some false) else ((impl_Covers.f kj75 (([t419] : List (List (S32)))) true (wrap64 ((rd t427 0) - 5000)) (wrap64 ((wrap64 (bt422.2.1 - 1)) - (Int.tmod (rd t427 1) 50)))).bind fun t443 => (if t443 = true then (some false) else ((impl_WindOf.f kj75 t419 (wrap64 (bt422.2.2.1 + (Int.tmod (rd t427 0) 50))) (wrap64 ((rd t427 1) - 5000))).bind fun t444 => (some (t444 == 0))))))) else (none)) else (none))))) = some r := by rw [if_neg (show ¬ (false = true) by decide)] at H; exact H
           clear H; have H := H1; clear H1
           replace H := Option.bind_eq_some_iff.mp H
           obtain ⟨t419, A980, H⟩ := H
           replace H : ((spec_BoxOf.f kj75 t419).bind fun bt422 => ((spec_DrawPlaces.f kj75 l0).bind fun t427 => (if 0 < (t427.length : Int) then (if 1 < (t427.length : Int) then ((impl_Covers.f kj75 (([t419] : List (List (S32)))) false (wrap64 (bt422.2.2.1 + (Int.tmod (rd t427 0) 50))) (wrap64 ((rd t427 1) - 5000))).bind fun t439 => (if t439 = true then (some false) else ((impl_Covers.f kj75 (([t419] : List (List (S32)))) true (wrap64 ((rd t427 0) - 5000)) (wrap64 ((wrap64 (bt422.2.1 - 1)) - (Int.tmod (rd t427 1) 50)))).bind fun t443 => (if t443 = true then (some false) else ((impl_WindOf.f kj75 t419 (wrap64 (bt422.2.2.1 + (Int.tmod (rd t427 0) 50))) (wrap64 ((rd t427 1) - 5000))).bind fun t444 => (some (t444 == 0))))))) else (none)) else (none)))) = some r := H
           have A98 := Aside0.mk A980
           clear A980
           replace H := Option.bind_eq_some_iff.mp H
           obtain ⟨⟨t422, t423, t424, t425⟩, A990, H⟩ := H
           replace H : ((spec_DrawPlaces.f kj75 l0).bind fun t427 => (if 0 < (t427.length : Int) then (if 1 < (t427.length : Int) then ((impl_Covers.f kj75 (([t419] : List (List (S32)))) false (wrap64 (t424 + (Int.tmod (rd t427 0) 50))) (wrap64 ((rd t427 1) - 5000))).bind fun t439 => (if t439 = true then (some false) else ((impl_Covers.f kj75 (([t419] : List (List (S32)))) true (wrap64 ((rd t427 0) - 5000)) (wrap64 ((wrap64 (t423 - 1)) - (Int.tmod (rd t427 1) 50)))).bind fun t443 => (if t443 = true then (some false) else ((impl_WindOf.f kj75 t419 (wrap64 (t424 + (Int.tmod (rd t427 0) 50))) (wrap64 ((rd t427 1) - 5000))).bind fun t444 => (some (t444 == 0))))))) else (none)) else (none))) = some r := H
           have A99 := Aside0.mk A990
           clear A990
           replace H := Option.bind_eq_some_iff.mp H
           obtain ⟨t427, A1000, H⟩ := H
           replace H : (if 0 < (t427.length : Int) then (if 1 < (t427.length : Int) then ((impl_Covers.f kj75 (([t419] : List (List (S32)))) false (wrap64 (t424 + (Int.tmod (rd t427 0) 50))) (wrap64 ((rd t427 1) - 5000))).bind fun t439 => (if t439 = true then (some false) else ((impl_Covers.f kj75 (([t419] : List (List (S32)))) true (wrap64 ((rd t427 0) - 5000)) (wrap64 ((wrap64 (t423 - 1)) - (Int.tmod (rd t427 1) 50)))).bind fun t443 => (if t443 = true then (some false) else ((impl_WindOf.f kj75 t419 (wrap64 (t424 + (Int.tmod (rd t427 0) 50))) (wrap64 ((rd t427 1) - 5000))).bind fun t444 => (some (t444 == 0))))))) else (none)) else (none)) = some r := H
           have A100 := Aside0.mk A1000
           clear A1000
           by_cases c101 : 0 < (t427.length : Int)
           ·rw [if_pos c101] at H
            have c101b0 : decide (0 < (t427.length : Int)) = true := decide_eq_true c101
            have c101b1 : decide (0 < t427.length) = true := decide_eq_true (by omega)
            clear c101
            by_cases c102 : 1 < (t427.length : Int)
            ·rw [if_pos c102] at H
             have c102b0 : decide (1 < (t427.length : Int)) = true := decide_eq_true c102
             have c102b1 : decide (1 < t427.length) = true := decide_eq_true (by omega)
             clear c102
             obtain ⟨y436, hy436⟩ : ∃ y_ : List (List (S32)), y_ = (([t419] : List (List (S32)))) := ⟨_, rfl⟩
             replace H : ((impl_Covers.f kj75 y436 false (wrap64 (t424 + (Int.tmod (rd t427 0) 50))) (wrap64 ((rd t427 1) - 5000))).bind fun t439 => (if t439 = true then (some false) else ((impl_Covers.f kj75 (([t419] : List (List (S32)))) true (wrap64 ((rd t427 0) - 5000)) (wrap64 ((wrap64 (t423 - 1)) - (Int.tmod (rd t427 1) 50)))).bind fun t443 => (if t443 = true then (some false) else ((impl_WindOf.f kj75 t419 (wrap64 (t424 + (Int.tmod (rd t427 0) 50))) (wrap64 ((rd t427 1) - 5000))).bind fun t444 => (some (t444 == 0))))))) = some r := by first | (rw [hy436]; with_reducible exact H) | (have H2_ := (Option.bind_some _ _).symm.trans H; rw [hy436]; with_reducible exact H2_) | (have H2_ := (Option.bind_some _ _).symm.trans H; with_reducible exact H2_) | with_reducible exact H | (rw [hy436]; exact H) | exact H
             have Ny436 := Aside0.mk hy436
             clear hy436
             replace H := Option.bind_eq_some_iff.mp H
             obtain ⟨t439, A1030, H⟩ := H
             replace H : (if t439 = true then (some false) else ((impl_Covers.f kj75 (([t419] : List (List (S32)))) true (wrap64 ((rd t427 0) - 5000)) (wrap64 ((wrap64 (t423 - 1)) - (Int.tmod (rd t427 1) 50)))).bind fun t443 => (if t443 = true then (some false) else ((impl_WindOf.f kj75 t419 (wrap64 (t424 + (Int.tmod (rd t427 0) 50))) (wrap64 ((rd t427 1) - 5000))).bind fun t444 => (some (t444 == 0)))))) = some r := H
             have A103 := Aside0.mk A1030
             clear A1030
             by_cases c104 : t439 = true
             ·subst c104
              have H1 : (some false) = some r := by rw [if_pos rfl] at H; exact H
              clear H; have H := H1; clear H1
              obtain rfl := Option.some.inj H
              exact absurd hT Bool.false_ne_true
             ·replace c104 := Bool.eq_false_iff.mpr c104
              subst c104
              have H1 : ((impl_Covers.f kj75 (([t419] : List (List (S32)))) true (wrap64 ((rd t427 0) - 5000)) (wrap64 ((wrap64 (t423 - 1)) - (Int.tmod (rd t427 1) 50)))).bind fun t443 => (if t443 = true then (some false) else ((impl_WindOf.f kj75 t419 (wrap64 (t424 + (Int.tmod (rd t427 0) 50))) (wrap64 ((rd t427 1) - 5000))).bind fun t444 => (some (t444 == 0))))) = some r := by rw [if_neg (show ¬ (false = true) by decide)] at H; exact H
              clear H; have H := H1; clear H1
              obtain ⟨y440, hy440⟩ : ∃ y_ : List (List (S32)), y_ = (([t419] : List (List (S32)))) := ⟨_, rfl⟩
              replace H : ((impl_Covers.f kj75 y440 true (wrap64 ((rd t427 0) - 5000)) (wrap64 ((wrap64 (t423 - 1)) - (Int.tmod (rd t427 1) 50)))).bind fun t443 => (if t443 = true then (some false) else ((impl_WindOf.f kj75 t419 (wrap64 (t424 + (Int.tmod (rd t427 0) 50))) (wrap64 ((rd t427 1) - 5000))).bind fun t444 => (some (t444 == 0))))) = some r := by first | (rw [hy440]; with_reducible exact H) | (have H2_ := (Option.bind_some _ _).symm.trans H; rw [hy440]; with_reducible exact H2_) | (have H2_ := (Option.bind_some _ _).symm.trans H; with_reducible exact H2_) | with_reducible exact H | (rw [hy440]; exact H) | exact H
              have Ny440 := Aside0.mk hy440
              clear hy440
              replace H := Option.bind_eq_some_iff.mp H
              obtain ⟨t443, A1050, H⟩ := H
              replace H : (if t443 = true then (some false) else ((impl_WindOf.f kj75 t419 (wrap64 (t424 + (Int.tmod (rd t427 0) 50))) (wrap64 ((rd t427 1) - 5000))).bind fun t444 => (some (t444 == 0)))) = some r := H
              have A105 := Aside0.mk A1050
              clear A1050
              by_cases c106 : t443 = true
              ·subst c106
               have H1 : (some false) = some r := by rw [if_pos rfl] at H; exact H
               clear H; have H := H1; clear H1
               obtain rfl := Option.some.inj H
               exact absurd hT Bool.false_ne_true
              ·replace c106 := Bool.eq_false_iff.mpr c106
               subst c106
               have H1 : ((impl_WindOf.f kj75 t419 (wrap64 (t424 + (Int.tmod (rd t427 0) 50))) (wrap64 ((rd t427 1) - 5000))).bind fun t444 => (some (t444 == 0))) = some r := by rw [if_neg (show ¬ (false = true) by decide)] at H; exact H
               clear H; have H := H1; clear H1
               replace H := Option.bind_eq_some_iff.mp H
               obtain ⟨t444, A1070, H⟩ := H
               replace H : (some (t444 == 0)) = some r := H
               have A107 := Aside0.mk A1070
               clear A1070
               obtain rfl := Option.some.inj H
               simp only [Option.some.injEq, Prod.mk.injEq] at H
               obtain ⟨rfl⟩ := H
               try go_wp2_with (first | ((with_reducible refine gate_callee (f := 16) rfl ?_); refine goesL_ (some 128) rfl rfl Try.func16 (by kernel_rfl) rfl #[.slice A0 l0.length c0] rfl z12_18 ?_; (with_reducible refine (spec_DrawPoints.calls kj75 _ _ l0 t419 _ ?side1 ?side2 A98.out).mono ?_); (case side1 => repeat (first | exact (Kd.C_below HR0.out HB.out) | (with_reducible refine Kd.C_alloc ?_ _) | (with_reducible refine Kd.C_drewN ?_ _) | (with_reducible refine Kd.C_drew ?_))); (case side2 => exact HC0.out); rintro e w108 ⟨v420, rfl, ho0, hb⟩; refine ⟨_, rfl, ?_⟩; have n0_ := Aside0.mk (Kd.R_lower (Kd.R_newB ho0 (g := gb386) (o := .cells #[.int .i64 t382, .int .i64 t383] 32 (0, 0)) z12_14) (below_size z12_12)); have n1_ := Aside0.mk (blk_belowB BK384 z12_13 hb); have n2_ := Aside0.mk (blk_belowB BK385 z12_15 hb); have n3_ := Aside0.mk (blk_belowB BK386 z12_14 hb); have n4_ := Aside0.mk (blk_belowB BK387 z12_16 hb); have n5_ := Aside0.mk (below_step z12_12 hb); clear BK384; clear BK385; clear BK386; clear BK387; clear HB; have HO421 := n0_; have BK384 := n1_; have BK385 := n2_; have BK386 := n3_; have BK387 := n4_; have HB := n5_; clear n0_ n1_ n2_ n3_ n4_ n5_; (try clear hb); (try clear hk); (try clear ho0); obtain ⟨Ao109, co109, eo109⟩ := Kd.R_slice HO421.out; subst eo109) | ((with_reducible refine gate_callee (f := 29) rfl ?_); refine goesL_ (some 130) rfl rfl Try.func29 (by kernel_rfl) rfl #[.slice Ao109 t419.length co109] rfl z12_18 ?_; (with_reducible refine (spec_BoxOf.calls kj75 _ _ t419 t422 t423 t424 t425 _ ?side1 ?side2 A99.out).mono ?_); (case side1 => repeat (first | exact (Kd.R_reads' HO421.out).2.2 | (with_reducible refine Kd.C_alloc ?_ _) | (with_reducible refine Kd.C_drewN ?_ _) | (with_reducible refine Kd.C_drew ?_))); (case side2 => exact (Kd.R_reads' HO421.out).2.1); rintro e w110 ⟨rfl, hb⟩; refine ⟨_, rfl, ?_⟩; have n0_ := Aside0.mk (Kd.R_below z12_39 hb); have n1_ := Aside0.mk (blk_belowB BK384 z12_13 hb); have n2_ := Aside0.mk (blk_belowB BK385 z12_15 hb); have n3_ := Aside0.mk (blk_belowB BK386 z12_14 hb); have n4_ := Aside0.mk (blk_belowB BK387 z12_16 hb); have n5_ := Aside0.mk (below_step z12_12 hb); clear HO421; clear BK384; clear BK385; clear BK386; clear BK387; clear HB; have HO421 := n0_; have BK384 := n1_; have BK385 := n2_; have BK386 := n3_; have BK387 := n4_; have HB := n5_; clear n0_ n1_ n2_ n3_ n4_ n5_; (try clear hb); (try clear hk)) | ((with_reducible refine gate_dst (N := 10) rfl ?_); (try (refine gate_guard (by rfl) ?_; dsimp only)); refine boxz (cs := #[.int .i64 0, .int .i64 0, .int .i64 0, .int .i64 0]) (t := 35) rfl ?_; intro gb426 hg w111 hbox hb; have n0_ := Aside0.mk (Kd.R_below z12_39 hb); have n1_ := Aside0.mk (blk_belowB BK384 z12_13 hb); have n2_ := Aside0.mk (blk_belowB BK385 z12_15 hb); have n3_ := Aside0.mk (blk_belowB BK386 z12_14 hb); have n4_ := Aside0.mk (blk_belowB BK387 z12_16 hb); have n5_ := Aside0.mk (below_step z12_12 hb); have n6_ := Aside0.mk (hbox); have n7_ := Aside0.mk (ge_go (a := w.heap.size) hg (below_size z12_12)); have n8_ := Aside0.mk (ge_go (a := w.heap.size) hg (below_size z12_12)); have n9_ := Aside0.mk (nb_lt hg (blk_ltB BK384 z12_13)); have n10_ := Aside0.mk (nb_gt hg (blk_ltB BK384 z12_13)); have n11_ := Aside0.mk (nb_lt hg (blk_ltB BK385 z12_15)); have n12_ := Aside0.mk (nb_gt hg (blk_ltB BK385 z12_15)); have n13_ := Aside0.mk (nb_lt hg (blk_ltB BK386 z12_14)); have n14_ := Aside0.mk (nb_gt hg (blk_ltB BK386 z12_14)); have n15_ := Aside0.mk (nb_lt hg (blk_ltB BK387 z12_16)); have n16_ := Aside0.mk (nb_gt hg (blk_ltB BK387 z12_16)); clear HO421; clear BK384; clear BK385; clear BK386; clear BK387; clear HB; have HO421 := n0_; have BK384 := n1_; have BK385 := n2_; have BK386 := n3_; have BK387 := n4_; have HB := n5_; have BK426 := n6_; have GW426 := n7_; have GE426 := n8_; have NB384_426 := n9_; have NB426_384 := n10_; have NB385_426 := n11_; have NB426_385 := n12_; have NB386_426 := n13_; have NB426_386 := n14_; have NB387_426 := n15_; have NB426_387 := n16_; clear n0_ n1_ n2_ n3_ n4_ n5_ n6_ n7_ n8_ n9_ n10_ n11_ n12_ n13_ n14_ n15_ n16_; clear hb hbox hg; have hnb112 := NB426_384.out; have hnc112 := NB384_426.out; have hnb113 := NB426_385.out; have hnc113 := NB385_426.out; have hnb114 := NB426_386.out; have hnc114 := NB386_426.out; have hnb115 := NB426_387.out; have hnc115 := NB387_426.out; obtain ⟨_, _, _, _, _, _, _, _⟩ := be_4 BK426.out) | ((with_reducible refine gate_callee (f := 17) rfl ?_); refine goesL_ (some 132) rfl rfl Try.func17 (by kernel_rfl) rfl #[.slice A0 l0.length c0] rfl z12_18 ?_; (with_reducible refine (spec_DrawPlaces.calls kj75 _ _ l0 t427 _ ?side1 ?side2 A100.out).mono ?_); (case side1 => exact Kd.C_below HR0.out z12_19); (case side2 => exact HC0.out); rintro e w117 ⟨v428, rfl, ho0, hb⟩; refine ⟨_, rfl, ?_⟩; have n0_ := Aside0.mk (Kd.R_below (by (with_reducible repeat (first | apply Kd.R_alloc | apply Kd.R_drewN | apply Kd.R_drew)); exact (Kd.R_mono (Kd.R_far (p := ⟨gb426, 3, none⟩) (Kd.R_far (p := ⟨gb426, 2, none⟩) (Kd.R_far (p := ⟨gb426, 1, none⟩) (Kd.R_far (p := ⟨gb426, 0, none⟩) (Kd.R_types HO421.out BK426.out (by decide)) (fun _ hk => hk.2) (.int .i64 t422)) (fun _ hk => hk.2) (.int .i64 t423)) (fun _ hk => hk.2) (.int .i64 t424)) (fun _ hk => hk.2) (.int .i64 t425)) (fun _ h_ => h_.1))) hb); have n1_ := Aside0.mk (Kd.R_lower ho0 (below_size z12_19)); have n2_ := Aside0.mk (blk_belowB BK384 (by (with_reducible repeat (first | refine blk_drewN ?_ _ | refine blk_drew ?_ | refine blk_alloc ?_ _)); refine blk_far ?_ NB384_426.out _; (with_reducible repeat (first | refine blk_drewN ?_ _ | refine blk_drew ?_ | refine blk_alloc ?_ _)); refine blk_far ?_ NB384_426.out _; (with_reducible repeat (first | refine blk_drewN ?_ _ | refine blk_drew ?_ | refine blk_alloc ?_ _)); refine blk_far ?_ NB384_426.out _; (with_reducible repeat (first | refine blk_drewN ?_ _ | refine blk_drew ?_ | refine blk_alloc ?_ _)); refine blk_far ?_ NB384_426.out _; (with_reducible repeat (first | refine blk_drewN ?_ _ | refine blk_drew ?_ | refine blk_alloc ?_ _)); exact BK384.out) hb); have n3_ := Aside0.mk (blk_belowB BK385 (by (with_reducible repeat (first | refine blk_drewN ?_ _ | refine blk_drew ?_ | refine blk_alloc ?_ _)); refine blk_far ?_ NB385_426.out _; (with_reducible repeat (first | refine blk_drewN ?_ _ | refine blk_drew ?_ | refine blk_alloc ?_ _)); refine blk_far ?_ NB385_426.out _; (with_reducible repeat (first | refine blk_drewN ?_ _ | refine blk_drew ?_ | refine blk_alloc ?_ _)); refine blk_far ?_ NB385_426.out _; (with_reducible repeat (first | refine blk_drewN ?_ _ | refine blk_drew ?_ | refine blk_alloc ?_ _)); refine blk_far ?_ NB385_426.out _; (with_reducible repeat (first | refine blk_drewN ?_ _ | refine blk_drew ?_ | refine blk_alloc ?_ _)); exact BK385.out) hb); have n4_ := Aside0.mk (blk_belowB BK386 (by (with_reducible repeat (first | refine blk_drewN ?_ _ | refine blk_drew ?_ | refine blk_alloc ?_ _)); refine blk_far ?_ NB386_426.out _; (with_reducible repeat (first | refine blk_drewN ?_ _ | refine blk_drew ?_ | refine blk_alloc ?_ _)); refine blk_far ?_ NB386_426.out _; (with_reducible repeat (first | refine blk_drewN ?_ _ | refine blk_drew ?_ | refine blk_alloc ?_ _)); refine blk_far ?_ NB386_426.out _; (with_reducible repeat (first | refine blk_drewN ?_ _ | refine blk_drew ?_ | refine blk_alloc ?_ _)); refine blk_far ?_ NB386_426.out _; (with_reducible repeat (first | refine blk_drewN ?_ _ | refine blk_drew ?_ | refine blk_alloc ?_ _)); exact BK386.out) hb); have n5_ := Aside0.mk (blk_belowB BK387 (by (with_reducible repeat (first | refine blk_drewN ?_ _ | refine blk_drew ?_ | refine blk_alloc ?_ _)); refine blk_far ?_ NB387_426.out _; (with_reducible repeat (first | refine blk_drewN ?_ _ | refine blk_drew ?_ | refine blk_alloc ?_ _)); refine blk_far ?_ NB387_426.out _; (with_reducible repeat (first | refine blk_drewN ?_ _ | refine blk_drew ?_ | refine blk_alloc ?_ _)); refine blk_far ?_ NB387_426.out _; (with_reducible repeat (first | refine blk_drewN ?_ _ | refine blk_drew ?_ | refine blk_alloc ?_ _)); refine blk_far ?_ NB387_426.out _; (with_reducible repeat (first | refine blk_drewN ?_ _ | refine blk_drew ?_ | refine blk_alloc ?_ _)); exact BK387.out) hb); have n6_ := Aside0.mk (blk_below (g := gb426) (o := .cells #[.int .i64 t422, .int .i64 t423, .int .i64 t424, .int .i64 t425] 35 (0, 0)) (by apply blk_fin; (focus ((with_reducible repeat (first | apply blk_putQ | refine blk_drewN ?_ _ | refine blk_drew ?_ | refine blk_alloc ?_ _)); exact BK426.out)); first | (simp only [List.setIfInBounds_toArray, List.set_cons_zero, List.set_cons_succ]; done) | rfl) hb); have n7_ := Aside0.mk (below_step z12_19 hb); clear HO421; clear BK384; clear BK385; clear BK386; clear BK387; clear BK426; clear HB; have HO421 := n0_; have HO429 := n1_; have BK384 := n2_; have BK385 := n3_; have BK386 := n4_; have BK387 := n5_; have BK426 := n6_; have HB := n7_; clear n0_ n1_ n2_ n3_ n4_ n5_ n6_ n7_; (try clear hb); (try clear hk); (try clear ho0)))
               have n0_ := Aside0.mk (Kd.R_drew HO421.out)
               have n1_ := Aside0.mk (Kd.R_drew HO429.out)
               have n2_ := Aside0.mk (blk_drew BK384.out)
               have n3_ := Aside0.mk (blk_drew BK385.out)
               have n4_ := Aside0.mk (blk_drew BK386.out)
               have n5_ := Aside0.mk (blk_drew BK387.out)
               have n6_ := Aside0.mk (blk_drew BK426.out)
               have n7_ := Aside0.mk (below_drew1 HB.out)
               clear HO421; clear HO429; clear BK384; clear BK385; clear BK386; clear BK387; clear BK426; clear HB; have HO421 := n0_; have HO429 := n1_; have BK384 := n2_; have BK385 := n3_; have BK386 := n4_; have BK387 := n5_; have BK426 := n6_; have HB := n7_; clear n0_ n1_ n2_ n3_ n4_ n5_ n6_ n7_
               obtain ⟨Ao119, co119, eo119⟩ := Kd.R_slice HO429.out
               (first | subst eo119 | (injection eo119 with f1_ f2_ f3_; have f4_ := f1_.symm; have f5_ := f3_.symm; clear f1_ f2_ f3_; subst f4_; subst f5_))
               have p430 : 0 ≤ (0 : Int) := (by omega)
               have q430 : 0 < (t427.length : Int) := of_decide_eq_true (by first | (with_reducible assumption) | assumption)
               obtain ⟨ad430, e430, hx430_0⟩ := Kd.at_int (Kd.R_reads' HO429.out).2.2 0 p430 q430
               cases e430
               have qi430 : (0 < t427.length) = True := eq_true (by omega)
               (try rw [show ((0 : Int)).toNat = 0 from rfl] at hx430_0)
               (try rw [Addr.add_zero'] at hx430_0)
               replace p430 := eq_true p430
               replace q430 := eq_true q430
               have p431 : 0 ≤ (1 : Int) := (by omega)
               have q431 : 1 < (t427.length : Int) := of_decide_eq_true (by first | (with_reducible assumption) | assumption)
               obtain ⟨ad431, e431, hx431_0⟩ := Kd.at_int (Kd.R_reads' HO429.out).2.2 1 p431 q431
               obtain rfl : ad430 = ad431 := (by injection e431)
               (try simp only [show (1 : Int).toNat = 1 from rfl, Nat.reduceMul, Nat.reduceEqDiff, Go.Addr.add, ↓reduceIte] at hx431_0)
               have qi431 : (1 < t427.length) = True := eq_true (by omega)
               (try rw [show ((1 : Int)).toNat = 1 from rfl] at hx431_0)
               replace p431 := eq_true p431
               replace q431 := eq_true q431
               refine start_ (n := 14) (S := fun w' => w'.cell? ⟨gb426, 0, none⟩ = some (.int .i64 t422) ∧ w'.cell? ⟨gb426, 1, none⟩ = some (.int .i64 t423) ∧ w'.cell? ⟨gb426, 2, none⟩ = some (.int .i64 t424) ∧ w'.cell? ⟨gb426, 3, none⟩ = some (.int .i64 t425) ∧ w'.cell? ad430 = some (.int .i64 (rd t427 0)) ∧ w'.cell? ⟨ad430.block, ad430.off + 1, none⟩ = some (.int .i64 (rd t427 1))) (ds := []) y12_1 (by kernel_rfl) rfl rfl ⟨(blk_cell BK426.out 0).trans rfl, (blk_cell BK426.out 1).trans rfl, (blk_cell BK426.out 2).trans rfl, (blk_cell BK426.out 3).trans rfl, hx430_0, hx431_0⟩ (fun hHeld => ?_); refine with_tabW laws_FnCovers.tab16 laws_FnCovers.bits16 (fun HT_ HW_ => ?_)
               generalize w117.drew = w118 at HO421 HO429 BK384 BK385 BK386 BK387 BK426 HB hx430_0 hx431_0 hHeld ⊢
               refine pzv (i := 0) (N := 133) (v := ?_) (a' := ?_) y12_6 HT_ ?_ ?_ ?_
               rotate_left
               ·intro w'
                go_simp; with_reducible rfl
               rotate_left
               ·exact x12_put
               refine pzv (i := 2) (N := 135) (v := ?_) (a' := ?_) #[true, false, true, false, false, false, false, false, false, false, false, false, false, false] HT_ ?_ ?_ ?_
               rotate_left
               ·intro w'
                go_simp; with_reducible rfl
               rotate_left
               ·exact x12_put
               refine pzv (i := 3) (N := 136) (v := ?_) (a' := ?_) #[true, false, true, true, false, false, false, false, false, false, false, false, false, false] HT_ ?_ ?_ ?_
               rotate_left
               ·intro w'
                go_simp; with_reducible rfl
               rotate_left
               ·exact x12_put
               refine pzv (i := 7) (N := 140) (v := ?_) (a' := ?_) #[true, false, true, true, false, false, false, true, false, false, false, false, false, false] HT_ ?_ ?_ ?_
               rotate_left
               ·intro w'
                go_simp; with_reducible rfl
               rotate_left
               ·exact x12_put
               refine pzv (i := 8) (N := 141) (v := ?_) (a' := ?_) #[true, false, true, true, false, false, false, true, true, false, false, false, false, false] HT_ ?_ ?_ ?_
               rotate_left
               ·intro w'
                go_simp; with_reducible rfl
               rotate_left
               ·exact x12_put
               refine take_ (i := 1) (N := some 134) (v := ?_) (a' := ?_) #[true, true, true, true, false, false, false, true, true, false, false, false, false, false] rfl rfl (take_ofW HT_.out HW_.out (by kernel_rfl)) (fun _ _ _ h => h) (Or.inl ⟨by rfl, ?_⟩) hHeld ?_ ?_
               rotate_left
               ·rintro w' ⟨s0, s1, s2, s3, s4, s5⟩
                go_simp; with_reducible rfl
               rotate_left
               ·exact x12_put
               refine take_ (i := 4) (N := some 137) (v := ?_) (a' := ?_) #[true, true, true, true, true, false, false, true, true, false, false, false, false, false] rfl rfl (take_ofW HT_.out HW_.out (by kernel_rfl)) (fun _ _ _ h => h) (Or.inl ⟨by rfl, ?_⟩) hHeld ?_ ?_
               rotate_left
               ·rintro w' ⟨s0, s1, s2, s3, s4, s5⟩
                go_simp; with_reducible rfl
               rotate_left
               ·exact x12_put
               refine pzv (i := 5) (N := 138) (v := ?_) (a' := ?_) #[true, true, true, true, true, true, false, true, true, false, false, false, false, false] HT_ ?_ ?_ ?_
               rotate_left
               ·intro w'
                go_simp; with_reducible rfl
               rotate_left
               ·exact x12_put
               refine pzv (i := 6) (N := 139) (v := ?_) (a' := ?_) y12_41 HT_ ?_ ?_ ?_
               rotate_left
               ·intro w'
                go_simp; with_reducible rfl
               rotate_left
               ·exact x12_put
               refine take_ (i := 9) (N := some 142) (v := ?_) (a' := ?_) y12_43 rfl rfl (take_ofW HT_.out HW_.out (by kernel_rfl)) (fun _ _ _ h => h) (Or.inl ⟨by rfl, ?_⟩) hHeld ?_ ?_
               rotate_left
               ·rintro w' ⟨s0, s1, s2, s3, s4, s5⟩
                go_simp; with_reducible rfl
               rotate_left
               ·exact x12_put
               refine pzv (i := 10) (N := 143) (v := ?_) (a' := ?_) y12_45 HT_ ?_ ?_ ?_
               rotate_left
               ·intro w'
                go_simp; with_reducible rfl
               rotate_left
               ·exact x12_put
               refine pzv (i := 11) (N := 144) (v := ?_) (a' := ?_) y12_47 HT_ ?_ ?_ ?_
               rotate_left
               ·intro w'
                go_simp; with_reducible rfl
               rotate_left
               ·exact x12_put
               refine one_ (i := 12) (N := some 12) y12_49 rfl rfl (one_of HT_.out (by kernel_rfl)) (by decide) (fun K hK => ?_)
               refine box_step ?hg (N := 12) ?hd (cs := #[.int .i64 0, .int .i64 0]) (t := 32) ?hr ?_; (case hd => rfl); (case hg => rfl); (case hr => first | (go_simp; done) | (go_simp; rfl))
               intro gb432 hg w120 hbox hb
               have HS4_ := (hb.cell (World.block_lt_of_cell? _ _ (hHeld.2.2.2.2.1))).trans (hHeld.2.2.2.2.1)
               have HS5_ := (hb.cell (World.block_lt_of_cell? _ _ (hHeld.2.2.2.2.2))).trans (hHeld.2.2.2.2.2)
               have n0_ := Aside0.mk (Kd.R_below (Kd.R_elderB z12_39 gb432 (Nat.le_of_eq hg.symm)) hb)
               have n1_ := Aside0.mk (Kd.R_below z12_24 hb)
               have n2_ := Aside0.mk (blk_belowB BK384 z12_13 hb)
               have n3_ := Aside0.mk (blk_belowB BK385 z12_15 hb)
               have n4_ := Aside0.mk (blk_belowB BK386 z12_14 hb)
               have n5_ := Aside0.mk (blk_belowB BK387 z12_16 hb)
               have n6_ := Aside0.mk (blk_belowB BK426 z12_20 hb)
               have n7_ := Aside0.mk (below_step z12_19 hb)
               have n8_ := Aside0.mk (hbox)
               have n9_ := Aside0.mk (ge_go (a := w.heap.size) hg (below_size z12_19))
               have n10_ := Aside0.mk (ge_go (a := w.heap.size) hg (below_size z12_19))
               have n11_ := Aside0.mk (nb_lt hg (blk_ltB BK384 z12_13))
               have n12_ := Aside0.mk (nb_gt hg (blk_ltB BK384 z12_13))
               have n13_ := Aside0.mk (nb_lt hg (blk_ltB BK385 z12_15))
               have n14_ := Aside0.mk (nb_gt hg (blk_ltB BK385 z12_15))
               have n15_ := Aside0.mk (nb_lt hg (blk_ltB BK386 z12_14))
               have n16_ := Aside0.mk (nb_gt hg (blk_ltB BK386 z12_14))
               have n17_ := Aside0.mk (nb_lt hg (blk_ltB BK387 z12_16))
               have n18_ := Aside0.mk (nb_gt hg (blk_ltB BK387 z12_16))
               have n19_ := Aside0.mk (nb_lt hg (blk_ltB BK426 z12_20))
               have n20_ := Aside0.mk (nb_gt hg (blk_ltB BK426 z12_20))
               clear HO421; clear HO429; clear BK384; clear BK385; clear BK386; clear BK387; clear BK426; clear HB; have HO421 := n0_; have HO429 := n1_; have BK384 := n2_; have BK385 := n3_; have BK386 := n4_; have BK387 := n5_; have BK426 := n6_; have HB := n7_; have BK432 := n8_; have GW432 := n9_; have GE432 := n10_; have NB384_432 := n11_; have NB432_384 := n12_; have NB385_432 := n13_; have NB432_385 := n14_; have NB386_432 := n15_; have NB432_386 := n16_; have NB387_432 := n17_; have NB432_387 := n18_; have NB426_432 := n19_; have NB432_426 := n20_; clear n0_ n1_ n2_ n3_ n4_ n5_ n6_ n7_ n8_ n9_ n10_ n11_ n12_ n13_ n14_ n15_ n16_ n17_ n18_ n19_ n20_; clear hb hbox hg
               refine hK.out _ _ ⟨(blk_cell BK426.out 0).trans rfl, (blk_cell BK426.out 1).trans rfl, (blk_cell BK426.out 2).trans rfl, (blk_cell BK426.out 3).trans rfl, HS4_, HS5_⟩ (fun hHeld => ?_)
               clear hK K
               refine norm_ (a' := ?_) ?_ ?_
               rotate_left
               ·show Act.put _ (some 12) _ = _
                simp only [Act.put, List.setIfInBounds_toArray, List.set_cons_zero, List.set_cons_succ, i64_w, i32_w]
                rfl
               refine one_ (i := 13) (N := none) y12_52 rfl rfl (one_of HT_.out (by kernel_rfl)) (by decide) (fun K hK => ?_)
               have hs121 : w120.cell? ⟨gb432, 0, none⟩ = some (.int .i64 0) := (blk_cell BK432.out 0).trans rfl
               have hfs121 := blk_frozen BK432.out 0
               have hns121_0 := NB384_432.out; have hns121_1 := NB385_432.out; have hns121_2 := NB386_432.out; have hns121_3 := NB387_432.out; have hns121_4 := NB426_432.out; have hms121_0 := NB432_384.out; have hms121_1 := NB432_385.out; have hms121_2 := NB432_386.out; have hms121_3 := NB432_387.out; have hms121_4 := NB432_426.out
               have hs122 : w120.cell? ⟨gb432, 1, none⟩ = some (.int .i64 0) := (blk_cell BK432.out 1).trans rfl
               have hfs122 := blk_frozen BK432.out 1
               have hns122_0 := NB384_432.out; have hns122_1 := NB385_432.out; have hns122_2 := NB386_432.out; have hns122_3 := NB387_432.out; have hns122_4 := NB426_432.out; have hms122_0 := NB432_384.out; have hms122_1 := NB432_385.out; have hms122_2 := NB432_386.out; have hms122_3 := NB432_387.out; have hms122_4 := NB432_426.out
               refine skip_ (w1 := ?_) ?hwx ?hN ?_ ?_; (case hwx => rfl); (case hN => rfl)
               rotate_left
               ·go_simp
                rfl
               refine hK.out _ _ ⟨((cell_far (p := ⟨gb432, _, none⟩) NB426_432.out _).trans (((cell_far (p := ⟨gb432, _, none⟩) NB426_432.out _).trans (hHeld.1)))), ((cell_far (p := ⟨gb432, _, none⟩) NB426_432.out _).trans (((cell_far (p := ⟨gb432, _, none⟩) NB426_432.out _).trans (hHeld.2.1)))), ((cell_far (p := ⟨gb432, _, none⟩) NB426_432.out _).trans (((cell_far (p := ⟨gb432, _, none⟩) NB426_432.out _).trans (hHeld.2.2.1)))), ((cell_far (p := ⟨gb432, _, none⟩) NB426_432.out _).trans (((cell_far (p := ⟨gb432, _, none⟩) NB426_432.out _).trans (hHeld.2.2.2.1)))), (by refine (cell_far (p := ⟨gb432, _, none⟩) ?_ _).trans ((cell_far (p := ⟨gb432, _, none⟩) ?_ _).trans (hHeld.2.2.2.2.1)) <;> ((try dsimp only); exact z12_22)), (by refine (cell_far (p := ⟨gb432, _, none⟩) ?_ _).trans ((cell_far (p := ⟨gb432, _, none⟩) ?_ _).trans (hHeld.2.2.2.2.2)) <;> ((try dsimp only); exact z12_22))⟩ (fun hHeld => ?_)
               clear hK K
               refine done_ (done_of HT_.out (by kernel_rfl)) ?_
               try go_wp2
               obtain ⟨w123, hw_⟩ : ∃ w_ : World, w_ = ((w120.setCell ⟨gb432, 0, none⟩ (.int .i64 (wrap64 (t424 + (Int.tmod (rd t427 0) 50))))).setCell ⟨gb432, 1, none⟩ (.int .i64 (wrap64 ((rd t427 1) - 5000)))) := ⟨_, rfl⟩
               have n0_ : Aside0 (Kd.R k32 32 w123 w.heap.size (fun k_ => k_ ≠ gb386 ∧ k_ ≠ gb432) (.slice Ao109 t419.length co109) t419) := ⟨(by rw [hw_]; (with_reducible repeat (first | apply Kd.R_alloc | apply Kd.R_drewN | apply Kd.R_drew)); exact Kd.R_mono (Kd.R_far (p := ⟨gb432, 1, none⟩) (Kd.R_far (p := ⟨gb432, 0, none⟩) (Kd.R_mono HO421.out (fun k_ hk => (⟨hk, hk.2⟩ : _ ∧ k_ ≠ gb432))) (fun _ hk => hk.2) (.int .i64 (wrap64 (t424 + (Int.tmod (rd t427 0) 50))))) (fun _ hk => hk.2) (.int .i64 (wrap64 ((rd t427 1) - 5000)))) (fun _ hk => ⟨hk.1.1.2, hk.1.2⟩))⟩
               have n1_ : Aside0 (Kd.R (Kd.int .i64) 3 w123 w.heap.size (fun _ => True) (.slice (some ad430) t427.length co119) t427) := ⟨(by rw [hw_]; (with_reducible repeat (first | apply Kd.R_alloc | apply Kd.R_drewN | apply Kd.R_drew)); exact Kd.R_mono (Kd.R_far (p := ⟨gb432, 1, none⟩) (Kd.R_far (p := ⟨gb432, 0, none⟩) (Kd.R_types HO429.out BK432.out (by decide)) (fun _ hk => hk.2) (.int .i64 (wrap64 (t424 + (Int.tmod (rd t427 0) 50))))) (fun _ hk => hk.2) (.int .i64 (wrap64 ((rd t427 1) - 5000)))) (fun _ hk => trivial))⟩
               have n2_ : Aside0 (w123.heap[gb384]? = some (.cells #[.int .i64 t374, .int .i64 t375, .int .i64 t376, .int .i64 t377] 35 (0, 0))) := ⟨(by rw [hw_]; (with_reducible repeat (first | refine blk_drewN ?_ _ | refine blk_drew ?_ | refine blk_alloc ?_ _)); refine blk_far ?_ NB384_432.out _; (with_reducible repeat (first | refine blk_drewN ?_ _ | refine blk_drew ?_ | refine blk_alloc ?_ _)); refine blk_far ?_ NB384_432.out _; (with_reducible repeat (first | refine blk_drewN ?_ _ | refine blk_drew ?_ | refine blk_alloc ?_ _)); exact BK384.out)⟩
               have n3_ : Aside0 (w123.heap[gb385]? = some (.cells #[.int .i64 t378, .int .i64 t379, .int .i64 t380, .int .i64 t381] 35 (0, 0))) := ⟨(by rw [hw_]; (with_reducible repeat (first | refine blk_drewN ?_ _ | refine blk_drew ?_ | refine blk_alloc ?_ _)); refine blk_far ?_ NB385_432.out _; (with_reducible repeat (first | refine blk_drewN ?_ _ | refine blk_drew ?_ | refine blk_alloc ?_ _)); refine blk_far ?_ NB385_432.out _; (with_reducible repeat (first | refine blk_drewN ?_ _ | refine blk_drew ?_ | refine blk_alloc ?_ _)); exact BK385.out)⟩
               have n4_ : Aside0 (w123.heap[gb386]? = some (.cells #[.int .i64 t382, .int .i64 t383] 32 (0, 0))) := ⟨(by rw [hw_]; (with_reducible repeat (first | refine blk_drewN ?_ _ | refine blk_drew ?_ | refine blk_alloc ?_ _)); refine blk_far ?_ NB386_432.out _; (with_reducible repeat (first | refine blk_drewN ?_ _ | refine blk_drew ?_ | refine blk_alloc ?_ _)); refine blk_far ?_ NB386_432.out _; (with_reducible repeat (first | refine blk_drewN ?_ _ | refine blk_drew ?_ | refine blk_alloc ?_ _)); exact BK386.out)⟩
               have n5_ : Aside0 (w123.heap[gb387]? = some (.cells #[.int .i64 (wrap64 (256 * t374)), .int .i64 (wrap64 (256 * t375)), .int .i64 (wrap64 (256 * t376)), .int .i64 (wrap64 (256 * t377))] 35 (0, 0))) := ⟨(by rw [hw_]; (with_reducible repeat (first | refine blk_drewN ?_ _ | refine blk_drew ?_ | refine blk_alloc ?_ _)); refine blk_far ?_ NB387_432.out _; (with_reducible repeat (first | refine blk_drewN ?_ _ | refine blk_drew ?_ | refine blk_alloc ?_ _)); refine blk_far ?_ NB387_432.out _; (with_reducible repeat (first | refine blk_drewN ?_ _ | refine blk_drew ?_ | refine blk_alloc ?_ _)); exact BK387.out)⟩
               have n6_ : Aside0 (w123.heap[gb426]? = some (.cells #[.int .i64 t422, .int .i64 t423, .int .i64 t424, .int .i64 t425] 35 (0, 0))) := ⟨(by rw [hw_]; (with_reducible repeat (first | refine blk_drewN ?_ _ | refine blk_drew ?_ | refine blk_alloc ?_ _)); refine blk_far ?_ NB426_432.out _; (with_reducible repeat (first | refine blk_drewN ?_ _ | refine blk_drew ?_ | refine blk_alloc ?_ _)); refine blk_far ?_ NB426_432.out _; (with_reducible repeat (first | refine blk_drewN ?_ _ | refine blk_drew ?_ | refine blk_alloc ?_ _)); exact BK426.out)⟩
               have n7_ : Aside0 (w123.heap[gb432]? = some (.cells #[.int .i64 (wrap64 (t424 + (Int.tmod (rd t427 0) 50))), .int .i64 (wrap64 ((rd t427 1) - 5000))] 32 (0, 0))) := ⟨(by rw [hw_]; (with_reducible repeat (first | refine blk_drewN ?_ _ | refine blk_drew ?_ | refine blk_alloc ?_ _)); refine blk_put (cs := #[.int .i64 (wrap64 (t424 + (Int.tmod (rd t427 0) 50))), .int .i64 0]) ?_ 1 _ rfl; (with_reducible repeat (first | refine blk_drewN ?_ _ | refine blk_drew ?_ | refine blk_alloc ?_ _)); refine blk_put (cs := #[.int .i64 0, .int .i64 0]) ?_ 0 _ rfl; (with_reducible repeat (first | refine blk_drewN ?_ _ | refine blk_drew ?_ | refine blk_alloc ?_ _)); exact BK432.out)⟩
               have n8_ : Aside0 (Below w.heap.size w w123) := ⟨(by rw [hw_]; repeat (first | (with_reducible first | exact HB.out | apply below_alloc | apply pw_below_drewN | apply below_drew1 | refine below_set ?_ GE384.out | refine below_set ?_ GE385.out | refine below_set ?_ GE386.out | refine below_set ?_ GE387.out | refine below_set ?_ GE426.out | refine below_set ?_ GE432.out) | exact HB.out))⟩
               (try clear HO421); (try clear HO429); (try clear BK384); (try clear BK385); (try clear BK386); (try clear BK387); (try clear BK426); (try clear BK432); (try clear HB)
               rw [← hw_]; clear hw_; have HO421 := n0_; have HO429 := n1_; have BK384 := n2_; have BK385 := n3_; have BK386 := n4_; have BK387 := n5_; have BK426 := n6_; have BK432 := n7_; have HB := n8_; clear n0_ n1_ n2_ n3_ n4_ n5_ n6_ n7_ n8_
               have n0_ := Aside0.mk (Kd.R_drew HO421.out)
               have n1_ := Aside0.mk (Kd.R_drew HO429.out)
               have n2_ := Aside0.mk (blk_drew BK384.out)
               have n3_ := Aside0.mk (blk_drew BK385.out)
               have n4_ := Aside0.mk (blk_drew BK386.out)
               have n5_ := Aside0.mk (blk_drew BK387.out)
               have n6_ := Aside0.mk (blk_drew BK426.out)
               have n7_ := Aside0.mk (blk_drew BK432.out)
               have n8_ := Aside0.mk (below_drew1 HB.out)
               clear HO421; clear HO429; clear BK384; clear BK385; clear BK386; clear BK387; clear BK426; clear BK432; clear HB; have HO421 := n0_; have HO429 := n1_; have BK384 := n2_; have BK385 := n3_; have BK386 := n4_; have BK387 := n5_; have BK426 := n6_; have BK432 := n7_; have HB := n8_; clear n0_ n1_ n2_ n3_ n4_ n5_ n6_ n7_ n8_
               have p433 : 0 ≤ (0 : Int) := (by omega)
               have q433 : 0 < (t427.length : Int) := of_decide_eq_true (by first | (with_reducible assumption) | assumption)
               obtain ⟨ad433, e433, hx433_0⟩ := Kd.at_int (Kd.R_reads' HO429.out).2.2 0 p433 q433
               obtain rfl : ad430 = ad433 := (by injection e433)
               have qi433 : (0 < t427.length) = True := eq_true (by omega)
               (try rw [show ((0 : Int)).toNat = 0 from rfl] at hx433_0)
               (try rw [Addr.add_zero'] at hx433_0)
               replace p433 := eq_true p433
               replace q433 := eq_true q433
               have p434 : 0 ≤ (1 : Int) := (by omega)
               have q434 : 1 < (t427.length : Int) := of_decide_eq_true (by first | (with_reducible assumption) | assumption)
               obtain ⟨ad434, e434, hx434_0⟩ := Kd.at_int (Kd.R_reads' HO429.out).2.2 1 p434 q434
               obtain rfl : ad430 = ad434 := (by injection e434)
               (try simp only [show (1 : Int).toNat = 1 from rfl, Nat.reduceMul, Nat.reduceEqDiff, Go.Addr.add, ↓reduceIte] at hx434_0)
               have qi434 : (1 < t427.length) = True := eq_true (by omega)
               (try rw [show ((1 : Int)).toNat = 1 from rfl] at hx434_0)
               replace p434 := eq_true p434
               replace q434 := eq_true q434
               refine start_ (n := 15) (S := fun w' => w'.cell? ⟨gb426, 0, none⟩ = some (.int .i64 t422) ∧ w'.cell? ⟨gb426, 1, none⟩ = some (.int .i64 t423) ∧ w'.cell? ⟨gb426, 2, none⟩ = some (.int .i64 t424) ∧ w'.cell? ⟨gb426, 3, none⟩ = some (.int .i64 t425) ∧ w'.cell? ad430 = some (.int .i64 (rd t427 0)) ∧ w'.cell? ⟨ad430.block, ad430.off + 1, none⟩ = some (.int .i64 (rd t427 1))) (ds := []) #[false, false, false, false, false, false, false, false, false, false, false, false, false, false, false] (by kernel_rfl) rfl rfl ⟨(blk_cell BK426.out 0).trans rfl, (blk_cell BK426.out 1).trans rfl, (blk_cell BK426.out 2).trans rfl, (blk_cell BK426.out 3).trans rfl, hx433_0, hx434_0⟩ (fun hHeld => ?_); refine with_tabW laws_FnCovers.tab17 laws_FnCovers.bits17 (fun HT_ HW_ => ?_)
               generalize w123.drew = w124 at HO421 HO429 BK384 BK385 BK386 BK387 BK426 BK432 HB hx433_0 hx434_0 hHeld ⊢
               refine pzv (i := 0) (N := 145) (v := ?_) (a' := ?_) #[true, false, false, false, false, false, false, false, false, false, false, false, false, false, false] HT_ ?_ ?_ ?_
               rotate_left
               ·intro w'
                go_simp; with_reducible rfl
               rotate_left
               ·exact x12_put
               refine pzv (i := 1) (N := 146) (v := ?_) (a' := ?_) #[true, true, false, false, false, false, false, false, false, false, false, false, false, false, false] HT_ ?_ ?_ ?_
               rotate_left
               ·intro w'
                go_simp; with_reducible rfl
               rotate_left
               ·exact x12_put
               refine pzv (i := 4) (N := 149) (v := ?_) (a' := ?_) #[true, true, false, false, true, false, false, false, false, false, false, false, false, false, false] HT_ ?_ ?_ ?_
               rotate_left
               ·intro w'
                go_simp; with_reducible rfl
               rotate_left
               ·exact x12_put
               refine pzv (i := 7) (N := 152) (v := ?_) (a' := ?_) #[true, true, false, false, true, false, false, true, false, false, false, false, false, false, false] HT_ ?_ ?_ ?_
               rotate_left
               ·intro w'
                go_simp; with_reducible rfl
               rotate_left
               ·exact x12_put
               refine pzv (i := 8) (N := 153) (v := ?_) (a' := ?_) #[true, true, false, false, true, false, false, true, true, false, false, false, false, false, false] HT_ ?_ ?_ ?_
               rotate_left
               ·intro w'
                go_simp; with_reducible rfl
               rotate_left
               ·exact x12_put
               refine take_ (i := 2) (N := some 147) (v := ?_) (a' := ?_) #[true, true, true, false, true, false, false, true, true, false, false, false, false, false, false] rfl rfl (take_ofW HT_.out HW_.out (by kernel_rfl)) (fun _ _ _ h => h) (Or.inl ⟨by rfl, ?_⟩) hHeld ?_ ?_
               rotate_left
               ·rintro w' ⟨s0, s1, s2, s3, s4, s5⟩
                go_simp; with_reducible rfl
               rotate_left
               ·exact x12_put
               refine pzv (i := 3) (N := 148) (v := ?_) (a' := ?_) #[true, true, true, true, true, false, false, true, true, false, false, false, false, false, false] HT_ ?_ ?_ ?_
               rotate_left
               ·intro w'
                go_simp; with_reducible rfl
               rotate_left
               ·exact x12_put
               refine take_ (i := 5) (N := some 150) (v := ?_) (a' := ?_) #[true, true, true, true, true, true, false, true, true, false, false, false, false, false, false] rfl rfl (take_ofW HT_.out HW_.out (by kernel_rfl)) (fun _ _ _ h => h) (Or.inl ⟨by rfl, ?_⟩) hHeld ?_ ?_
               rotate_left
               ·rintro w' ⟨s0, s1, s2, s3, s4, s5⟩
                go_simp; with_reducible rfl
               rotate_left
               ·exact x12_put
               refine pzv (i := 6) (N := 151) (v := ?_) (a' := ?_) #[true, true, true, true, true, true, true, true, true, false, false, false, false, false, false] HT_ ?_ ?_ ?_
               rotate_left
               ·intro w'
                go_simp; with_reducible rfl
               rotate_left
               ·exact x12_put
               refine take_ (i := 9) (N := some 154) (v := ?_) (a' := ?_) #[true, true, true, true, true, true, true, true, true, true, false, false, false, false, false] rfl rfl (take_ofW HT_.out HW_.out (by kernel_rfl)) (fun _ _ _ h => h) (Or.inl ⟨by rfl, ?_⟩) hHeld ?_ ?_
               rotate_left
               ·rintro w' ⟨s0, s1, s2, s3, s4, s5⟩
                go_simp; with_reducible rfl
               rotate_left
               ·exact x12_put
               refine pzv (i := 10) (N := 155) (v := ?_) (a' := ?_) #[true, true, true, true, true, true, true, true, true, true, true, false, false, false, false] HT_ ?_ ?_ ?_
               rotate_left
               ·intro w'
                go_simp; with_reducible rfl
               rotate_left
               ·exact x12_put
               refine pzv (i := 11) (N := 156) (v := ?_) (a' := ?_) #[true, true, true, true, true, true, true, true, true, true, true, true, false, false, false] HT_ ?_ ?_ ?_
               rotate_left
               ·intro w'
                go_simp; with_reducible rfl
               rotate_left
               ·exact x12_put
               refine pzv (i := 12) (N := 157) (v := ?_) (a' := ?_) #[true, true, true, true, true, true, true, true, true, true, true, true, true, false, false] HT_ ?_ ?_ ?_
               rotate_left
               ·intro w'
                go_simp; with_reducible rfl
               rotate_left
               ·exact x12_put
               refine one_ (i := 13) (N := some 13) #[true, true, true, true, true, true, true, true, true, true, true, true, true, true, false] rfl rfl (one_of HT_.out (by kernel_rfl)) (by decide) (fun K hK => ?_)
               refine box_step ?hg (N := 13) ?hd (cs := #[.int .i64 0, .int .i64 0]) (t := 32) ?hr ?_; (case hd => rfl); (case hg => rfl); (case hr => first | (go_simp; done) | (go_simp; rfl))
               intro gb435 hg w125 hbox hb
               have HS4_ := (hb.cell (World.block_lt_of_cell? _ _ (hHeld.2.2.2.2.1))).trans (hHeld.2.2.2.2.1)
               have HS5_ := (hb.cell (World.block_lt_of_cell? _ _ (hHeld.2.2.2.2.2))).trans (hHeld.2.2.2.2.2)
               have n0_ := Aside0.mk (Kd.R_below (Kd.R_elderB z12_39 gb435 (Nat.le_of_eq hg.symm)) hb)
               have n1_ := Aside0.mk (Kd.R_below z12_24 hb)
               have n2_ := Aside0.mk (blk_belowB BK384 z12_13 hb)
               have n3_ := Aside0.mk (blk_belowB BK385 z12_15 hb)
               have n4_ := Aside0.mk (blk_belowB BK386 z12_14 hb)
               have n5_ := Aside0.mk (blk_belowB BK387 z12_16 hb)
               have n6_ := Aside0.mk (blk_belowB BK426 z12_20 hb)
               have n7_ := Aside0.mk (blk_belowB BK432 z12_21 hb)
               have n8_ := Aside0.mk (below_step z12_29 hb)
               have n9_ := Aside0.mk (hbox)
               have n10_ := Aside0.mk (ge_go (a := w.heap.size) hg (below_size z12_29))
               have n11_ := Aside0.mk (ge_go (a := w.heap.size) hg (below_size z12_29))
               have n12_ := Aside0.mk (nb_lt hg (blk_ltB BK384 z12_13))
               have n13_ := Aside0.mk (nb_gt hg (blk_ltB BK384 z12_13))
               have n14_ := Aside0.mk (nb_lt hg (blk_ltB BK385 z12_15))
               have n15_ := Aside0.mk (nb_gt hg (blk_ltB BK385 z12_15))
               have n16_ := Aside0.mk (nb_lt hg (blk_ltB BK386 z12_14))
               have n17_ := Aside0.mk (nb_gt hg (blk_ltB BK386 z12_14))
               have n18_ := Aside0.mk (nb_lt hg (blk_ltB BK387 z12_16))
               have n19_ := Aside0.mk (nb_gt hg (blk_ltB BK387 z12_16))
               have n20_ := Aside0.mk (nb_lt hg (blk_ltB BK426 z12_20))
               have n21_ := Aside0.mk (nb_gt hg (blk_ltB BK426 z12_20))
               have n22_ := Aside0.mk (nb_lt hg (blk_ltB BK432 z12_21))
               have n23_ := Aside0.mk (nb_gt hg (blk_ltB BK432 z12_21))
               clear HO421; clear HO429; clear BK384; clear BK385; clear BK386; clear BK387; clear BK426; clear BK432; clear HB; have HO421 := n0_; have HO429 := n1_; have BK384 := n2_; have BK385 := n3_; have BK386 := n4_; have BK387 := n5_; have BK426 := n6_; have BK432 := n7_; have HB := n8_; have BK435 := n9_; have GW435 := n10_; have GE435 := n11_; have NB384_435 := n12_; have NB435_384 := n13_; have NB385_435 := n14_; have NB435_385 := n15_; have NB386_435 := n16_; have NB435_386 := n17_; have NB387_435 := n18_; have NB435_387 := n19_; have NB426_435 := n20_; have NB435_426 := n21_; have NB432_435 := n22_; have NB435_432 := n23_; clear n0_ n1_ n2_ n3_ n4_ n5_ n6_ n7_ n8_ n9_ n10_ n11_ n12_ n13_ n14_ n15_ n16_ n17_ n18_ n19_ n20_ n21_ n22_ n23_; clear hb hbox hg
               refine hK.out _ _ ⟨(blk_cell BK426.out 0).trans rfl, (blk_cell BK426.out 1).trans rfl, (blk_cell BK426.out 2).trans rfl, (blk_cell BK426.out 3).trans rfl, HS4_, HS5_⟩ (fun hHeld => ?_)
               clear hK K
               refine norm_ (a' := ?_) ?_ ?_
               rotate_left
               ·show Act.put _ (some 13) _ = _
                simp only [Act.put, List.setIfInBounds_toArray, List.set_cons_zero, List.set_cons_succ, i64_w, i32_w]
                rfl
               refine one_ (i := 14) (N := none) #[true, true, true, true, true, true, true, true, true, true, true, true, true, true, true] rfl rfl (one_of HT_.out (by kernel_rfl)) (by decide) (fun K hK => ?_)
               have hs126 : w125.cell? ⟨gb435, 0, none⟩ = some (.int .i64 0) := (blk_cell BK435.out 0).trans rfl
               have hfs126 := blk_frozen BK435.out 0
               have hns126_0 := NB384_435.out; have hns126_1 := NB385_435.out; have hns126_2 := NB386_435.out; have hns126_3 := NB387_435.out; have hns126_4 := NB426_435.out; have hns126_5 := NB432_435.out; have hms126_0 := NB435_384.out; have hms126_1 := NB435_385.out; have hms126_2 := NB435_386.out; have hms126_3 := NB435_387.out; have hms126_4 := NB435_426.out; have hms126_5 := NB435_432.out
               have hs127 : w125.cell? ⟨gb435, 1, none⟩ = some (.int .i64 0) := (blk_cell BK435.out 1).trans rfl
               have hfs127 := blk_frozen BK435.out 1
               have hns127_0 := NB384_435.out; have hns127_1 := NB385_435.out; have hns127_2 := NB386_435.out; have hns127_3 := NB387_435.out; have hns127_4 := NB426_435.out; have hns127_5 := NB432_435.out; have hms127_0 := NB435_384.out; have hms127_1 := NB435_385.out; have hms127_2 := NB435_386.out; have hms127_3 := NB435_387.out; have hms127_4 := NB435_426.out; have hms127_5 := NB435_432.out
               refine skip_ (w1 := ?_) ?hwx ?hN ?_ ?_; (case hwx => rfl); (case hN => rfl)
               rotate_left
               ·go_simp
                rfl
               refine hK.out _ _ ⟨((cell_far (p := ⟨gb435, _, none⟩) NB426_435.out _).trans (((cell_far (p := ⟨gb435, _, none⟩) NB426_435.out _).trans (hHeld.1)))), ((cell_far (p := ⟨gb435, _, none⟩) NB426_435.out _).trans (((cell_far (p := ⟨gb435, _, none⟩) NB426_435.out _).trans (hHeld.2.1)))), ((cell_far (p := ⟨gb435, _, none⟩) NB426_435.out _).trans (((cell_far (p := ⟨gb435, _, none⟩) NB426_435.out _).trans (hHeld.2.2.1)))), ((cell_far (p := ⟨gb435, _, none⟩) NB426_435.out _).trans (((cell_far (p := ⟨gb435, _, none⟩) NB426_435.out _).trans (hHeld.2.2.2.1)))), (by refine (cell_far (p := ⟨gb435, _, none⟩) ?_ _).trans ((cell_far (p := ⟨gb435, _, none⟩) ?_ _).trans (hHeld.2.2.2.2.1)) <;> ((try dsimp only); exact z12_23)), (by refine (cell_far (p := ⟨gb435, _, none⟩) ?_ _).trans ((cell_far (p := ⟨gb435, _, none⟩) ?_ _).trans (hHeld.2.2.2.2.2)) <;> ((try dsimp only); exact z12_23))⟩ (fun hHeld => ?_)
               clear hK K
               refine done_ (done_of HT_.out (by kernel_rfl)) ?_
               obtain ⟨w128, hw_⟩ : ∃ w_ : World, w_ = ((w125.setCell ⟨gb435, 0, none⟩ (.int .i64 (wrap64 ((rd t427 0) - 5000)))).setCell ⟨gb435, 1, none⟩ (.int .i64 (wrap64 ((wrap64 (t423 - 1)) - (Int.tmod (rd t427 1) 50))))) := ⟨_, rfl⟩
               have n0_ : Aside0 (Kd.R k32 32 w128 w.heap.size (fun k_ => k_ ≠ gb386 ∧ k_ ≠ gb432 ∧ k_ ≠ gb435) (.slice Ao109 t419.length co109) t419) := ⟨(by rw [hw_]; (with_reducible repeat (first | apply Kd.R_alloc | apply Kd.R_drewN | apply Kd.R_drew)); exact Kd.R_mono (Kd.R_far (p := ⟨gb435, 1, none⟩) (Kd.R_far (p := ⟨gb435, 0, none⟩) (Kd.R_mono HO421.out (fun k_ hk => (⟨hk, hk.2⟩ : _ ∧ k_ ≠ gb435))) (fun _ hk => hk.2) (.int .i64 (wrap64 ((rd t427 0) - 5000)))) (fun _ hk => hk.2) (.int .i64 (wrap64 ((wrap64 (t423 - 1)) - (Int.tmod (rd t427 1) 50))))) (fun _ hk => ⟨hk.1.1.1, ⟨hk.1.1.2, hk.1.2⟩⟩))⟩
               have n1_ : Aside0 (Kd.R (Kd.int .i64) 3 w128 w.heap.size (fun _ => True) (.slice (some ad430) t427.length co119) t427) := ⟨(by rw [hw_]; (with_reducible repeat (first | apply Kd.R_alloc | apply Kd.R_drewN | apply Kd.R_drew)); exact Kd.R_mono (Kd.R_far (p := ⟨gb435, 1, none⟩) (Kd.R_far (p := ⟨gb435, 0, none⟩) (Kd.R_types HO429.out BK435.out (by decide)) (fun _ hk => hk.2) (.int .i64 (wrap64 ((rd t427 0) - 5000)))) (fun _ hk => hk.2) (.int .i64 (wrap64 ((wrap64 (t423 - 1)) - (Int.tmod (rd t427 1) 50))))) (fun _ hk => trivial))⟩
               have n2_ : Aside0 (w128.heap[gb384]? = some (.cells #[.int .i64 t374, .int .i64 t375, .int .i64 t376, .int .i64 t377] 35 (0, 0))) := ⟨(by rw [hw_]; (with_reducible repeat (first | refine blk_drewN ?_ _ | refine blk_drew ?_ | refine blk_alloc ?_ _)); refine blk_far ?_ NB384_435.out _; (with_reducible repeat (first | refine blk_drewN ?_ _ | refine blk_drew ?_ | refine blk_alloc ?_ _)); refine blk_far ?_ NB384_435.out _; (with_reducible repeat (first | refine blk_drewN ?_ _ | refine blk_drew ?_ | refine blk_alloc ?_ _)); exact BK384.out)⟩
               have n3_ : Aside0 (w128.heap[gb385]? = some (.cells #[.int .i64 t378, .int .i64 t379, .int .i64 t380, .int .i64 t381] 35 (0, 0))) := ⟨(by rw [hw_]; (with_reducible repeat (first | refine blk_drewN ?_ _ | refine blk_drew ?_ | refine blk_alloc ?_ _)); refine blk_far ?_ NB385_435.out _; (with_reducible repeat (first | refine blk_drewN ?_ _ | refine blk_drew ?_ | refine blk_alloc ?_ _)); refine blk_far ?_ NB385_435.out _; (with_reducible repeat (first | refine blk_drewN ?_ _ | refine blk_drew ?_ | refine blk_alloc ?_ _)); exact BK385.out)⟩
               have n4_ : Aside0 (w128.heap[gb386]? = some (.cells #[.int .i64 t382, .int .i64 t383] 32 (0, 0))) := ⟨(by rw [hw_]; (with_reducible repeat (first | refine blk_drewN ?_ _ | refine blk_drew ?_ | refine blk_alloc ?_ _)); refine blk_far ?_ NB386_435.out _; (with_reducible repeat (first | refine blk_drewN ?_ _ | refine blk_drew ?_ | refine blk_alloc ?_ _)); refine blk_far ?_ NB386_435.out _; (with_reducible repeat (first | refine blk_drewN ?_ _ | refine blk_drew ?_ | refine blk_alloc ?_ _)); exact BK386.out)⟩
               have n5_ : Aside0 (w128.heap[gb387]? = some (.cells #[.int .i64 (wrap64 (256 * t374)), .int .i64 (wrap64 (256 * t375)), .int .i64 (wrap64 (256 * t376)), .int .i64 (wrap64 (256 * t377))] 35 (0, 0))) := ⟨(by rw [hw_]; (with_reducible repeat (first | refine blk_drewN ?_ _ | refine blk_drew ?_ | refine blk_alloc ?_ _)); refine blk_far ?_ NB387_435.out _; (with_reducible repeat (first | refine blk_drewN ?_ _ | refine blk_drew ?_ | refine blk_alloc ?_ _)); refine blk_far ?_ NB387_435.out _; (with_reducible repeat (first | refine blk_drewN ?_ _ | refine blk_drew ?_ | refine blk_alloc ?_ _)); exact BK387.out)⟩
               have n6_ : Aside0 (w128.heap[gb426]? = some (.cells #[.int .i64 t422, .int .i64 t423, .int .i64 t424, .int .i64 t425] 35 (0, 0))) := ⟨(by rw [hw_]; (with_reducible repeat (first | refine blk_drewN ?_ _ | refine blk_drew ?_ | refine blk_alloc ?_ _)); refine blk_far ?_ NB426_435.out _; (with_reducible repeat (first | refine blk_drewN ?_ _ | refine blk_drew ?_ | refine blk_alloc ?_ _)); refine blk_far ?_ NB426_435.out _; (with_reducible repeat (first | refine blk_drewN ?_ _ | refine blk_drew ?_ | refine blk_alloc ?_ _)); exact BK426.out)⟩
               have n7_ : Aside0 (w128.heap[gb432]? = some (.cells #[.int .i64 (wrap64 (t424 + (Int.tmod (rd t427 0) 50))), .int .i64 (wrap64 ((rd t427 1) - 5000))] 32 (0, 0))) := ⟨(by rw [hw_]; (with_reducible repeat (first | refine blk_drewN ?_ _ | refine blk_drew ?_ | refine blk_alloc ?_ _)); refine blk_far ?_ NB432_435.out _; (with_reducible repeat (first | refine blk_drewN ?_ _ | refine blk_drew ?_ | refine blk_alloc ?_ _)); refine blk_far ?_ NB432_435.out _; (with_reducible repeat (first | refine blk_drewN ?_ _ | refine blk_drew ?_ | refine blk_alloc ?_ _)); exact BK432.out)⟩
               have n8_ : Aside0 (w128.heap[gb435]? = some (.cells #[.int .i64 (wrap64 ((rd t427 0) - 5000)), .int .i64 (wrap64 ((wrap64 (t423 - 1)) - (Int.tmod (rd t427 1) 50)))] 32 (0, 0))) := ⟨(by rw [hw_]; (with_reducible repeat (first | refine blk_drewN ?_ _ | refine blk_drew ?_ | refine blk_alloc ?_ _)); refine blk_put (cs := #[.int .i64 (wrap64 ((rd t427 0) - 5000)), .int .i64 0]) ?_ 1 _ rfl; (with_reducible repeat (first | refine blk_drewN ?_ _ | refine blk_drew ?_ | refine blk_alloc ?_ _)); refine blk_put (cs := #[.int .i64 0, .int .i64 0]) ?_ 0 _ rfl; (with_reducible repeat (first | refine blk_drewN ?_ _ | refine blk_drew ?_ | refine blk_alloc ?_ _)); exact BK435.out)⟩
               have n9_ : Aside0 (Below w.heap.size w w128) := ⟨(by rw [hw_]; repeat (first | (with_reducible first | exact HB.out | apply below_alloc | apply pw_below_drewN | apply below_drew1 | refine below_set ?_ GE384.out | refine below_set ?_ GE385.out | refine below_set ?_ GE386.out | refine below_set ?_ GE387.out | refine below_set ?_ GE426.out | refine below_set ?_ GE432.out | refine below_set ?_ GE435.out) | exact HB.out))⟩
               (try clear HO421); (try clear HO429); (try clear BK384); (try clear BK385); (try clear BK386); (try clear BK387); (try clear BK426); (try clear BK432); (try clear BK435); (try clear HB)
               rw [← hw_]; clear hw_; have HO421 := n0_; have HO429 := n1_; have BK384 := n2_; have BK385 := n3_; have BK386 := n4_; have BK387 := n5_; have BK426 := n6_; have BK432 := n7_; have BK435 := n8_; have HB := n9_; clear n0_ n1_ n2_ n3_ n4_ n5_ n6_ n7_ n8_ n9_
               have n_ := Aside0.mk (Kd.R_V (base' := w.heap.size) (Kd.R_types (Kd.R_types (Kd.R_types (Kd.R_types (Kd.R_apart' (HO421.out) (Kd.R_typed HO429.out) (by decide)) BK384.out (by decide)) BK385.out (by decide)) BK387.out (by decide)) BK426.out (by decide)))
               clear HO421; have HO421 := n_; clear n_
               try go_wp2_with (first | ((with_reducible refine gate_dst (N := 159) rfl ?_); (try (refine gate_guard (by rfl) ?_; dsimp only)); refine Kd.N_lit (Kd.slice 32 k32) _ 24 ?hg (N' := 159) ?hd (xs := ([t419] : List (List (S32)))) (inner := [.slice Ao109 t419.length co109]) (ok := (fun k_ => some k_ ≠ (.slice (some ad430) t427.length co119 : Value).ownBlock ∧ k_ ≠ gb384 ∧ k_ ≠ gb385 ∧ k_ ≠ gb386 ∧ k_ ≠ gb387 ∧ k_ ≠ gb426 ∧ k_ ≠ gb432 ∧ k_ ≠ gb435)) (okp := (fun k_ => some k_ ≠ (.slice (some ad430) t427.length co119 : Value).ownBlock ∧ k_ ≠ gb384 ∧ k_ ≠ gb385 ∧ k_ ≠ gb386 ∧ k_ ≠ gb387 ∧ k_ ≠ gb426 ∧ k_ ≠ gb432 ∧ k_ ≠ gb435)) ?hr ?hp (fun _ hk => hk) ((show ∀ k_, w128.heap.size ≤ k_ → (fun k_ => some k_ ≠ (.slice (some ad430) t427.length co119 : Value).ownBlock ∧ k_ ≠ gb384 ∧ k_ ≠ gb385 ∧ k_ ≠ gb386 ∧ k_ ≠ gb387 ∧ k_ ≠ gb426 ∧ k_ ≠ gb432 ∧ k_ ≠ gb435) k_ from fun k_ hk => ⟨Kd.fresh' (Kd.R_lt z12_24) k_ hk, Kd.freshB (g := gb384) (o := .cells #[.int .i64 t374, .int .i64 t375, .int .i64 t376, .int .i64 t377] 35 (0, 0)) z12_13 k_ hk, Kd.freshB (g := gb385) (o := .cells #[.int .i64 t378, .int .i64 t379, .int .i64 t380, .int .i64 t381] 35 (0, 0)) z12_15 k_ hk, Kd.freshB (g := gb386) (o := .cells #[.int .i64 t382, .int .i64 t383] 32 (0, 0)) z12_14 k_ hk, Kd.freshB (g := gb387) (o := .cells #[.int .i64 (wrap64 (256 * t374)), .int .i64 (wrap64 (256 * t375)), .int .i64 (wrap64 (256 * t376)), .int .i64 (wrap64 (256 * t377))] 35 (0, 0)) z12_16 k_ hk, Kd.freshB (g := gb426) (o := .cells #[.int .i64 t422, .int .i64 t423, .int .i64 t424, .int .i64 t425] 35 (0, 0)) z12_20 k_ hk, Kd.freshB (g := gb432) (o := .cells #[.int .i64 (wrap64 (t424 + (Int.tmod (rd t427 0) 50))), .int .i64 (wrap64 ((rd t427 1) - 5000))] 32 (0, 0)) z12_21 k_ hk, Kd.freshB (g := gb435) (o := .cells #[.int .i64 (wrap64 ((rd t427 0) - 5000)), .int .i64 (wrap64 ((wrap64 (t423 - 1)) - (Int.tmod (rd t427 1) 50)))] 32 (0, 0)) z12_25 k_ hk⟩) _ (Nat.le_refl _)) (Below.refl _ _) (Nat.le_refl _) (by simp) ?_; (case hd => rfl); (case hg => rfl); (case hr => first | (go_simp; done) | (go_simp; rfl)); (case hp => exact (Reps.one (show Kd.FK (Kd.slice 32 k32) _ _ t419 [.slice Ao109 t419.length co109] from (Kd.FK_slice_mk (Kd.V_reads' (Kd.V_mono (ok' := (fun k_ => some k_ ≠ (.slice (some ad430) t427.length co119 : Value).ownBlock ∧ k_ ≠ gb384 ∧ k_ ≠ gb385 ∧ k_ ≠ gb386 ∧ k_ ≠ gb387 ∧ k_ ≠ gb426 ∧ k_ ≠ gb432 ∧ k_ ≠ gb435)) (HO421.out) (fun k_ hk => ⟨hk.1.1.1.1.2, ⟨hk.1.1.1.2, ⟨hk.1.1.2, ⟨hk.1.1.1.1.1.1, ⟨hk.1.2, ⟨hk.2, ⟨hk.1.1.1.1.1.2.1, hk.1.1.1.1.1.2.2⟩⟩⟩⟩⟩⟩⟩))).2.1 (Kd.V_F (by (with_reducible repeat (first | apply Kd.V_alloc | apply Kd.V_drewN | apply Kd.V_drew)); exact (Kd.V_mono (ok' := (fun k_ => some k_ ≠ (.slice (some ad430) t427.length co119 : Value).ownBlock ∧ k_ ≠ gb384 ∧ k_ ≠ gb385 ∧ k_ ≠ gb386 ∧ k_ ≠ gb387 ∧ k_ ≠ gb426 ∧ k_ ≠ gb432 ∧ k_ ≠ gb435)) (HO421.out) (fun k_ hk => ⟨hk.1.1.1.1.2, ⟨hk.1.1.1.2, ⟨hk.1.1.2, ⟨hk.1.1.1.1.1.1, ⟨hk.1.2, ⟨hk.2, ⟨hk.1.1.1.1.1.2.1, hk.1.1.1.1.1.2.2⟩⟩⟩⟩⟩⟩⟩)))))) (Reps.none _ _))); intro v437 w129 ho130 hb hg_ hnew_; clear hg_ hnew_; (first | rw [← Ny436.out] at ho130 | (simp only [Int.reduceToNat] at ho130; rw [← Ny436.out] at ho130)); have n0_ := Aside0.mk (Kd.V_elder' z12_35 (Kd.N_base ho130) hb); have n1_ := Aside0.mk (Kd.R_below z12_24 hb); have n2_ := Aside0.mk (Kd.N_lower ho130 (below_size z12_17)); have n3_ := Aside0.mk (blk_belowB BK384 z12_13 hb); have n4_ := Aside0.mk (blk_belowB BK385 z12_15 hb); have n5_ := Aside0.mk (blk_belowB BK386 z12_14 hb); have n6_ := Aside0.mk (blk_belowB BK387 z12_16 hb); have n7_ := Aside0.mk (blk_belowB BK426 z12_20 hb); have n8_ := Aside0.mk (blk_belowB BK432 z12_21 hb); have n9_ := Aside0.mk (blk_belowB BK435 z12_25 hb); have n10_ := Aside0.mk (below_step z12_17 hb); clear HO421; clear HO429; clear BK384; clear BK385; clear BK386; clear BK387; clear BK426; clear BK432; clear BK435; clear HB; have HO421 := n0_; have HO429 := n1_; have HO438 := n2_; have BK384 := n3_; have BK385 := n4_; have BK386 := n5_; have BK387 := n6_; have BK426 := n7_; have BK432 := n8_; have BK435 := n9_; have HB := n10_; clear n0_ n1_ n2_ n3_ n4_ n5_ n6_ n7_ n8_ n9_ n10_; clear hb ho130; have hnb131 := NB432_384.out; have hnc131 := NB384_432.out; have hnb132 := NB432_385.out; have hnc132 := NB385_432.out; have hnb133 := NB432_386.out; have hnc133 := NB386_432.out; have hnb134 := NB432_387.out; have hnc134 := NB387_432.out; have hnb135 := NB432_426.out; have hnc135 := NB426_432.out; have hnb136 := NB432_435.out; have hnc136 := NB435_432.out; obtain ⟨_, _, _, _⟩ := be_2 BK432.out; obtain ⟨Ao138, co138, eo138⟩ := Kd.N_slice HO438.out; subst eo138) | ((with_reducible refine gate_callee (f := 28) rfl ?_); refine goesL_ (some 161) rfl rfl Try.func28 (by kernel_rfl) rfl #[.slice Ao138 y436.length co138, .bool false, .agg #[.int .i64 (wrap64 (t424 + (Int.tmod (rd t427 0) 50))), .int .i64 (wrap64 ((rd t427 1) - 5000))]] rfl z12_18 ?_; (with_reducible refine (impl_Covers.calls kj75 _ _ y436 false (wrap64 (t424 + (Int.tmod (rd t427 0) 50))) (wrap64 ((rd t427 1) - 5000)) false _ ?side1 ?side2 A103.out).mono ?_); (case side1 => repeat (first | exact (Kd.N_reads' HO438.out).2.2 | (with_reducible refine Kd.C_alloc ?_ _) | (with_reducible refine Kd.C_drewN ?_ _) | (with_reducible refine Kd.C_drew ?_))); (case side2 => exact (Kd.N_reads' HO438.out).2.1); rintro e w139 ⟨rfl, hb⟩; refine ⟨_, rfl, ?_⟩; have n0_ := Aside0.mk (Kd.V_below z12_35 hb); have n1_ := Aside0.mk (Kd.R_below z12_24 hb); have n2_ := Aside0.mk (Kd.N_below z12_36 hb); have n3_ := Aside0.mk (blk_belowB BK384 z12_13 hb); have n4_ := Aside0.mk (blk_belowB BK385 z12_15 hb); have n5_ := Aside0.mk (blk_belowB BK386 z12_14 hb); have n6_ := Aside0.mk (blk_belowB BK387 z12_16 hb); have n7_ := Aside0.mk (blk_belowB BK426 z12_20 hb); have n8_ := Aside0.mk (blk_belowB BK432 z12_21 hb); have n9_ := Aside0.mk (blk_belowB BK435 z12_25 hb); have n10_ := Aside0.mk (below_step z12_17 hb); clear HO421; clear HO429; clear HO438; clear BK384; clear BK385; clear BK386; clear BK387; clear BK426; clear BK432; clear BK435; clear HB; have HO421 := n0_; have HO429 := n1_; have HO438 := n2_; have BK384 := n3_; have BK385 := n4_; have BK386 := n5_; have BK387 := n6_; have BK426 := n7_; have BK432 := n8_; have BK435 := n9_; have HB := n10_; clear n0_ n1_ n2_ n3_ n4_ n5_ n6_ n7_ n8_ n9_ n10_; (try clear hb); (try clear hk)) | ((with_reducible refine gate_dst (N := 165) rfl ?_); (try (refine gate_guard (by rfl) ?_; dsimp only)); refine Kd.N_lit (Kd.slice 32 k32) _ 24 ?hg (N' := 165) ?hd (xs := ([t419] : List (List (S32)))) (inner := [.slice Ao109 t419.length co109]) (ok := (fun k_ => some k_ ≠ (.slice (some ad430) t427.length co119 : Value).ownBlock ∧ some k_ ≠ (.slice Ao138 y436.length co138 : Value).ownBlock ∧ k_ ≠ gb384 ∧ k_ ≠ gb385 ∧ k_ ≠ gb386 ∧ k_ ≠ gb387 ∧ k_ ≠ gb426 ∧ k_ ≠ gb432 ∧ k_ ≠ gb435)) (okp := (fun k_ => some k_ ≠ (.slice (some ad430) t427.length co119 : Value).ownBlock ∧ some k_ ≠ (.slice Ao138 y436.length co138 : Value).ownBlock ∧ k_ ≠ gb384 ∧ k_ ≠ gb385 ∧ k_ ≠ gb386 ∧ k_ ≠ gb387 ∧ k_ ≠ gb426 ∧ k_ ≠ gb432 ∧ k_ ≠ gb435)) ?hr ?hp (fun _ hk => hk) ((show ∀ k_, w139.heap.size ≤ k_ → (fun k_ => some k_ ≠ (.slice (some ad430) t427.length co119 : Value).ownBlock ∧ some k_ ≠ (.slice Ao138 y436.length co138 : Value).ownBlock ∧ k_ ≠ gb384 ∧ k_ ≠ gb385 ∧ k_ ≠ gb386 ∧ k_ ≠ gb387 ∧ k_ ≠ gb426 ∧ k_ ≠ gb432 ∧ k_ ≠ gb435) k_ from fun k_ hk => ⟨Kd.fresh' (Kd.R_lt z12_24) k_ hk, Kd.fresh' (Kd.N_lt z12_36) k_ hk, Kd.freshB (g := gb384) (o := .cells #[.int .i64 t374, .int .i64 t375, .int .i64 t376, .int .i64 t377] 35 (0, 0)) z12_13 k_ hk, Kd.freshB (g := gb385) (o := .cells #[.int .i64 t378, .int .i64 t379, .int .i64 t380, .int .i64 t381] 35 (0, 0)) z12_15 k_ hk, Kd.freshB (g := gb386) (o := .cells #[.int .i64 t382, .int .i64 t383] 32 (0, 0)) z12_14 k_ hk, Kd.freshB (g := gb387) (o := .cells #[.int .i64 (wrap64 (256 * t374)), .int .i64 (wrap64 (256 * t375)), .int .i64 (wrap64 (256 * t376)), .int .i64 (wrap64 (256 * t377))] 35 (0, 0)) z12_16 k_ hk, Kd.freshB (g := gb426) (o := .cells #[.int .i64 t422, .int .i64 t423, .int .i64 t424, .int .i64 t425] 35 (0, 0)) z12_20 k_ hk, Kd.freshB (g := gb432) (o := .cells #[.int .i64 (wrap64 (t424 + (Int.tmod (rd t427 0) 50))), .int .i64 (wrap64 ((rd t427 1) - 5000))] 32 (0, 0)) z12_21 k_ hk, Kd.freshB (g := gb435) (o := .cells #[.int .i64 (wrap64 ((rd t427 0) - 5000)), .int .i64 (wrap64 ((wrap64 (t423 - 1)) - (Int.tmod (rd t427 1) 50)))] 32 (0, 0)) z12_25 k_ hk⟩) _ (Nat.le_refl _)) (Below.refl _ _) (Nat.le_refl _) (by simp) ?_; (case hd => rfl); (case hg => rfl); (case hr => first | (go_simp; done) | (go_simp; rfl)); (case hp => exact (Reps.one (show Kd.FK (Kd.slice 32 k32) _ _ t419 [.slice Ao109 t419.length co109] from (Kd.FK_slice_mk (Kd.V_reads' (Kd.V_mono (ok' := (fun k_ => some k_ ≠ (.slice (some ad430) t427.length co119 : Value).ownBlock ∧ some k_ ≠ (.slice Ao138 y436.length co138 : Value).ownBlock ∧ k_ ≠ gb384 ∧ k_ ≠ gb385 ∧ k_ ≠ gb386 ∧ k_ ≠ gb387 ∧ k_ ≠ gb426 ∧ k_ ≠ gb432 ∧ k_ ≠ gb435)) (HO421.out) (fun k_ hk => ⟨hk.1.1.1.1.1.2, ⟨hk.2, ⟨hk.1.1.1.1.2, ⟨hk.1.1.1.2, ⟨hk.1.1.1.1.1.1.1, ⟨hk.1.1.2, ⟨hk.1.2, ⟨hk.1.1.1.1.1.1.2.1, hk.1.1.1.1.1.1.2.2⟩⟩⟩⟩⟩⟩⟩⟩))).2.1 (Kd.V_F (by (with_reducible repeat (first | apply Kd.V_alloc | apply Kd.V_drewN | apply Kd.V_drew)); exact (Kd.V_mono (ok' := (fun k_ => some k_ ≠ (.slice (some ad430) t427.length co119 : Value).ownBlock ∧ some k_ ≠ (.slice Ao138 y436.length co138 : Value).ownBlock ∧ k_ ≠ gb384 ∧ k_ ≠ gb385 ∧ k_ ≠ gb386 ∧ k_ ≠ gb387 ∧ k_ ≠ gb426 ∧ k_ ≠ gb432 ∧ k_ ≠ gb435)) (HO421.out) (fun k_ hk => ⟨hk.1.1.1.1.1.2, ⟨hk.2, ⟨hk.1.1.1.1.2, ⟨hk.1.1.1.2, ⟨hk.1.1.1.1.1.1.1, ⟨hk.1.1.2, ⟨hk.1.2, ⟨hk.1.1.1.1.1.1.2.1, hk.1.1.1.1.1.1.2.2⟩⟩⟩⟩⟩⟩⟩⟩)))))) (Reps.none _ _))); intro v441 w140 ho141 hb hg_ hnew_; clear hg_ hnew_; (first | rw [← Ny440.out] at ho141 | (simp only [Int.reduceToNat] at ho141; rw [← Ny440.out] at ho141)); have n0_ := Aside0.mk (Kd.V_elder' z12_35 (Kd.N_base ho141) hb); have n1_ := Aside0.mk (Kd.R_below z12_24 hb); have n2_ := Aside0.mk (Kd.N_elder' z12_36 (Kd.N_base ho141) hb); have n3_ := Aside0.mk (Kd.N_lower ho141 (below_size z12_17)); have n4_ := Aside0.mk (blk_belowB BK384 z12_13 hb); have n5_ := Aside0.mk (blk_belowB BK385 z12_15 hb); have n6_ := Aside0.mk (blk_belowB BK386 z12_14 hb); have n7_ := Aside0.mk (blk_belowB BK387 z12_16 hb); have n8_ := Aside0.mk (blk_belowB BK426 z12_20 hb); have n9_ := Aside0.mk (blk_belowB BK432 z12_21 hb); have n10_ := Aside0.mk (blk_belowB BK435 z12_25 hb); have n11_ := Aside0.mk (below_step z12_17 hb); clear HO421; clear HO429; clear HO438; clear BK384; clear BK385; clear BK386; clear BK387; clear BK426; clear BK432; clear BK435; clear HB; have HO421 := n0_; have HO429 := n1_; have HO438 := n2_; have HO442 := n3_; have BK384 := n4_; have BK385 := n5_; have BK386 := n6_; have BK387 := n7_; have BK426 := n8_; have BK432 := n9_; have BK435 := n10_; have HB := n11_; clear n0_ n1_ n2_ n3_ n4_ n5_ n6_ n7_ n8_ n9_ n10_ n11_; clear hb ho141; have hnb142 := NB435_384.out; have hnc142 := NB384_435.out; have hnb143 := NB435_385.out; have hnc143 := NB385_435.out; have hnb144 := NB435_386.out; have hnc144 := NB386_435.out; have hnb145 := NB435_387.out; have hnc145 := NB387_435.out; have hnb146 := NB435_426.out; have hnc146 := NB426_435.out; obtain ⟨_, _, _, _⟩ := be_2 BK435.out; obtain ⟨Ao148, co148, eo148⟩ := Kd.N_slice HO442.out; subst eo148) | (go_at_call 28; (with_reducible refine (impl_Covers.calls kj75 _ _ y440 true (wrap64 ((rd t427 0) - 5000)) (wrap64 ((wrap64 (t423 - 1)) - (Int.tmod (rd t427 1) 50))) false _ ?side1 ?side2 A105.out).mono ?_); (case side1 => repeat (first | exact (Kd.N_reads' HO442.out).2.2 | (with_reducible refine Kd.C_alloc ?_ _) | (with_reducible refine Kd.C_drewN ?_ _) | (with_reducible refine Kd.C_drew ?_))); (case side2 => exact (Kd.N_reads' HO442.out).2.1); rintro e w149 ⟨rfl, hb⟩; have n0_ := Aside0.mk (Kd.V_below z12_35 hb); have n1_ := Aside0.mk (Kd.R_below z12_24 hb); have n2_ := Aside0.mk (Kd.N_below z12_36 hb); have n3_ := Aside0.mk (Kd.N_below (by (with_reducible repeat (first | apply Kd.N_alloc | apply Kd.N_drewN | apply Kd.N_drew)); exact HO442.out) hb); have n4_ := Aside0.mk (blk_belowB BK384 z12_13 hb); have n5_ := Aside0.mk (blk_belowB BK385 z12_15 hb); have n6_ := Aside0.mk (blk_belowB BK386 z12_14 hb); have n7_ := Aside0.mk (blk_belowB BK387 z12_16 hb); have n8_ := Aside0.mk (blk_belowB BK426 z12_20 hb); have n9_ := Aside0.mk (blk_belowB BK432 z12_21 hb); have n10_ := Aside0.mk (blk_belowB BK435 z12_25 hb); have n11_ := Aside0.mk (below_step z12_17 hb); clear HO421; clear HO429; clear HO438; clear HO442; clear BK384; clear BK385; clear BK386; clear BK387; clear BK426; clear BK432; clear BK435; clear HB; have HO421 := n0_; have HO429 := n1_; have HO438 := n2_; have HO442 := n3_; have BK384 := n4_; have BK385 := n5_; have BK386 := n6_; have BK387 := n7_; have BK426 := n8_; have BK432 := n9_; have BK435 := n10_; have HB := n11_; clear n0_ n1_ n2_ n3_ n4_ n5_ n6_ n7_ n8_ n9_ n10_ n11_; (try clear hb); (try clear hk); obtain ⟨_, _, _, _⟩ := be_2 BK432.out) | (go_at_call 30; (with_reducible refine (impl_WindOf.calls kj75 _ _ t419 (wrap64 (t424 + (Int.tmod (rd t427 0) 50))) (wrap64 ((rd t427 1) - 5000)) t444 _ ?side1 ?side2 A107.out).mono ?_); (case side1 => repeat (first | exact (Kd.V_reads' HO421.out).2.2 | (with_reducible refine Kd.C_alloc ?_ _) | (with_reducible refine Kd.C_drewN ?_ _) | (with_reducible refine Kd.C_drew ?_))); (case side2 => exact (Kd.V_reads' HO421.out).2.1); rintro e w151 ⟨rfl, hb⟩; have n0_ := Aside0.mk (Kd.V_below z12_35 hb); have n1_ := Aside0.mk (Kd.R_below z12_24 hb); have n2_ := Aside0.mk (Kd.N_below z12_36 hb); have n3_ := Aside0.mk (Kd.N_below (by (with_reducible repeat (first | apply Kd.N_alloc | apply Kd.N_drewN | apply Kd.N_drew)); exact HO442.out) hb); have n4_ := Aside0.mk (blk_belowB BK384 z12_13 hb); have n5_ := Aside0.mk (blk_belowB BK385 z12_15 hb); have n6_ := Aside0.mk (blk_belowB BK386 z12_14 hb); have n7_ := Aside0.mk (blk_belowB BK387 z12_16 hb); have n8_ := Aside0.mk (blk_belowB BK426 z12_20 hb); have n9_ := Aside0.mk (blk_belowB BK432 z12_21 hb); have n10_ := Aside0.mk (blk_belowB BK435 z12_25 hb); have n11_ := Aside0.mk (below_step z12_17 hb); clear HO421; clear HO429; clear HO438; clear HO442; clear BK384; clear BK385; clear BK386; clear BK387; clear BK426; clear BK432; clear BK435; clear HB; have HO421 := n0_; have HO429 := n1_; have HO438 := n2_; have HO442 := n3_; have BK384 := n4_; have BK385 := n5_; have BK386 := n6_; have BK387 := n7_; have BK426 := n8_; have BK432 := n9_; have BK435 := n10_; have HB := n11_; clear n0_ n1_ n2_ n3_ n4_ n5_ n6_ n7_ n8_ n9_ n10_ n11_; (try clear hb); (try clear hk)))
               go_ret
               exact ⟨(by first | rfl | (simp [errW_none, errW_some] <;> rfl) | (simp [*, errW_none, errW_some] <;> rfl)), z12_17⟩
            ·rw [if_neg c102] at H
             exact absurd H (by simp)
           ·rw [if_neg c101] at H
            exact absurd H (by simp)

/-- THE ONE PURE STATEMENT of laws_FnCovers: yours. -/
def laws_FnCovers.Pure : Prop := ∀ (l0 : List Int), l0.length ≤ maxLen → l0.length * 1 ≤ 140737488351232 → (∀ x ∈ l0, (Lit.int .u8 x).wf = true) → ∃ k, laws_FnCovers.f k l0 = some true
theorem laws_FnCovers.walk (P : laws_FnCovers.Pure) (a0 : Option Addr) (len0 cap0 : Nat) (z0 : List Int) (w : World) (w0 : (a0 = none ∧ len0 = 0 ∧ cap0 = 0 ∧ z0 = []) ∨ ∃ x, a0 = some x ∧ len0 ≤ cap0 ∧ cap0 ≤ maxLen ∧ z0.length = cap0 ∧ (∀ i, i < z0.length → w.cell? (x.add i) = some (.int .u8 (z0.getD i 0))) ∧ ∀ n ∈ z0, (Lit.int .u8 n).wf = true) (y0 : len0 * 1 ≤ 140737488351232) :
  Calls Try.prog 4 #[.slice a0 len0 cap0] w fun e w' => e = .returned (.bool true) ∧ Below w.heap.size w w' := by
 obtain ⟨l0, rfl, hr0, hm0, hw0, hc0⟩ := ReadsInt.ofRowC w0
 obtain ⟨k, h⟩ := P l0 hm0 y0 hw0
 refine (laws_FnCovers.calls k _ _ l0 true w (Kd.C_of_reads (d := (0 : Int)) (h1 := fun _ => rfl) hr0) hc0 rfl h).mono ?_
 rintro e w' ⟨rfl, hd⟩
 exact ⟨rfl, hd⟩

end Go.Proofs.Ytgdlbilpfmjeaaa.MFnCovers
