/- Functions of the program as Lean functions, and the proof that a call comes to just these: machine text of this session's own program (myprint.py). -/
import Derived.Test.YtghbenapnhcllaaMFnMaskOfx0
import Derived.Test.YtghbenapnhcllaaMFnMaskOfx2
import Derived.Test.YtghbenapnhcllaaMFnMaskOfx3
import Derived.Test.YtghbenapnhcllaaMFnMaskOfx4
import Derived.Test.YtghbenapnhcllaaMFnMaskOfx13
import Derived.Test.YtghbenapnhcllaaMFnMaskOfx15
import Derived.Test.YtghbenapnhcllaaMFnMaskOfx17
import Derived.Test.YtghbenapnhcllaaMFnMaskOfx18
namespace Go.Proofs.Ytghbenapnhcllaa.MFnMaskOf
open Go.RowKit Go.Proofs.YtghbenapnhcllaaW.PrintWords Go.Proofs.YtghbenapnhcllaaW.PrintLast Go.Proofs.YtghbenapnhcllaaW.PrintMore
attribute [local go_sem] max2_int min2_int max_two min_two max_three min_three max_four min_four   -- for this text's walks alone
set_option linter.unusedVariables false
set_option linter.unusedSimpArgs false

attribute [local go_sem high] eqA63
theorem z19_0 {P : Prop} (h : P := by (with_reducible repeat (first | apply Kd.R_alloc | apply Kd.R_drewN | apply Kd.R_drew)); exact (Kd.R_mono (Kd.R_far (p := ⟨gb606, 4, none⟩) (Kd.R_far (p := ⟨gb606, 3, none⟩) (Kd.R_far (p := ⟨gb606, 2, none⟩) (Kd.R_far (p := ⟨gb606, 1, none⟩) (Kd.R_far (p := ⟨gb606, 0, none⟩) (Kd.R_types HO597.out BK606.out (by decide)) (fun _ hk => hk.2) (.int .i64 t599)) (fun _ hk => hk.2) (.int .i64 t600)) (fun _ hk => hk.2) (.int .i64 t601)) (fun _ hk => hk.2) (.int .i64 t602)) (fun _ hk => hk.2) (.slice Ao23 t603.length co23)) (fun _ h_ => h_.1))) : P := h
theorem z19_1 {P : Prop} (h : P := by (with_reducible repeat (first | apply Kd.R_alloc | apply Kd.R_drewN | apply Kd.R_drew)); exact (Kd.R_mono (Kd.R_far (p := ⟨gb606, 4, none⟩) (Kd.R_far (p := ⟨gb606, 3, none⟩) (Kd.R_far (p := ⟨gb606, 2, none⟩) (Kd.R_far (p := ⟨gb606, 1, none⟩) (Kd.R_far (p := ⟨gb606, 0, none⟩) (Kd.R_types HO605.out BK606.out (by decide)) (fun _ hk => hk.2) (.int .i64 t599)) (fun _ hk => hk.2) (.int .i64 t600)) (fun _ hk => hk.2) (.int .i64 t601)) (fun _ hk => hk.2) (.int .i64 t602)) (fun _ hk => hk.2) (.slice Ao23 t603.length co23)) (fun _ h_ => h_.1))) : P := h
theorem z19_2 {P : Prop} (h : P := by repeat (first | (with_reducible first | exact HB.out | apply below_alloc | apply pw_below_drewN | apply below_drew1 | refine below_set ?_ GE590.out | refine below_set ?_ GE598.out | refine below_set ?_ GE606.out) | exact HB.out)) : P := h
theorem z19_3 {P : Prop} (h : P := by (try simp only [List.map_toArray, List.map_cons, List.map_nil]); first | done | rfl | (simp only [List.length_drop, List.length_take]; rfl)) : P := h
theorem z19_4 {P : Prop} (h : P := by (with_reducible repeat (first | refine blk_drewN ?_ _ | refine blk_drew ?_ | refine blk_alloc ?_ _)); exact BK590.out) : P := h
theorem z19_5 {P : Prop} (h : P := by (with_reducible repeat (first | refine blk_drewN ?_ _ | refine blk_drew ?_ | refine blk_alloc ?_ _)); refine blk_far ?_ NB590_606.out _; (with_reducible repeat (first | refine blk_drewN ?_ _ | refine blk_drew ?_ | refine blk_alloc ?_ _)); refine blk_far ?_ NB590_606.out _; (with_reducible repeat (first | refine blk_drewN ?_ _ | refine blk_drew ?_ | refine blk_alloc ?_ _)); refine blk_far ?_ NB590_606.out _; (with_reducible repeat (first | refine blk_drewN ?_ _ | refine blk_drew ?_ | refine blk_alloc ?_ _)); refine blk_far ?_ NB590_606.out _; (with_reducible repeat (first | refine blk_drewN ?_ _ | refine blk_drew ?_ | refine blk_alloc ?_ _)); refine blk_far ?_ NB590_606.out _; (with_reducible repeat (first | refine blk_drewN ?_ _ | refine blk_drew ?_ | refine blk_alloc ?_ _)); exact BK590.out) : P := h
theorem z19_6 {P : Prop} (h : P := by (with_reducible repeat (first | refine blk_drewN ?_ _ | refine blk_drew ?_ | refine blk_alloc ?_ _)); refine blk_far ?_ NB598_606.out _; (with_reducible repeat (first | refine blk_drewN ?_ _ | refine blk_drew ?_ | refine blk_alloc ?_ _)); refine blk_far ?_ NB598_606.out _; (with_reducible repeat (first | refine blk_drewN ?_ _ | refine blk_drew ?_ | refine blk_alloc ?_ _)); refine blk_far ?_ NB598_606.out _; (with_reducible repeat (first | refine blk_drewN ?_ _ | refine blk_drew ?_ | refine blk_alloc ?_ _)); refine blk_far ?_ NB598_606.out _; (with_reducible repeat (first | refine blk_drewN ?_ _ | refine blk_drew ?_ | refine blk_alloc ?_ _)); refine blk_far ?_ NB598_606.out _; (with_reducible repeat (first | refine blk_drewN ?_ _ | refine blk_drew ?_ | refine blk_alloc ?_ _)); exact BK598.out) : P := h
theorem z19_7 {P : Prop} (h : P := by repeat (first | (with_reducible first | exact HB.out | apply below_alloc | apply pw_below_drewN | apply below_drew1 | refine below_set ?_ GE590.out | refine below_set ?_ GE598.out) | exact HB.out)) : P := h
theorem z19_8 {P : Prop} (h : P := by repeat (first | (with_reducible first | exact HB.out | apply below_alloc | apply pw_below_drewN | apply below_drew1) | exact HB.out)) : P := h
theorem z19_9 {P : Prop} (h : P := by repeat (first | (with_reducible first | exact HB.out | apply below_alloc | apply pw_below_drewN | apply below_drew1 | refine below_set ?_ GE590.out) | exact HB.out)) : P := h
theorem z19_10 {P : Prop} (h : P := by (with_reducible repeat (first | refine blk_drewN ?_ _ | refine blk_drew ?_ | refine blk_alloc ?_ _)); exact BK598.out) : P := h
theorem z19_11 {P : Prop} (h : P := by (with_reducible repeat (first | apply Kd.N_alloc | apply Kd.N_drewN | apply Kd.N_drew)); exact (Kd.N_mono (Kd.N_far (p := ⟨gb598, 4, none⟩) (Kd.N_far (p := ⟨gb598, 3, none⟩) (Kd.N_far (p := ⟨gb598, 2, none⟩) (Kd.N_far (p := ⟨gb598, 1, none⟩) (Kd.N_far (p := ⟨gb598, 0, none⟩) (Kd.N_mono HO584.out (fun k_ hk => (⟨hk, hk.2⟩ : _ ∧ k_ ≠ gb598))) (fun _ hk => hk.2) (.int .i64 t591)) (fun _ hk => hk.2) (.int .i64 t592)) (fun _ hk => hk.2) (.int .i64 t593)) (fun _ hk => hk.2) (.int .i64 t594)) (fun _ hk => hk.2) (.slice Ao16 t595.length co16)) (fun _ h_ => h_.1))) : P := h
theorem z19_12 {P : Prop} (h : P := by (with_reducible repeat (first | apply Kd.N_alloc | apply Kd.N_drewN | apply Kd.N_drew)); exact (Kd.N_mono (Kd.N_far (p := ⟨gb606, 4, none⟩) (Kd.N_far (p := ⟨gb606, 3, none⟩) (Kd.N_far (p := ⟨gb606, 2, none⟩) (Kd.N_far (p := ⟨gb606, 1, none⟩) (Kd.N_far (p := ⟨gb606, 0, none⟩) (Kd.N_mono HO584.out (fun k_ hk => (⟨hk, hk.2⟩ : _ ∧ k_ ≠ gb606))) (fun _ hk => hk.2) (.int .i64 t599)) (fun _ hk => hk.2) (.int .i64 t600)) (fun _ hk => hk.2) (.int .i64 t601)) (fun _ hk => hk.2) (.int .i64 t602)) (fun _ hk => hk.2) (.slice Ao23 t603.length co23)) (fun _ h_ => h_.1))) : P := h
theorem z19_13 {P : Prop} (h : P := by (with_reducible repeat (first | apply Kd.R_alloc | apply Kd.R_drewN | apply Kd.R_drew)); exact (Kd.R_mono (Kd.R_far (p := ⟨gb598, 4, none⟩) (Kd.R_far (p := ⟨gb598, 3, none⟩) (Kd.R_far (p := ⟨gb598, 2, none⟩) (Kd.R_far (p := ⟨gb598, 1, none⟩) (Kd.R_far (p := ⟨gb598, 0, none⟩) (Kd.R_types HO597.out BK598.out (by decide)) (fun _ hk => hk.2) (.int .i64 t591)) (fun _ hk => hk.2) (.int .i64 t592)) (fun _ hk => hk.2) (.int .i64 t593)) (fun _ hk => hk.2) (.int .i64 t594)) (fun _ hk => hk.2) (.slice Ao16 t595.length co16)) (fun _ h_ => h_.1))) : P := h
theorem z19_14 {P : Prop} (h : P := by (with_reducible repeat (first | apply Kd.N_alloc | apply Kd.N_drewN | apply Kd.N_drew)); exact (Kd.N_mono (Kd.N_far (p := ⟨gb590, 3, none⟩) (Kd.N_far (p := ⟨gb590, 2, none⟩) (Kd.N_far (p := ⟨gb590, 1, none⟩) (Kd.N_far (p := ⟨gb590, 0, none⟩) (Kd.N_mono HO584.out (fun k_ hk => (⟨hk, hk.2⟩ : _ ∧ k_ ≠ gb590))) (fun _ hk => hk.2) (.int .i64 t586)) (fun _ hk => hk.2) (.int .i64 t587)) (fun _ hk => hk.2) (.int .i64 t588)) (fun _ hk => hk.2) (.int .i64 t589)) (fun _ h_ => h_.1))) : P := h
theorem z19_15 {P : Prop} (h : P := by (with_reducible repeat (first | apply Kd.N_alloc | apply Kd.N_drewN | apply Kd.N_drew)); exact HO584.out) : P := h
theorem z19_16 {P : Prop} (h : P := by repeat (first | exact HR0.out | (with_reducible refine Kd.C_alloc ?_ _) | (with_reducible refine Kd.C_drewN ?_ _) | (with_reducible refine Kd.C_drew ?_))) : P := h
theorem z19_17 {P : Prop} (h : P := by apply blk_fin; (focus ((with_reducible repeat (first | apply blk_putQ | refine blk_drewN ?_ _ | refine blk_drew ?_ | refine blk_alloc ?_ _)); exact BK606.out)); first | (simp only [List.setIfInBounds_toArray, List.set_cons_zero, List.set_cons_succ]; done) | rfl) : P := h
theorem z19_18 {P : Prop} (h : P := by (with_reducible repeat (first | refine blk_drewN ?_ _ | refine blk_drew ?_ | refine blk_alloc ?_ _)); exact BK606.out) : P := h
theorem z19_19 {P : Prop} (h : P := by (with_reducible repeat (first | apply Kd.R_alloc | apply Kd.R_drewN | apply Kd.R_drew)); exact HO597.out) : P := h
theorem z19_20 {P : Prop} (h : P := by first | rfl | (simp [errW_none, errW_some] <;> rfl) | (simp [*, errW_none, errW_some] <;> rfl)) : P := h
/-! ### laws_FnMaskOf: function 6 -/
mutual
def laws_FnMaskOf.j0 : Nat → List (List (S52)) → Bool → Bool → Int → Int → Int → Int → Int → Int → Int → Int → List Int → Option (Bool)
 | 0, _, _, _, _, _, _, _, _, _, _, _, _ => none
 | k + 1, x3, x4, x34, x591000, x591001, x591002, x591003, x599000, x599001, x599002, x599003, x599004 => if x34 = true then (some false) else (laws_FnMaskOf.l0 k x3 x4 x599001 x591000 x591001 x591002 x591003 x599000 x599001 x599002 x599003 x599004)
def laws_FnMaskOf.l0 : Nat → List (List (S52)) → Bool → Int → Int → Int → Int → Int → Int → Int → Int → Int → List Int → Option (Bool)
 | 0, _, _, _, _, _, _, _, _, _, _, _, _ => none
 | k + 1, x3, x4, x8, x591000, x591001, x591002, x591003, x599000, x599001, x599002, x599003, x599004 => if x8 < x599003 then (laws_FnMaskOf.l1 k x3 x4 x8 x599000 x591000 x591001 x591002 x591003 x599000 x599001 x599002 x599003 x599004) else (if (x599004.length : Int) = 0 then (some true) else (some (x599000 == x591000 && (x599001 == x591001 && (x599002 == x591002 && (x599003 == x591003))))))
def laws_FnMaskOf.l1 : Nat → List (List (S52)) → Bool → Int → Int → Int → Int → Int → Int → Int → Int → Int → Int → List Int → Option (Bool)
 | 0, _, _, _, _, _, _, _, _, _, _, _, _, _ => none
 | k + 1, x3, x4, x8, x9, x591000, x591001, x591002, x591003, x599000, x599001, x599002, x599003, x599004 => if x9 < x599002 then ((impl_BitsAt.f k x599000 x599001 x599002 x599003 x599004 x9 x8).bind fun t609 => ((spec_MaskAt.f k x3 x4 x9 x8).bind fun t610 => (if t609 = t610 then (laws_FnMaskOf.l1 k x3 x4 x8 (wrap64 (x9 + 1)) x591000 x591001 x591002 x591003 x599000 x599001 x599002 x599003 x599004) else (some false)))) else (laws_FnMaskOf.l0 k x3 x4 (wrap64 (x8 + 1)) x591000 x591001 x591002 x591003 x599000 x599001 x599002 x599003 x599004)
end
def laws_FnMaskOf.f (k : Nat) (l0 : List Int) : Option (Bool) := (laws_big.f l0).bind fun t581 => (if t581 = true then (some true) else ((spec_DrawMaskOf.f k l0).bind fun bt582 => ((impl_MaskOf.f k bt582.1 bt582.2.1 bt582.2.2.1 bt582.2.2.2.1 bt582.2.2.2.2.1 bt582.2.2.2.2.2).bind fun bt591 => ((spec_MaskOf.f k bt582.1 bt582.2.1 bt582.2.2.1 bt582.2.2.2.1 bt582.2.2.2.2.1 bt582.2.2.2.2.2).bind fun bt599 => ((laws_sameMask.f k bt591.1 bt591.2.1 bt591.2.2.1 bt591.2.2.2.1 bt591.2.2.2.2 bt599.1 bt599.2.1 bt599.2.2.1 bt599.2.2.2.1 bt599.2.2.2.2).bind fun t607 => (if t607 = true then ((impl_MaskOk.f k bt591.1 bt591.2.1 bt591.2.2.1 bt591.2.2.2.1 bt591.2.2.2.2).bind fun t608 => (laws_FnMaskOf.j0 k bt582.1 bt582.2.1 (!t608) bt582.2.2.1 bt582.2.2.2.1 bt582.2.2.2.2.1 bt582.2.2.2.2.2 bt591.1 bt591.2.1 bt591.2.2.1 bt591.2.2.2.1 bt591.2.2.2.2)) else (laws_FnMaskOf.j0 k bt582.1 bt582.2.1 true bt582.2.2.1 bt582.2.2.2.1 bt582.2.2.2.2.1 bt582.2.2.2.2.2 bt591.1 bt591.2.1 bt591.2.2.1 bt591.2.2.2.1 bt591.2.2.2.2)))))))
theorem laws_FnMaskOf.mono_l : ∀ k, (∀ y0 y1 y2 y3 y4 y5 y6 y7 y8 y9 y10 y11, LeO (laws_FnMaskOf.j0 k y0 y1 y2 y3 y4 y5 y6 y7 y8 y9 y10 y11) (laws_FnMaskOf.j0 (k + 1) y0 y1 y2 y3 y4 y5 y6 y7 y8 y9 y10 y11)) ∧ (∀ y0 y1 y2 y3 y4 y5 y6 y7 y8 y9 y10 y11, LeO (laws_FnMaskOf.l0 k y0 y1 y2 y3 y4 y5 y6 y7 y8 y9 y10 y11) (laws_FnMaskOf.l0 (k + 1) y0 y1 y2 y3 y4 y5 y6 y7 y8 y9 y10 y11)) ∧ (∀ y0 y1 y2 y3 y4 y5 y6 y7 y8 y9 y10 y11 y12, LeO (laws_FnMaskOf.l1 k y0 y1 y2 y3 y4 y5 y6 y7 y8 y9 y10 y11 y12) (laws_FnMaskOf.l1 (k + 1) y0 y1 y2 y3 y4 y5 y6 y7 y8 y9 y10 y11 y12))
 | 0 => ⟨fun _ _ _ _ _ _ _ _ _ _ _ _ r h => by simp [laws_FnMaskOf.j0] at h, fun _ _ _ _ _ _ _ _ _ _ _ _ r h => by simp [laws_FnMaskOf.l0] at h, fun _ _ _ _ _ _ _ _ _ _ _ _ _ r h => by simp [laws_FnMaskOf.l1] at h⟩
 | k + 1 => by
  obtain ⟨ih0, ih1, ih2⟩ := laws_FnMaskOf.mono_l k
  refine ⟨?_, ?_, ?_⟩
  ·intro y0 y1 y2 y3 y4 y5 y6 y7 y8 y9 y10 y11
   unfold laws_FnMaskOf.j0
   repeat' first
   | (with_reducible exact ih0 _ _ _ _ _ _ _ _ _ _ _ _)
   | (with_reducible exact ih1 _ _ _ _ _ _ _ _ _ _ _ _)
   | (with_reducible exact ih2 _ _ _ _ _ _ _ _ _ _ _ _ _)
   | (with_reducible exact impl_BitsAt.mono _ _ _ _ _ _ _ _)
   | (with_reducible exact impl_MaskOf.mono _ _ _ _ _ _ _)
   | (with_reducible exact impl_MaskOk.mono _ _ _ _ _ _)
   | (with_reducible exact laws_sameMask.mono _ _ _ _ _ _ _ _ _ _ _)
   | (with_reducible exact spec_DrawMaskOf.mono _ _)
   | (with_reducible exact spec_MaskAt.mono _ _ _ _ _)
   | (with_reducible exact spec_MaskOf.mono _ _ _ _ _ _ _)
   | (with_reducible exact LeO.refl _)
   | (with_reducible exact LeO.none _)
   | (with_reducible refine LeO.ite ?_ ?_)
   | (with_reducible refine LeO.bind ?_ (fun _ => ?_))
   | exact ih0 _ _ _ _ _ _ _ _ _ _ _ _
   | exact ih1 _ _ _ _ _ _ _ _ _ _ _ _
   | exact ih2 _ _ _ _ _ _ _ _ _ _ _ _ _
   | exact impl_BitsAt.mono _ _ _ _ _ _ _ _
   | exact impl_MaskOf.mono _ _ _ _ _ _ _
   | exact impl_MaskOk.mono _ _ _ _ _ _
   | exact laws_sameMask.mono _ _ _ _ _ _ _ _ _ _ _
   | exact spec_DrawMaskOf.mono _ _
   | exact spec_MaskAt.mono _ _ _ _ _
   | exact spec_MaskOf.mono _ _ _ _ _ _ _
   | exact LeO.none _
   | refine LeO.ite ?_ ?_
   | refine LeO.bind ?_ (fun _ => ?_)
  ·intro y0 y1 y2 y3 y4 y5 y6 y7 y8 y9 y10 y11
   unfold laws_FnMaskOf.l0
   repeat' first
   | (with_reducible exact ih0 _ _ _ _ _ _ _ _ _ _ _ _)
   | (with_reducible exact ih1 _ _ _ _ _ _ _ _ _ _ _ _)
   | (with_reducible exact ih2 _ _ _ _ _ _ _ _ _ _ _ _ _)
   | (with_reducible exact impl_BitsAt.mono _ _ _ _ _ _ _ _)
   | (with_reducible exact impl_MaskOf.mono _ _ _ _ _ _ _)
   | (with_reducible exact impl_MaskOk.mono _ _ _ _ _ _)
   | (with_reducible exact laws_sameMask.mono _ _ _ _ _ _ _ _ _ _ _)
   | (with_reducible exact spec_DrawMaskOf.mono _ _)
   | (with_reducible exact spec_MaskAt.mono _ _ _ _ _)
   | (with_reducible exact spec_MaskOf.mono _ _ _ _ _ _ _)
   | (with_reducible exact LeO.refl _)
   | (with_reducible exact LeO.none _)
   | (with_reducible refine LeO.ite ?_ ?_)
   | (with_reducible refine LeO.bind ?_ (fun _ => ?_))
   | exact ih0 _ _ _ _ _ _ _ _ _ _ _ _
   | exact ih1 _ _ _ _ _ _ _ _ _ _ _ _
   | exact ih2 _ _ _ _ _ _ _ _ _ _ _ _ _
   | exact impl_BitsAt.mono _ _ _ _ _ _ _ _
   | exact impl_MaskOf.mono _ _ _ _ _ _ _
   | exact impl_MaskOk.mono _ _ _ _ _ _
   | exact laws_sameMask.mono _ _ _ _ _ _ _ _ _ _ _
   | exact spec_DrawMaskOf.mono _ _
   | exact spec_MaskAt.mono _ _ _ _ _
   | exact spec_MaskOf.mono _ _ _ _ _ _ _
   | exact LeO.none _
   | refine LeO.ite ?_ ?_
   | refine LeO.bind ?_ (fun _ => ?_)
  ·intro y0 y1 y2 y3 y4 y5 y6 y7 y8 y9 y10 y11 y12
   unfold laws_FnMaskOf.l1
   repeat' first
   | (with_reducible exact ih0 _ _ _ _ _ _ _ _ _ _ _ _)
   | (with_reducible exact ih1 _ _ _ _ _ _ _ _ _ _ _ _)
   | (with_reducible exact ih2 _ _ _ _ _ _ _ _ _ _ _ _ _)
   | (with_reducible exact impl_BitsAt.mono _ _ _ _ _ _ _ _)
   | (with_reducible exact impl_MaskOf.mono _ _ _ _ _ _ _)
   | (with_reducible exact impl_MaskOk.mono _ _ _ _ _ _)
   | (with_reducible exact laws_sameMask.mono _ _ _ _ _ _ _ _ _ _ _)
   | (with_reducible exact spec_DrawMaskOf.mono _ _)
   | (with_reducible exact spec_MaskAt.mono _ _ _ _ _)
   | (with_reducible exact spec_MaskOf.mono _ _ _ _ _ _ _)
   | (with_reducible exact LeO.refl _)
   | (with_reducible exact LeO.none _)
   | (with_reducible refine LeO.ite ?_ ?_)
   | (with_reducible refine LeO.bind ?_ (fun _ => ?_))
   | exact ih0 _ _ _ _ _ _ _ _ _ _ _ _
   | exact ih1 _ _ _ _ _ _ _ _ _ _ _ _
   | exact ih2 _ _ _ _ _ _ _ _ _ _ _ _ _
   | exact impl_BitsAt.mono _ _ _ _ _ _ _ _
   | exact impl_MaskOf.mono _ _ _ _ _ _ _
   | exact impl_MaskOk.mono _ _ _ _ _ _
   | exact laws_sameMask.mono _ _ _ _ _ _ _ _ _ _ _
   | exact spec_DrawMaskOf.mono _ _
   | exact spec_MaskAt.mono _ _ _ _ _
   | exact spec_MaskOf.mono _ _ _ _ _ _ _
   | exact LeO.none _
   | refine LeO.ite ?_ ?_
   | refine LeO.bind ?_ (fun _ => ?_)
theorem laws_FnMaskOf.mono : ∀ a0 k, LeO (laws_FnMaskOf.f k a0) (laws_FnMaskOf.f (k + 1) a0) := by
 intro a0 k
 obtain ⟨ih0, ih1, ih2⟩ := laws_FnMaskOf.mono_l k
 unfold laws_FnMaskOf.f
 repeat' first
   | (with_reducible exact ih0 _ _ _ _ _ _ _ _ _ _ _ _)
   | (with_reducible exact ih1 _ _ _ _ _ _ _ _ _ _ _ _)
   | (with_reducible exact ih2 _ _ _ _ _ _ _ _ _ _ _ _ _)
   | (with_reducible exact impl_BitsAt.mono _ _ _ _ _ _ _ _)
   | (with_reducible exact impl_MaskOf.mono _ _ _ _ _ _ _)
   | (with_reducible exact impl_MaskOk.mono _ _ _ _ _ _)
   | (with_reducible exact laws_sameMask.mono _ _ _ _ _ _ _ _ _ _ _)
   | (with_reducible exact spec_DrawMaskOf.mono _ _)
   | (with_reducible exact spec_MaskAt.mono _ _ _ _ _)
   | (with_reducible exact spec_MaskOf.mono _ _ _ _ _ _ _)
   | (with_reducible exact LeO.refl _)
   | (with_reducible exact LeO.none _)
   | (with_reducible refine LeO.ite ?_ ?_)
   | (with_reducible refine LeO.bind ?_ (fun _ => ?_))
   | exact ih0 _ _ _ _ _ _ _ _ _ _ _ _
   | exact ih1 _ _ _ _ _ _ _ _ _ _ _ _
   | exact ih2 _ _ _ _ _ _ _ _ _ _ _ _ _
   | exact impl_BitsAt.mono _ _ _ _ _ _ _ _
   | exact impl_MaskOf.mono _ _ _ _ _ _ _
   | exact impl_MaskOk.mono _ _ _ _ _ _
   | exact laws_sameMask.mono _ _ _ _ _ _ _ _ _ _ _
   | exact spec_DrawMaskOf.mono _ _
   | exact spec_MaskAt.mono _ _ _ _ _
   | exact spec_MaskOf.mono _ _ _ _ _ _ _
   | exact LeO.none _
   | refine LeO.ite ?_ ?_
   | refine LeO.bind ?_ (fun _ => ?_)
set_option maxHeartbeats 8000000 in
set_option maxRecDepth 100000 in
theorem laws_FnMaskOf.calls (k : Nat) (A0 : Option Addr) (c0 : Nat) (l0 : List Int) (r : Bool) (w : World) (hr0 : Kd.C (Kd.int .u8) w A0 l0.length l0) (hc0 : l0.length ≤ c0) (hT : r = true) (h : laws_FnMaskOf.f k l0 = some r) :
  Calls Try.prog 6 #[.slice A0 l0.length c0] w fun e w' => e = .returned (.bool r) ∧ Below w.heap.size w w' := by
 have hu63 := Try.underlying63
 have hu65 := Try.underlying65
 have HR0 := Aside0.mk hr0
 have HC0 := Aside0.mk hc0
 clear hr0 hc0
 have HB := Aside0.mk (Below.refl w.heap.size w)
 have H : ((laws_big.f l0).bind fun t581 => (if t581 = true then (some true) else ((spec_DrawMaskOf.f k l0).bind fun bt582 => ((impl_MaskOf.f k bt582.1 bt582.2.1 bt582.2.2.1 bt582.2.2.2.1 bt582.2.2.2.2.1 bt582.2.2.2.2.2).bind fun bt591 => ((spec_MaskOf.f k bt582.1 bt582.2.1 bt582.2.2.1 bt582.2.2.2.1 bt582.2.2.2.2.1 bt582.2.2.2.2.2).bind fun bt599 => ((laws_sameMask.f k bt591.1 bt591.2.1 bt591.2.2.1 bt591.2.2.2.1 bt591.2.2.2.2 bt599.1 bt599.2.1 bt599.2.2.1 bt599.2.2.2.1 bt599.2.2.2.2).bind fun t607 => (if t607 = true then ((impl_MaskOk.f k bt591.1 bt591.2.1 bt591.2.2.1 bt591.2.2.2.1 bt591.2.2.2.2).bind fun t608 => (laws_FnMaskOf.j0 k bt582.1 bt582.2.1 (!t608) bt582.2.2.1 bt582.2.2.2.1 bt582.2.2.2.2.1 bt582.2.2.2.2.2 bt591.1 bt591.2.1 bt591.2.2.1 bt591.2.2.2.1 bt591.2.2.2.2)) else (laws_FnMaskOf.j0 k bt582.1 bt582.2.1 true bt582.2.2.1 bt582.2.2.2.1 bt582.2.2.2.2.1 bt582.2.2.2.2.2 bt591.1 bt591.2.1 bt591.2.2.1 bt591.2.2.2.1 bt591.2.2.2.2)))))))) = some r := h
 clear h
 replace H := Option.bind_eq_some_iff.mp H
 obtain ⟨t581, A20, H⟩ := H
 try dsimp only at H
 have A2 := Aside0.mk A20
 clear A20
 by_cases c3 : t581 = true
 ·subst c3
  have H1 : (some true) = some r := by rw [if_pos rfl] at H; exact H
  clear H; have H := H1; clear H1
  obtain rfl := Option.some.inj H
  simp only [Option.some.injEq, Prod.mk.injEq] at H
  obtain ⟨rfl⟩ := H
  go_enter Try.func6, Try.ntmps6
  go_wp2_with (first | ((with_reducible refine gate_callee (f := 24) rfl ?_); refine goesL_ (some 11) rfl rfl Try.func24 (by kernel_rfl) rfl #[.slice A0 l0.length c0] rfl z19_3 ?_; (with_reducible refine (laws_big.calls _ _ l0 true _ ?side1 ?side2 A2.out).mono ?_); (case side1 => exact z19_16); (case side2 => exact HC0.out); rintro e w' ⟨rfl, ⟨nd, rfl⟩⟩; refine ⟨_, rfl, ?_⟩))
  go_ret
  exact ⟨z19_20, z19_8⟩
 ·replace c3 := Bool.eq_false_iff.mpr c3
  subst c3
  have H1 : ((spec_DrawMaskOf.f k l0).bind fun bt582 => ((impl_MaskOf.f k bt582.1 bt582.2.1 bt582.2.2.1 bt582.2.2.2.1 bt582.2.2.2.2.1 bt582.2.2.2.2.2).bind fun bt591 => ((spec_MaskOf.f k bt582.1 bt582.2.1 bt582.2.2.1 bt582.2.2.2.1 bt582.2.2.2.2.1 bt582.2.2.2.2.2).bind fun bt599 => ((laws_sameMask.f k bt591.1 bt591.2.1 bt591.2.2.1 bt591.2.2.2.1 bt591.2.2.2.2 bt599.1 bt599.2.1 bt599.2.2.1 bt599.2.2.2.1 bt599.2.2.2.2).bind fun t607 => (if t607 = true then ((impl_MaskOk.f k bt591.1 bt591.2.1 bt591.2.2.1 bt591.2.2.2.1 bt591.2.2.2.2).bind fun t608 => (laws_FnMaskOf.j0 k bt582.1 bt582.2.1 (!t608) bt582.2.2.1 bt582.2.2.2.1 bt582.2.2.2.2.1 bt582.2.2.2.2.2 bt591.1 bt591.2.1 bt591.2.2.1 bt591.2.2.2.1 bt591.2.2.2.2)) else (laws_FnMaskOf.j0 k bt582.1 bt582.2.1 true bt582.2.2.1 bt582.2.2.2.1 bt582.2.2.2.2.1 bt582.2.2.2.2.2 bt591.1 bt591.2.1 bt591.2.2.1 bt591.2.2.2.1 bt591.2.2.2.2)))))) = some r := by rw [if_neg (show ¬ (false = true) by decide)] at H; exact H
  clear H; have H := H1; clear H1
  replace H := Option.bind_eq_some_iff.mp H
  obtain ⟨⟨t582, t585, t586, t587, t588, t589⟩, A40, H⟩ := H
  try dsimp only at H
  have A4 := Aside0.mk A40
  clear A40
  replace H := Option.bind_eq_some_iff.mp H
  obtain ⟨⟨t591, t592, t593, t594, t595⟩, A50, H⟩ := H
  try dsimp only at H
  have A5 := Aside0.mk A50
  clear A50
  replace H := Option.bind_eq_some_iff.mp H
  obtain ⟨⟨t599, t600, t601, t602, t603⟩, A60, H⟩ := H
  try dsimp only at H
  have A6 := Aside0.mk A60
  clear A60
  have HC7 := Aside0.mk H
  clear H
  go_enter Try.func6, Try.ntmps6
  go_upto_region 6 with (first | ((with_reducible refine gate_callee (f := 24) rfl ?_); refine goesL_ (some 11) rfl rfl Try.func24 (by kernel_rfl) rfl #[.slice A0 l0.length c0] rfl z19_3 ?_; (with_reducible refine (laws_big.calls _ _ l0 false _ ?side1 ?side2 A2.out).mono ?_); (case side1 => exact z19_16); (case side2 => exact HC0.out); rintro e w' ⟨rfl, ⟨nd, rfl⟩⟩; refine ⟨_, rfl, ?_⟩) | ((with_reducible refine gate_callee (f := 31) rfl ?_); refine goesL_ (some 14) rfl rfl Try.func31 (by kernel_rfl) rfl #[.slice A0 l0.length c0] rfl z19_3 ?_; (with_reducible refine (spec_DrawMaskOf.calls k _ _ l0 t582 t585 t586 t587 t588 t589 _ ?side1 ?side2 A4.out).mono ?_); (case side1 => exact z19_16); (case side2 => exact HC0.out); rintro e w8 ⟨v583, rfl, ho0, hb⟩; refine ⟨_, rfl, ?_⟩; have n0_ := Aside0.mk (Kd.N_lower (Kd.N_mono (ok' := fun k_ => True) ho0 (fun k_ hk_ => trivial)) (below_size z19_8)); have n1_ := Aside0.mk (below_step z19_8 hb); clear HB; have HO584 := n0_; have HB := n1_; clear n0_ n1_; (try clear hb); (try clear hk); (try clear ho0)) | ((with_reducible refine gate_dst (N := 5) rfl ?_); refine boxz (cs := #[.int .i64 0, .int .i64 0, .int .i64 0, .int .i64 0]) (t := 63) rfl ?_; intro gb590 hg w9 hbox hb; have n0_ := Aside0.mk (Kd.N_below (Kd.N_elderB z19_15 gb590 (Nat.le_of_eq hg.symm)) hb); have n1_ := Aside0.mk (below_step z19_8 hb); have n2_ := Aside0.mk (hbox); have n3_ := Aside0.mk (ge_go (a := w.heap.size) hg (below_size z19_8)); have n4_ := Aside0.mk (ge_go (a := w.heap.size) hg (below_size z19_8)); clear HO584; clear HB; have HO584 := n0_; have HB := n1_; have BK590 := n2_; have GW590 := n3_; have GE590 := n4_; clear n0_ n1_ n2_ n3_ n4_; clear hb hbox hg; have hcz10_0 : w9.cell? ⟨gb590, 0, none⟩ = some (.int .i64 0) := (blk_cell BK590.out 0).trans rfl; have hcz10_1 : w9.cell? ⟨gb590, 1, none⟩ = some (.int .i64 0) := (blk_cell BK590.out 1).trans rfl; have hcz10_2 : w9.cell? ⟨gb590, 2, none⟩ = some (.int .i64 0) := (blk_cell BK590.out 2).trans rfl; have hcz10_3 : w9.cell? ⟨gb590, 3, none⟩ = some (.int .i64 0) := (blk_cell BK590.out 3).trans rfl; have hfz10_0 := blk_frozen BK590.out 0; have hfz10_1 := blk_frozen BK590.out 1; have hfz10_2 := blk_frozen BK590.out 2; have hfz10_3 := blk_frozen BK590.out 3; obtain ⟨Ao11, co11, eo11⟩ := Kd.N_slice HO584.out; subst eo11) | ((with_reducible refine gate_callee (f := 32) rfl ?_); refine goesL_ (some 21) rfl rfl Try.func32 (by kernel_rfl) rfl #[.slice Ao11 t582.length co11, .bool t585, .agg #[.int .i64 t586, .int .i64 t587, .int .i64 t588, .int .i64 t589]] rfl z19_3 ?_; (with_reducible refine (impl_MaskOf.calls k _ _ t582 t585 t586 t587 t588 t589 t591 t592 t593 t594 t595 _ ?side1 ?side2 A5.out).mono ?_); (case side1 => refine (Kd.N_reads' (e := 29) (base := w.heap.size) (ok := fun k_ => (True ∧ k_ ≠ gb590)) (n := t582.length) (c := co11) ?_).2.2; exact z19_14); (case side2 => exact (Kd.N_reads' HO584.out).2.1); rintro e w12 ⟨v596, rfl, ho0, hb⟩; refine ⟨_, rfl, ?_⟩; have n0_ := Aside0.mk (Kd.N_elder' z19_14 (Kd.R_base ho0) hb); have n1_ := Aside0.mk (Kd.R_lower ho0 (below_size z19_9)); have n2_ := Aside0.mk (blk_below (g := gb590) (o := .cells #[.int .i64 t586, .int .i64 t587, .int .i64 t588, .int .i64 t589] 63 (0, 0)) (by apply blk_fin; (focus ((with_reducible repeat (first | apply blk_putQ | refine blk_drewN ?_ _ | refine blk_drew ?_ | refine blk_alloc ?_ _)); exact BK590.out)); first | (simp only [List.setIfInBounds_toArray, List.set_cons_zero, List.set_cons_succ]; done) | rfl) hb); have n3_ := Aside0.mk (below_step z19_9 hb); clear HO584; clear BK590; clear HB; have HO584 := n0_; have HO597 := n1_; have BK590 := n2_; have HB := n3_; clear n0_ n1_ n2_ n3_; (try clear hb); (try clear hk); (try clear ho0)) | ((with_reducible refine gate_dst (N := 6) rfl ?_); refine boxz (cs := #[.int .i64 0, .int .i64 0, .int .i64 0, .int .i64 0, .slice none 0 0]) (t := 65) rfl ?_; intro gb598 hg w13 hbox hb; have n0_ := Aside0.mk (Kd.N_below (Kd.N_elderB z19_15 gb598 (Nat.le_of_eq hg.symm)) hb); have n1_ := Aside0.mk (Kd.R_below z19_19 hb); have n2_ := Aside0.mk (blk_belowB BK590 z19_4 hb); have n3_ := Aside0.mk (below_step z19_9 hb); have n4_ := Aside0.mk (hbox); have n5_ := Aside0.mk (ge_go (a := w.heap.size) hg (below_size z19_9)); have n6_ := Aside0.mk (ge_go (a := w.heap.size) hg (below_size z19_9)); have n7_ := Aside0.mk (nb_lt hg (blk_ltB BK590 z19_4)); have n8_ := Aside0.mk (nb_gt hg (blk_ltB BK590 z19_4)); clear HO584; clear HO597; clear BK590; clear HB; have HO584 := n0_; have HO597 := n1_; have BK590 := n2_; have HB := n3_; have BK598 := n4_; have GW598 := n5_; have GE598 := n6_; have NB590_598 := n7_; have NB598_590 := n8_; clear n0_ n1_ n2_ n3_ n4_ n5_ n6_ n7_ n8_; clear hb hbox hg; have hnb14 := NB598_590.out; have hnc14 := NB590_598.out; have hcz15_0 : w13.cell? ⟨gb598, 0, none⟩ = some (.int .i64 0) := (blk_cell BK598.out 0).trans rfl; have hcz15_1 : w13.cell? ⟨gb598, 1, none⟩ = some (.int .i64 0) := (blk_cell BK598.out 1).trans rfl; have hcz15_2 : w13.cell? ⟨gb598, 2, none⟩ = some (.int .i64 0) := (blk_cell BK598.out 2).trans rfl; have hcz15_3 : w13.cell? ⟨gb598, 3, none⟩ = some (.int .i64 0) := (blk_cell BK598.out 3).trans rfl; have hcz15_4 : w13.cell? ⟨gb598, 4, none⟩ = some (.slice none 0 0) := (blk_cell BK598.out 4).trans rfl; have hfz15_0 := blk_frozen BK598.out 0; have hfz15_1 := blk_frozen BK598.out 1; have hfz15_2 := blk_frozen BK598.out 2; have hfz15_3 := blk_frozen BK598.out 3; have hfz15_4 := blk_frozen BK598.out 4; obtain ⟨Ao16, co16, eo16⟩ := Kd.R_slice HO597.out; subst eo16; have hcz17_0 : w13.cell? ⟨gb590, 0, none⟩ = some (.int .i64 t586) := (blk_cell BK590.out 0).trans rfl; have hcz17_1 : w13.cell? ⟨gb590, 1, none⟩ = some (.int .i64 t587) := (blk_cell BK590.out 1).trans rfl; have hcz17_2 : w13.cell? ⟨gb590, 2, none⟩ = some (.int .i64 t588) := (blk_cell BK590.out 2).trans rfl; have hcz17_3 : w13.cell? ⟨gb590, 3, none⟩ = some (.int .i64 t589) := (blk_cell BK590.out 3).trans rfl; have hfz17_0 := blk_frozen BK590.out 0; have hfz17_1 := blk_frozen BK590.out 1; have hfz17_2 := blk_frozen BK590.out 2; have hfz17_3 := blk_frozen BK590.out 3) | ((with_reducible refine gate_callee (f := 33) rfl ?_); refine goesL_ (some 25) rfl rfl Try.func33 (by kernel_rfl) rfl #[.slice Ao11 t582.length co11, .bool t585, .agg #[.int .i64 t586, .int .i64 t587, .int .i64 t588, .int .i64 t589]] rfl z19_3 ?_; (with_reducible refine (spec_MaskOf.calls k _ _ t582 t585 t586 t587 t588 t589 t599 t600 t601 t602 t603 _ ?side1 ?side2 A6.out).mono ?_); (case side1 => refine (Kd.N_reads' (e := 29) (base := w.heap.size) (ok := fun k_ => (((True ∧ k_ ≠ gb590) ∧ some k_ ≠ (.slice Ao16 t595.length co16 : Value).ownBlock) ∧ k_ ≠ gb598)) (n := t582.length) (c := co11) ?_).2.2; exact z19_11); (case side2 => exact (Kd.N_reads' HO584.out).2.1); rintro e w18 ⟨v604, rfl, ho0, hb⟩; refine ⟨_, rfl, ?_⟩; have n0_ := Aside0.mk (Kd.N_elder' z19_11 (Kd.R_base ho0) hb); have n1_ := Aside0.mk (Kd.R_elder' z19_13 (Kd.R_base ho0) hb); have n2_ := Aside0.mk (Kd.R_lower (Kd.R_new' ho0 (Kd.R_lt z19_13)) (below_size z19_7)); have n3_ := Aside0.mk (blk_belowB BK590 (by (with_reducible repeat (first | refine blk_drewN ?_ _ | refine blk_drew ?_ | refine blk_alloc ?_ _)); refine blk_far ?_ NB590_598.out _; (with_reducible repeat (first | refine blk_drewN ?_ _ | refine blk_drew ?_ | refine blk_alloc ?_ _)); refine blk_far ?_ NB590_598.out _; (with_reducible repeat (first | refine blk_drewN ?_ _ | refine blk_drew ?_ | refine blk_alloc ?_ _)); refine blk_far ?_ NB590_598.out _; (with_reducible repeat (first | refine blk_drewN ?_ _ | refine blk_drew ?_ | refine blk_alloc ?_ _)); refine blk_far ?_ NB590_598.out _; (with_reducible repeat (first | refine blk_drewN ?_ _ | refine blk_drew ?_ | refine blk_alloc ?_ _)); refine blk_far ?_ NB590_598.out _; (with_reducible repeat (first | refine blk_drewN ?_ _ | refine blk_drew ?_ | refine blk_alloc ?_ _)); exact BK590.out) hb); have n4_ := Aside0.mk (blk_below (g := gb598) (o := .cells #[.int .i64 t591, .int .i64 t592, .int .i64 t593, .int .i64 t594, .slice Ao16 t595.length co16] 65 (0, 0)) (by apply blk_fin; (focus ((with_reducible repeat (first | apply blk_putQ | refine blk_drewN ?_ _ | refine blk_drew ?_ | refine blk_alloc ?_ _)); exact BK598.out)); first | (simp only [List.setIfInBounds_toArray, List.set_cons_zero, List.set_cons_succ]; done) | rfl) hb); have n5_ := Aside0.mk (below_step z19_7 hb); clear HO584; clear HO597; clear BK590; clear BK598; clear HB; have HO584 := n0_; have HO597 := n1_; have HO605 := n2_; have BK590 := n3_; have BK598 := n4_; have HB := n5_; clear n0_ n1_ n2_ n3_ n4_ n5_; (try clear hb); (try clear hk); (try clear ho0)) | ((with_reducible refine gate_dst (N := 7) rfl ?_); refine boxz (cs := #[.int .i64 0, .int .i64 0, .int .i64 0, .int .i64 0, .slice none 0 0]) (t := 65) rfl ?_; intro gb606 hg w19 hbox hb; have n0_ := Aside0.mk (Kd.N_below (Kd.N_elderB z19_15 gb606 (Nat.le_of_eq hg.symm)) hb); have n1_ := Aside0.mk (Kd.R_below z19_19 hb); have n2_ := Aside0.mk (Kd.R_below (by (with_reducible repeat (first | apply Kd.R_alloc | apply Kd.R_drewN | apply Kd.R_drew)); exact HO605.out) hb); have n3_ := Aside0.mk (blk_belowB BK590 z19_4 hb); have n4_ := Aside0.mk (blk_belowB BK598 z19_10 hb); have n5_ := Aside0.mk (below_step z19_7 hb); have n6_ := Aside0.mk (hbox); have n7_ := Aside0.mk (ge_go (a := w.heap.size) hg (below_size z19_7)); have n8_ := Aside0.mk (ge_go (a := w.heap.size) hg (below_size z19_7)); have n9_ := Aside0.mk (nb_lt hg (blk_ltB BK590 z19_4)); have n10_ := Aside0.mk (nb_gt hg (blk_ltB BK590 z19_4)); have n11_ := Aside0.mk (nb_lt hg (blk_ltB BK598 z19_10)); have n12_ := Aside0.mk (nb_gt hg (blk_ltB BK598 z19_10)); clear HO584; clear HO597; clear HO605; clear BK590; clear BK598; clear HB; have HO584 := n0_; have HO597 := n1_; have HO605 := n2_; have BK590 := n3_; have BK598 := n4_; have HB := n5_; have BK606 := n6_; have GW606 := n7_; have GE606 := n8_; have NB590_606 := n9_; have NB606_590 := n10_; have NB598_606 := n11_; have NB606_598 := n12_; clear n0_ n1_ n2_ n3_ n4_ n5_ n6_ n7_ n8_ n9_ n10_ n11_ n12_; clear hb hbox hg; have hnb20 := NB606_590.out; have hnc20 := NB590_606.out; have hnb21 := NB606_598.out; have hnc21 := NB598_606.out; have hcz22_0 : w19.cell? ⟨gb606, 0, none⟩ = some (.int .i64 0) := (blk_cell BK606.out 0).trans rfl; have hcz22_1 : w19.cell? ⟨gb606, 1, none⟩ = some (.int .i64 0) := (blk_cell BK606.out 1).trans rfl; have hcz22_2 : w19.cell? ⟨gb606, 2, none⟩ = some (.int .i64 0) := (blk_cell BK606.out 2).trans rfl; have hcz22_3 : w19.cell? ⟨gb606, 3, none⟩ = some (.int .i64 0) := (blk_cell BK606.out 3).trans rfl; have hcz22_4 : w19.cell? ⟨gb606, 4, none⟩ = some (.slice none 0 0) := (blk_cell BK606.out 4).trans rfl; have hfz22_0 := blk_frozen BK606.out 0; have hfz22_1 := blk_frozen BK606.out 1; have hfz22_2 := blk_frozen BK606.out 2; have hfz22_3 := blk_frozen BK606.out 3; have hfz22_4 := blk_frozen BK606.out 4; obtain ⟨Ao23, co23, eo23⟩ := Kd.R_slice HO605.out; subst eo23))
  (try simp only [Act.put, List.setIfInBounds_toArray, List.set_cons_zero, List.set_cons_succ])
  go_cut [34] (fun v34 wc => ∃ (kq : Nat) (x34_6 : Bool), v34 = .bool x34_6 ∧ Aside0 (laws_FnMaskOf.j0 kq t582 t585 x34_6 t586 t587 t588 t589 t591 t592 t593 t594 t595 = some r) ∧ Aside0 (kq ≤ k) ∧ Aside0 (Kd.N (Kd.slice 52 k52) 29 wc w.heap.size (fun k_ => some k_ ≠ ((.slice Ao16 t595.length co16) : Value).ownBlock ∧ some k_ ≠ ((.slice Ao23 t603.length co23) : Value).ownBlock ∧ k_ ≠ gb590 ∧ k_ ≠ gb598 ∧ k_ ≠ gb606) (.slice Ao11 t582.length co11) t582) ∧ Aside0 (Kd.R (Kd.int .i64) 3 wc w.heap.size (fun k_ => some k_ ≠ ((.slice Ao23 t603.length co23) : Value).ownBlock) (.slice Ao16 t595.length co16) t595) ∧ Aside0 (Kd.R (Kd.int .i64) 3 wc w.heap.size (fun k_ => some k_ ≠ ((.slice Ao16 t595.length co16) : Value).ownBlock) (.slice Ao23 t603.length co23) t603) ∧ Aside0 (wc.heap[gb590]? = some (.cells #[.int .i64 t586, .int .i64 t587, .int .i64 t588, .int .i64 t589] 63 (0, 0))) ∧ Aside0 (wc.heap[gb598]? = some (.cells #[.int .i64 t591, .int .i64 t592, .int .i64 t593, .int .i64 t594, (.slice Ao16 t595.length co16)] 65 (0, 0))) ∧ Aside0 (wc.heap[gb606]? = some (.cells #[.int .i64 t599, .int .i64 t600, .int .i64 t601, .int .i64 t602, (.slice Ao23 t603.length co23)] 65 (0, 0))) ∧ Aside0 (Below w.heap.size w wc))
  case first =>
   have H := HC7.out; clear HC7
   replace H := Option.bind_eq_some_iff.mp H
   obtain ⟨t607, A240, H⟩ := H
   try dsimp only at H
   have A24 := Aside0.mk A240
   clear A240
   by_cases c25 : t607 = true
   ·subst c25
    have H1 : ((impl_MaskOk.f k t591 t592 t593 t594 t595).bind fun t608 => (laws_FnMaskOf.j0 k t582 t585 (!t608) t586 t587 t588 t589 t591 t592 t593 t594 t595)) = some r := by rw [if_pos rfl] at H; exact H
    clear H; have H := H1; clear H1
    replace H := Option.bind_eq_some_iff.mp H
    obtain ⟨t608, A260, H⟩ := H
    try dsimp only at H
    have A26 := Aside0.mk A260
    clear A260
    have H' := Aside0.mk H
    clear H; have hnb27 := NB598_590.out; have hnc27 := NB590_598.out; have hnb28 := NB598_606.out; have hnc28 := NB606_598.out
    obtain ⟨_, _, _, _, _, _, _, _, _, _⟩ := be_5 BK598.out
    have hnb30 := NB606_590.out; have hnc30 := NB590_606.out
    obtain ⟨_, _, _, _, _, _, _, _, _, _⟩ := be_5 BK606.out
    go_wp2_with (first | ((with_reducible refine gate_callee (f := 28) rfl ?_); refine goesL_ (some 28) rfl rfl Try.func28 (by kernel_rfl) rfl #[.agg #[.int .i64 t591, .int .i64 t592, .int .i64 t593, .int .i64 t594, .slice Ao16 t595.length co16], .agg #[.int .i64 t599, .int .i64 t600, .int .i64 t601, .int .i64 t602, .slice Ao23 t603.length co23]] rfl z19_3 ?_; (with_reducible refine (laws_sameMask.calls k t591 t592 t593 t594 _ _ t595 t599 t600 t601 t602 _ _ t603 true _ ?side1 ?side2 ?side3 ?side4 A24.out).mono ?_); (case side1 => refine (Kd.R_reads' (e := 3) (base := w.heap.size) (ok := fun k_ => (True ∧ some k_ ≠ (.slice Ao23 t603.length co23 : Value).ownBlock)) (n := t595.length) (c := co16) ?_).2.2; exact z19_0); (case side2 => exact (Kd.R_reads' HO597.out).2.1); (case side3 => refine (Kd.R_reads' (e := 3) (base := w.heap.size) (ok := fun k_ => (True ∧ some k_ ≠ (.slice Ao16 t595.length co16 : Value).ownBlock)) (n := t603.length) (c := co23) ?_).2.2; exact z19_1); (case side4 => exact (Kd.R_reads' HO605.out).2.1); rintro e w32 ⟨rfl, hb⟩; refine ⟨_, rfl, ?_⟩; have n0_ := Aside0.mk (Kd.N_below z19_12 hb); have n1_ := Aside0.mk (Kd.R_below z19_0 hb); have n2_ := Aside0.mk (Kd.R_below z19_1 hb); have n3_ := Aside0.mk (blk_belowB BK590 z19_5 hb); have n4_ := Aside0.mk (blk_belowB BK598 z19_6 hb); have n5_ := Aside0.mk (blk_below (g := gb606) (o := .cells #[.int .i64 t599, .int .i64 t600, .int .i64 t601, .int .i64 t602, .slice Ao23 t603.length co23] 65 (0, 0)) z19_17 hb); have n6_ := Aside0.mk (below_step z19_2 hb); clear HO584; clear HO597; clear HO605; clear BK590; clear BK598; clear BK606; clear HB; have HO584 := n0_; have HO597 := n1_; have HO605 := n2_; have BK590 := n3_; have BK598 := n4_; have BK606 := n5_; have HB := n6_; clear n0_ n1_ n2_ n3_ n4_ n5_ n6_; (try clear hb); (try clear hk); obtain ⟨_, _, _, _, _, _, _, _, _, _⟩ := be_5 BK598.out) | (go_at_call 27; (with_reducible refine (impl_MaskOk.calls k t591 t592 t593 t594 _ _ t595 t608 _ ?side1 ?side2 A26.out).mono ?_); (case side1 => repeat (first | exact (Kd.R_reads' HO597.out).2.2 | (with_reducible refine Kd.C_alloc ?_ _) | (with_reducible refine Kd.C_drewN ?_ _) | (with_reducible refine Kd.C_drew ?_))); (case side2 => exact (Kd.R_reads' HO597.out).2.1); rintro e w34 ⟨rfl, hb⟩; have n0_ := Aside0.mk (Kd.N_below z19_15 hb); have n1_ := Aside0.mk (Kd.R_below z19_19 hb); have n2_ := Aside0.mk (Kd.R_below (by (with_reducible repeat (first | apply Kd.R_alloc | apply Kd.R_drewN | apply Kd.R_drew)); exact HO605.out) hb); have n3_ := Aside0.mk (blk_belowB BK590 z19_4 hb); have n4_ := Aside0.mk (blk_belowB BK598 z19_10 hb); have n5_ := Aside0.mk (blk_belowB BK606 z19_18 hb); have n6_ := Aside0.mk (below_step z19_2 hb); clear HO584; clear HO597; clear HO605; clear BK590; clear BK598; clear BK606; clear HB; have HO584 := n0_; have HO597 := n1_; have HO605 := n2_; have BK590 := n3_; have BK598 := n4_; have BK606 := n5_; have HB := n6_; clear n0_ n1_ n2_ n3_ n4_ n5_ n6_; (try clear hb); (try clear hk)))
    go_meet
    case rel => exact ⟨_, (!t608), (by first | rfl | (simp; done) | (simp [*]; done)), H', ⟨by first | omega | exact Nat.le_refl _⟩, ⟨by (with_reducible repeat (first | apply Kd.N_alloc | apply Kd.N_drewN | apply Kd.N_drew)); exact Kd.N_mono HO584.out (fun _ hk => ⟨hk.1.1.1.2, ⟨hk.1.2, ⟨hk.1.1.1.1.2, ⟨hk.1.1.2, hk.2⟩⟩⟩⟩)⟩, ⟨by (with_reducible repeat (first | apply Kd.R_alloc | apply Kd.R_drewN | apply Kd.R_drew)); exact Kd.R_mono HO597.out (fun _ hk => hk.2)⟩, ⟨by (with_reducible repeat (first | apply Kd.R_alloc | apply Kd.R_drewN | apply Kd.R_drew)); exact Kd.R_mono HO605.out (fun _ hk => hk.2)⟩, ⟨by (with_reducible repeat (first | refine blk_drewN ?_ _ | refine blk_drew ?_ | refine blk_alloc ?_ _)); exact BK590.out⟩, ⟨by (with_reducible repeat (first | refine blk_drewN ?_ _ | refine blk_drew ?_ | refine blk_alloc ?_ _)); exact BK598.out⟩, ⟨by (with_reducible repeat (first | refine blk_drewN ?_ _ | refine blk_drew ?_ | refine blk_alloc ?_ _)); exact BK606.out⟩, ⟨by repeat (first | (with_reducible first | exact HB.out | apply below_alloc | apply pw_below_drewN | apply below_drew1 | refine below_set ?_ GE590.out | refine below_set ?_ GE598.out | refine below_set ?_ GE606.out) | exact HB.out)⟩⟩
   ·replace c25 := Bool.eq_false_iff.mpr c25
    subst c25
    have H1 : (laws_FnMaskOf.j0 k t582 t585 true t586 t587 t588 t589 t591 t592 t593 t594 t595) = some r := by rw [if_neg (show ¬ (false = true) by decide)] at H; exact H
    clear H; have H := H1; clear H1
    have H' := Aside0.mk H
    clear H; have hnb35 := NB598_590.out; have hnc35 := NB590_598.out; have hnb36 := NB598_606.out; have hnc36 := NB606_598.out
    obtain ⟨_, _, _, _, _, _, _, _, _, _⟩ := be_5 BK598.out
    have hnb38 := NB606_590.out; have hnc38 := NB590_606.out
    obtain ⟨_, _, _, _, _, _, _, _, _, _⟩ := be_5 BK606.out
    go_wp2_with (first | ((with_reducible refine gate_callee (f := 28) rfl ?_); refine goesL_ (some 28) rfl rfl Try.func28 (by kernel_rfl) rfl #[.agg #[.int .i64 t591, .int .i64 t592, .int .i64 t593, .int .i64 t594, .slice Ao16 t595.length co16], .agg #[.int .i64 t599, .int .i64 t600, .int .i64 t601, .int .i64 t602, .slice Ao23 t603.length co23]] rfl z19_3 ?_; (with_reducible refine (laws_sameMask.calls k t591 t592 t593 t594 _ _ t595 t599 t600 t601 t602 _ _ t603 false _ ?side1 ?side2 ?side3 ?side4 A24.out).mono ?_); (case side1 => refine (Kd.R_reads' (e := 3) (base := w.heap.size) (ok := fun k_ => (True ∧ some k_ ≠ (.slice Ao23 t603.length co23 : Value).ownBlock)) (n := t595.length) (c := co16) ?_).2.2; exact z19_0); (case side2 => exact (Kd.R_reads' HO597.out).2.1); (case side3 => refine (Kd.R_reads' (e := 3) (base := w.heap.size) (ok := fun k_ => (True ∧ some k_ ≠ (.slice Ao16 t595.length co16 : Value).ownBlock)) (n := t603.length) (c := co23) ?_).2.2; exact z19_1); (case side4 => exact (Kd.R_reads' HO605.out).2.1); rintro e w40 ⟨rfl, hb⟩; refine ⟨_, rfl, ?_⟩; have n0_ := Aside0.mk (Kd.N_below z19_12 hb); have n1_ := Aside0.mk (Kd.R_below z19_0 hb); have n2_ := Aside0.mk (Kd.R_below z19_1 hb); have n3_ := Aside0.mk (blk_belowB BK590 z19_5 hb); have n4_ := Aside0.mk (blk_belowB BK598 z19_6 hb); have n5_ := Aside0.mk (blk_below (g := gb606) (o := .cells #[.int .i64 t599, .int .i64 t600, .int .i64 t601, .int .i64 t602, .slice Ao23 t603.length co23] 65 (0, 0)) z19_17 hb); have n6_ := Aside0.mk (below_step z19_2 hb); clear HO584; clear HO597; clear HO605; clear BK590; clear BK598; clear BK606; clear HB; have HO584 := n0_; have HO597 := n1_; have HO605 := n2_; have BK590 := n3_; have BK598 := n4_; have BK606 := n5_; have HB := n6_; clear n0_ n1_ n2_ n3_ n4_ n5_ n6_; (try clear hb); (try clear hk)))
    go_meet
    case rel => exact ⟨_, (true), (by first | rfl | (simp; done) | (simp [*]; done)), H', ⟨by first | omega | exact Nat.le_refl _⟩, ⟨by (with_reducible repeat (first | apply Kd.N_alloc | apply Kd.N_drewN | apply Kd.N_drew)); exact Kd.N_mono HO584.out (fun _ hk => ⟨hk.1.1.1.2, ⟨hk.1.2, ⟨hk.1.1.1.1.2, ⟨hk.1.1.2, hk.2⟩⟩⟩⟩)⟩, ⟨by (with_reducible repeat (first | apply Kd.R_alloc | apply Kd.R_drewN | apply Kd.R_drew)); exact Kd.R_mono HO597.out (fun _ hk => hk.2)⟩, ⟨by (with_reducible repeat (first | apply Kd.R_alloc | apply Kd.R_drewN | apply Kd.R_drew)); exact Kd.R_mono HO605.out (fun _ hk => hk.2)⟩, ⟨by (with_reducible repeat (first | refine blk_drewN ?_ _ | refine blk_drew ?_ | refine blk_alloc ?_ _)); exact BK590.out⟩, ⟨by (with_reducible repeat (first | refine blk_drewN ?_ _ | refine blk_drew ?_ | refine blk_alloc ?_ _)); exact BK598.out⟩, ⟨by (with_reducible repeat (first | refine blk_drewN ?_ _ | refine blk_drew ?_ | refine blk_alloc ?_ _)); exact BK606.out⟩, ⟨by repeat (first | (with_reducible first | exact HB.out | apply below_alloc | apply pw_below_drewN | apply below_drew1 | refine below_set ?_ GE590.out | refine below_set ?_ GE598.out | refine below_set ?_ GE606.out) | exact HB.out)⟩⟩
  case rest =>
   clear HC7; try clear c1
   try clear c2
   try clear p2
   try clear c3
   try clear c6
   try clear c14
   try clear c20
   try clear c21
   try clear c24
   try clear c25
   try clear c27
   try clear c28
   try clear c30
   try clear c31
   try clear c32
   try clear c33
   try clear c35
   try clear c36
   try clear c38
   obtain ⟨kq, x34_6, rfl, HA, HJ6, HO_3, HO_599004, HO_607004, BK590, BK598, BK606, HB⟩ := hcut
   cases kq with
   | zero => exact absurd HA.out (by simp [laws_FnMaskOf.j0])
   | succ kj6 =>
    have H := HA.out; clear HA
    simp only [laws_FnMaskOf.j0] at H
    by_cases c41 : x34_6 = true
    ·subst c41
     have H1 : (some false) = some r := by rw [if_pos rfl] at H; exact H
     clear H; have H := H1; clear H1
     obtain rfl := Option.some.inj H
     exact absurd hT Bool.false_ne_true
    ·replace c41 := Bool.eq_false_iff.mpr c41
     subst c41
     have H1 : (laws_FnMaskOf.l0 kj6 t582 t585 t592 t586 t587 t588 t589 t591 t592 t593 t594 t595) = some r := by rw [if_neg (show ¬ (false = true) by decide)] at H; exact H
     clear H; have H := H1; clear H1
     have H' := Aside0.mk H
     clear H; have hnb42 := NB598_590.out; have hnc42 := NB590_598.out; have hnb43 := NB598_606.out; have hnc43 := NB606_598.out
     obtain ⟨_, _, _, _, _, _, _, _, _, _⟩ := be_5 BK598.out
     go_wp2
     go_loopg [8] kj6 (fun kq v8 w' => ∃ (x8_2 : Int), v8 = .int .i64 x8_2 ∧ Aside0 (laws_FnMaskOf.l0 kq t582 t585 x8_2 t586 t587 t588 t589 t591 t592 t593 t594 t595 = some r) ∧ Aside0 (kq ≤ kj6) ∧ Aside0 (Kd.N (Kd.slice 52 k52) 29 w' w.heap.size (fun k_ => some k_ ≠ ((.slice Ao16 t595.length co16) : Value).ownBlock ∧ some k_ ≠ ((.slice Ao23 t603.length co23) : Value).ownBlock ∧ k_ ≠ gb590 ∧ k_ ≠ gb598 ∧ k_ ≠ gb606) (.slice Ao11 t582.length co11) t582) ∧ Aside0 (Kd.R (Kd.int .i64) 3 w' w.heap.size (fun k_ => some k_ ≠ ((.slice Ao23 t603.length co23) : Value).ownBlock) (.slice Ao16 t595.length co16) t595) ∧ Aside0 (Kd.R (Kd.int .i64) 3 w' w.heap.size (fun k_ => some k_ ≠ ((.slice Ao16 t595.length co16) : Value).ownBlock) (.slice Ao23 t603.length co23) t603) ∧ Aside0 (w'.heap[gb590]? = some (.cells #[.int .i64 t586, .int .i64 t587, .int .i64 t588, .int .i64 t589] 63 (0, 0))) ∧ Aside0 (w'.heap[gb598]? = some (.cells #[.int .i64 t591, .int .i64 t592, .int .i64 t593, .int .i64 t594, (.slice Ao16 t595.length co16)] 65 (0, 0))) ∧ Aside0 (w'.heap[gb606]? = some (.cells #[.int .i64 t599, .int .i64 t600, .int .i64 t601, .int .i64 t602, (.slice Ao23 t603.length co23)] 65 (0, 0))) ∧ Aside0 (Below w.heap.size w w'))
     case atStart => exact ⟨(t592), (by first | rfl | (simp; done) | (simp [*]; done)), H', ⟨Nat.le_refl _⟩, ⟨by (with_reducible repeat (first | apply Kd.N_alloc | apply Kd.N_drewN | apply Kd.N_drew)); exact HO_3.out⟩, ⟨by (with_reducible repeat (first | apply Kd.R_alloc | apply Kd.R_drewN | apply Kd.R_drew)); exact HO_599004.out⟩, ⟨by (with_reducible repeat (first | apply Kd.R_alloc | apply Kd.R_drewN | apply Kd.R_drew)); exact HO_607004.out⟩, ⟨by (with_reducible repeat (first | refine blk_drewN ?_ _ | refine blk_drew ?_ | refine blk_alloc ?_ _)); exact BK590.out⟩, ⟨by (with_reducible repeat (first | refine blk_drewN ?_ _ | refine blk_drew ?_ | refine blk_alloc ?_ _)); exact BK598.out⟩, ⟨by (with_reducible repeat (first | refine blk_drewN ?_ _ | refine blk_drew ?_ | refine blk_alloc ?_ _)); exact BK606.out⟩, ⟨by repeat (first | (with_reducible first | exact HB.out | apply below_alloc | apply pw_below_drewN | apply below_drew1 | refine below_set ?_ GE590.out | refine below_set ?_ GE598.out | refine below_set ?_ GE606.out) | exact HB.out)⟩⟩
     case round =>
      clear H'
      try clear c1
      try clear c2
      try clear p2
      try clear c3
      try clear c4
      try clear c6
      try clear c14
      try clear c20
      try clear c21
      try clear c24
      try clear c25
      try clear c27
      try clear c28
      try clear c30
      try clear c31
      try clear c32
      try clear c33
      try clear c35
      try clear c36
      try clear c38
      try clear c41
      try clear c42
      try clear c43
      try clear p2
      obtain ⟨x8_2, rfl, HA, HK2, HO_3, HO_599004, HO_607004, BK590, BK598, BK606, HB⟩ := hrel
      cases gk with
      | zero => exact absurd HA.out (by simp [laws_FnMaskOf.l0])
      | succ k2 =>
       have H := HA.out; clear HA
       simp only [laws_FnMaskOf.l0] at H
       by_cases c45 : x8_2 < t594
       ·rw [if_pos c45] at H
        have c45b0 : decide (x8_2 < t594) = true := decide_eq_true c45
        clear c45
        have H' := Aside0.mk H
        clear H; have hnb46 := NB598_590.out; have hnc46 := NB590_598.out; have hnb47 := NB598_606.out; have hnc47 := NB606_598.out
        obtain ⟨_, _, _, _, _, _, _, _, _, _⟩ := be_5 BK598.out
        go_wp2
        go_loopg [9] k2 (fun kq v9 w' => ∃ (x9_3 : Int), v9 = .int .i64 x9_3 ∧ Aside0 (laws_FnMaskOf.l1 kq t582 t585 x8_2 x9_3 t586 t587 t588 t589 t591 t592 t593 t594 t595 = some r) ∧ Aside0 (kq ≤ k2) ∧ Aside0 (Kd.N (Kd.slice 52 k52) 29 w' w.heap.size (fun k_ => some k_ ≠ ((.slice Ao16 t595.length co16) : Value).ownBlock ∧ some k_ ≠ ((.slice Ao23 t603.length co23) : Value).ownBlock ∧ k_ ≠ gb590 ∧ k_ ≠ gb598 ∧ k_ ≠ gb606) (.slice Ao11 t582.length co11) t582) ∧ Aside0 (Kd.R (Kd.int .i64) 3 w' w.heap.size (fun k_ => some k_ ≠ ((.slice Ao23 t603.length co23) : Value).ownBlock) (.slice Ao16 t595.length co16) t595) ∧ Aside0 (Kd.R (Kd.int .i64) 3 w' w.heap.size (fun k_ => some k_ ≠ ((.slice Ao16 t595.length co16) : Value).ownBlock) (.slice Ao23 t603.length co23) t603) ∧ Aside0 (w'.heap[gb590]? = some (.cells #[.int .i64 t586, .int .i64 t587, .int .i64 t588, .int .i64 t589] 63 (0, 0))) ∧ Aside0 (w'.heap[gb598]? = some (.cells #[.int .i64 t591, .int .i64 t592, .int .i64 t593, .int .i64 t594, (.slice Ao16 t595.length co16)] 65 (0, 0))) ∧ Aside0 (w'.heap[gb606]? = some (.cells #[.int .i64 t599, .int .i64 t600, .int .i64 t601, .int .i64 t602, (.slice Ao23 t603.length co23)] 65 (0, 0))) ∧ Aside0 (Below w.heap.size w w'))
        case atStart => exact ⟨(t591), (by first | rfl | (simp; done) | (simp [*]; done)), H', ⟨Nat.le_refl _⟩, ⟨by (with_reducible repeat (first | apply Kd.N_alloc | apply Kd.N_drewN | apply Kd.N_drew)); exact HO_3.out⟩, ⟨by (with_reducible repeat (first | apply Kd.R_alloc | apply Kd.R_drewN | apply Kd.R_drew)); exact HO_599004.out⟩, ⟨by (with_reducible repeat (first | apply Kd.R_alloc | apply Kd.R_drewN | apply Kd.R_drew)); exact HO_607004.out⟩, ⟨by (with_reducible repeat (first | refine blk_drewN ?_ _ | refine blk_drew ?_ | refine blk_alloc ?_ _)); exact BK590.out⟩, ⟨by (with_reducible repeat (first | refine blk_drewN ?_ _ | refine blk_drew ?_ | refine blk_alloc ?_ _)); exact BK598.out⟩, ⟨by (with_reducible repeat (first | refine blk_drewN ?_ _ | refine blk_drew ?_ | refine blk_alloc ?_ _)); exact BK606.out⟩, ⟨by repeat (first | (with_reducible first | exact HB.out | apply below_alloc | apply pw_below_drewN | apply below_drew1 | refine below_set ?_ GE590.out | refine below_set ?_ GE598.out | refine below_set ?_ GE606.out) | exact HB.out)⟩⟩
        case round =>
         clear H'
         try clear c1
         try clear c2
         try clear p2
         try clear c3
         try clear c4
         try clear c6
         try clear c14
         try clear c20
         try clear c21
         try clear c24
         try clear c25
         try clear c27
         try clear c28
         try clear c30
         try clear c31
         try clear c32
         try clear c33
         try clear c35
         try clear c36
         try clear c38
         try clear c41
         try clear c42
         try clear c43
         try clear c45
         try clear c45b0
         try clear c46
         try clear c47
         try clear p2
         obtain ⟨x9_3, rfl, HA, HK3, HO_3, HO_599004, HO_607004, BK590, BK598, BK606, HB⟩ := hrel
         cases gk with
         | zero => exact absurd HA.out (by simp [laws_FnMaskOf.l1])
         | succ k3 =>
          have H := HA.out; clear HA
          simp only [laws_FnMaskOf.l1] at H
          by_cases c49 : x9_3 < t593
          ·rw [if_pos c49] at H
           have c49b0 : decide (x9_3 < t593) = true := decide_eq_true c49
           clear c49
           replace H := Option.bind_eq_some_iff.mp H
           obtain ⟨t609, A500, H⟩ := H
           try dsimp only at H
           have A50 := Aside0.mk A500
           clear A500
           replace H := Option.bind_eq_some_iff.mp H
           obtain ⟨t610, A510, H⟩ := H
           try dsimp only at H
           have A51 := Aside0.mk A510
           clear A510
           by_cases c52 : t609 = t610
           ·rw [if_pos c52] at H
            have c52b0 : (t609 == t610) = true := beq_iff_eq.mpr c52
            have c52b1 : (t609 != t610) = false := bne_eq_false_iff_eq.mpr c52
            clear c52
            have H' := Aside0.mk H
            clear H; have hnb53 := NB598_590.out; have hnc53 := NB590_598.out; have hnb54 := NB598_606.out; have hnc54 := NB606_598.out
            obtain ⟨_, _, _, _, _, _, _, _, _, _⟩ := be_5 BK598.out
            go_wp2_with (first | ((with_reducible refine gate_callee (f := 30) rfl ?_); refine goesL_ (some 58) rfl rfl Try.func30 (by kernel_rfl) rfl #[.agg #[.int .i64 t591, .int .i64 t592, .int .i64 t593, .int .i64 t594, .slice Ao16 t595.length co16], .int .i64 x9_3, .int .i64 x8_2] rfl z19_3 ?_; (with_reducible refine (impl_BitsAt.calls k3 t591 t592 t593 t594 _ _ t595 x9_3 x8_2 t609 _ ?side1 ?side2 A50.out).mono ?_); (case side1 => repeat (first | exact (Kd.R_reads' HO_599004.out).2.2 | (with_reducible refine Kd.C_alloc ?_ _) | (with_reducible refine Kd.C_drewN ?_ _) | (with_reducible refine Kd.C_drew ?_))); (case side2 => exact (Kd.R_reads' HO_599004.out).2.1); rintro e w56 ⟨rfl, hb⟩; refine ⟨_, rfl, ?_⟩; have n0_ := Aside0.mk (Kd.N_below (by (with_reducible repeat (first | apply Kd.N_alloc | apply Kd.N_drewN | apply Kd.N_drew)); exact HO_3.out) hb); have n1_ := Aside0.mk (Kd.R_below (by (with_reducible repeat (first | apply Kd.R_alloc | apply Kd.R_drewN | apply Kd.R_drew)); exact HO_599004.out) hb); have n2_ := Aside0.mk (Kd.R_below (by (with_reducible repeat (first | apply Kd.R_alloc | apply Kd.R_drewN | apply Kd.R_drew)); exact HO_607004.out) hb); have n3_ := Aside0.mk (blk_belowB BK590 z19_4 hb); have n4_ := Aside0.mk (blk_belowB BK598 z19_10 hb); have n5_ := Aside0.mk (blk_belowB BK606 z19_18 hb); have n6_ := Aside0.mk (below_step z19_2 hb); clear HO_3; clear HO_599004; clear HO_607004; clear BK590; clear BK598; clear BK606; clear HB; have HO_3 := n0_; have HO_599004 := n1_; have HO_607004 := n2_; have BK590 := n3_; have BK598 := n4_; have BK606 := n5_; have HB := n6_; clear n0_ n1_ n2_ n3_ n4_ n5_ n6_; (try clear hb)) | ((with_reducible refine gate_callee (f := 34) rfl ?_); refine goesL_ (some 63) rfl rfl Try.func34 (by kernel_rfl) rfl #[.slice Ao11 t582.length co11, .bool t585, .int .i64 x9_3, .int .i64 x8_2] rfl z19_3 ?_; (with_reducible refine (spec_MaskAt.calls k3 _ _ t582 t585 x9_3 x8_2 t610 _ ?side1 ?side2 A51.out).mono ?_); (case side1 => repeat (first | exact (Kd.N_reads' HO_3.out).2.2 | (with_reducible refine Kd.C_alloc ?_ _) | (with_reducible refine Kd.C_drewN ?_ _) | (with_reducible refine Kd.C_drew ?_))); (case side2 => exact (Kd.N_reads' HO_3.out).2.1); rintro e w57 ⟨rfl, hb⟩; refine ⟨_, rfl, ?_⟩; have n0_ := Aside0.mk (Kd.N_below (by (with_reducible repeat (first | apply Kd.N_alloc | apply Kd.N_drewN | apply Kd.N_drew)); exact HO_3.out) hb); have n1_ := Aside0.mk (Kd.R_below (by (with_reducible repeat (first | apply Kd.R_alloc | apply Kd.R_drewN | apply Kd.R_drew)); exact HO_599004.out) hb); have n2_ := Aside0.mk (Kd.R_below (by (with_reducible repeat (first | apply Kd.R_alloc | apply Kd.R_drewN | apply Kd.R_drew)); exact HO_607004.out) hb); have n3_ := Aside0.mk (blk_belowB BK590 z19_4 hb); have n4_ := Aside0.mk (blk_belowB BK598 z19_10 hb); have n5_ := Aside0.mk (blk_belowB BK606 z19_18 hb); have n6_ := Aside0.mk (below_step z19_2 hb); clear HO_3; clear HO_599004; clear HO_607004; clear BK590; clear BK598; clear BK606; clear HB; have HO_3 := n0_; have HO_599004 := n1_; have HO_607004 := n2_; have BK590 := n3_; have BK598 := n4_; have BK606 := n5_; have HB := n6_; clear n0_ n1_ n2_ n3_ n4_ n5_ n6_; (try clear hb)))
            go_roundg k3
            case measure => have := HJ6.out; have := HK2.out; have := HK3.out; omega
            case rel => exact ⟨(wrap64 (x9_3 + 1)), (by first | rfl | (simp; done) | (simp [*]; done)), H', ⟨by have := HJ6.out; have := HK2.out; have := HK3.out; omega⟩, ⟨by (with_reducible repeat (first | apply Kd.N_alloc | apply Kd.N_drewN | apply Kd.N_drew)); exact HO_3.out⟩, ⟨by (with_reducible repeat (first | apply Kd.R_alloc | apply Kd.R_drewN | apply Kd.R_drew)); exact HO_599004.out⟩, ⟨by (with_reducible repeat (first | apply Kd.R_alloc | apply Kd.R_drewN | apply Kd.R_drew)); exact HO_607004.out⟩, ⟨by (with_reducible repeat (first | refine blk_drewN ?_ _ | refine blk_drew ?_ | refine blk_alloc ?_ _)); exact BK590.out⟩, ⟨by (with_reducible repeat (first | refine blk_drewN ?_ _ | refine blk_drew ?_ | refine blk_alloc ?_ _)); exact BK598.out⟩, ⟨by (with_reducible repeat (first | refine blk_drewN ?_ _ | refine blk_drew ?_ | refine blk_alloc ?_ _)); exact BK606.out⟩, ⟨by repeat (first | (with_reducible first | exact HB.out | apply below_alloc | apply pw_below_drewN | apply below_drew1 | refine below_set ?_ GE590.out | refine below_set ?_ GE598.out | refine below_set ?_ GE606.out) | exact HB.out)⟩⟩
           ·rw [if_neg c52] at H
            have c52b0 : (t609 == t610) = false := beq_eq_false_iff_ne.mpr c52
            have c52b1 : (t609 != t610) = true := bne_iff_ne.mpr c52
            obtain rfl := Option.some.inj H
            exact absurd hT Bool.false_ne_true
          ·rw [if_neg c49] at H
           have c49b0 : decide (x9_3 < t593) = false := decide_eq_false c49
           clear c49
           have H' := Aside0.mk H
           clear H; have hnb58 := NB598_590.out; have hnc58 := NB590_598.out; have hnb59 := NB598_606.out; have hnc59 := NB606_598.out
           obtain ⟨_, _, _, _, _, _, _, _, _, _⟩ := be_5 BK598.out
           go_wp2
           go_roundg k3
           case measure => have := HJ6.out; have := HK2.out; have := HK3.out; omega
           case rel => exact ⟨(wrap64 (x8_2 + 1)), (by first | rfl | (simp; done) | (simp [*]; done)), H', ⟨by have := HJ6.out; have := HK2.out; have := HK3.out; omega⟩, ⟨by (with_reducible repeat (first | apply Kd.N_alloc | apply Kd.N_drewN | apply Kd.N_drew)); exact HO_3.out⟩, ⟨by (with_reducible repeat (first | apply Kd.R_alloc | apply Kd.R_drewN | apply Kd.R_drew)); exact HO_599004.out⟩, ⟨by (with_reducible repeat (first | apply Kd.R_alloc | apply Kd.R_drewN | apply Kd.R_drew)); exact HO_607004.out⟩, ⟨by (with_reducible repeat (first | refine blk_drewN ?_ _ | refine blk_drew ?_ | refine blk_alloc ?_ _)); exact BK590.out⟩, ⟨by (with_reducible repeat (first | refine blk_drewN ?_ _ | refine blk_drew ?_ | refine blk_alloc ?_ _)); exact BK598.out⟩, ⟨by (with_reducible repeat (first | refine blk_drewN ?_ _ | refine blk_drew ?_ | refine blk_alloc ?_ _)); exact BK606.out⟩, ⟨by repeat (first | (with_reducible first | exact HB.out | apply below_alloc | apply pw_below_drewN | apply below_drew1 | refine below_set ?_ GE590.out | refine below_set ?_ GE598.out | refine below_set ?_ GE606.out) | exact HB.out)⟩⟩
       ·rw [if_neg c45] at H
        have c45b0 : decide (x8_2 < t594) = false := decide_eq_false c45
        clear c45
        by_cases c61 : (t595.length : Int) = 0
        ·rw [if_pos c61] at H
         have c61b0 : ((t595.length : Int) == 0) = true := beq_iff_eq.mpr c61
         have c61b1 : ((t595.length : Int) != 0) = false := bne_eq_false_iff_eq.mpr c61
         clear c61
         obtain rfl := Option.some.inj H
         simp only [Option.some.injEq, Prod.mk.injEq] at H
         obtain ⟨rfl⟩ := H
         have hnb62 := NB598_590.out; have hnc62 := NB590_598.out; have hnb63 := NB598_606.out; have hnc63 := NB606_598.out
         obtain ⟨_, _, _, _, _, _, _, _, _, _⟩ := be_5 BK598.out
         go_wp2
         go_ret
         exact ⟨z19_20, z19_2⟩
        ·rw [if_neg c61] at H
         have c61b0 : ((t595.length : Int) == 0) = false := beq_eq_false_iff_ne.mpr c61
         have c61b1 : ((t595.length : Int) != 0) = true := bne_iff_ne.mpr c61
         have c61b2 : ¬ (t595 = []) := fun h_ => c61 (by rw [h_]; rfl)
         obtain rfl := Option.some.inj H
         simp only [Option.some.injEq, Prod.mk.injEq] at H
         obtain ⟨rfl⟩ := H
         have hnb65 := NB598_590.out; have hnc65 := NB590_598.out; have hnb66 := NB598_606.out; have hnc66 := NB606_598.out
         obtain ⟨_, _, _, _, _, _, _, _, _, _⟩ := be_5 BK598.out
         have hnb68 := NB590_606.out; have hnc68 := NB606_590.out
         obtain ⟨_, _, _, _, _, _, _, _⟩ := be_4 BK590.out
         go_wp2
         go_ret
         exact ⟨z19_20, z19_2⟩

/-- THE ONE PURE STATEMENT of laws_FnMaskOf: yours. -/
def laws_FnMaskOf.Pure : Prop := ∀ (l0 : List Int), l0.length ≤ maxLen → l0.length * 1 ≤ 140737488351232 → (∀ x ∈ l0, (Lit.int .u8 x).wf = true) → ∃ k, laws_FnMaskOf.f k l0 = some true
theorem laws_FnMaskOf.walk (P : laws_FnMaskOf.Pure) (a0 : Option Addr) (len0 cap0 : Nat) (z0 : List Int) (w : World) (w0 : (a0 = none ∧ len0 = 0 ∧ cap0 = 0 ∧ z0 = []) ∨ ∃ x, a0 = some x ∧ len0 ≤ cap0 ∧ cap0 ≤ maxLen ∧ z0.length = cap0 ∧ (∀ i, i < z0.length → w.cell? (x.add i) = some (.int .u8 (z0.getD i 0))) ∧ ∀ n ∈ z0, (Lit.int .u8 n).wf = true) (y0 : len0 * 1 ≤ 140737488351232) :
  Calls Try.prog 6 #[.slice a0 len0 cap0] w fun e w' => e = .returned (.bool true) ∧ Below w.heap.size w w' := by
 obtain ⟨l0, rfl, hr0, hm0, hw0, hc0⟩ := ReadsInt.ofRowC w0
 obtain ⟨k, h⟩ := P l0 hm0 y0 hw0
 refine (laws_FnMaskOf.calls k _ _ l0 true w (Kd.C_of_reads (d := (0 : Int)) (h1 := fun _ => rfl) hr0) hc0 rfl h).mono ?_
 rintro e w' ⟨rfl, hd⟩
 exact ⟨rfl, hd⟩

end Go.Proofs.Ytghbenapnhcllaa.MFnMaskOf
