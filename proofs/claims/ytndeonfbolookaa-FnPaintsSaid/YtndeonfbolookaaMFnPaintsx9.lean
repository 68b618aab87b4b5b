/- Functions of the program as Lean functions, and the proof that a call comes to just these: machine text of this session's own program (myprint.py). -/
import Derived.Test.YtndeonfbolookaaMFnPaintsx0
import Derived.Test.YtndeonfbolookaaMFnPaintsx1
import Derived.Test.YtndeonfbolookaaMFnPaintsx4
import Derived.Test.YtndeonfbolookaaMFnPaintsx5
import Derived.Test.YtndeonfbolookaaMFnPaintsx7
import Derived.Test.YtndeonfbolookaaMFnPaintsx8
namespace Go.Proofs.Ytndeonfbolookaa.MFnPaints
open Go.RowKit Go.Proofs.YtndeonfbolookaaW.PrintWords Go.Proofs.YtndeonfbolookaaW.PrintLast Go.Proofs.YtndeonfbolookaaW.PrintMore
attribute [local go_sem] max2_int min2_int max_two min_two max_three min_three max_four min_four   -- for this text's walks alone
set_option linter.unusedVariables false
set_option linter.unusedSimpArgs false

attribute [local go_sem high] eqA27
def y9_0 : Array Bool := #[false, false, false, false, false, false, false, false, false, false, false, false, false, false, false, false, false, false, false, false, false, false, false, false, false, false, false, false, false, false, false, false, false, false, false, false, false]
def y9_8 : Array Bool := #[true, false, false, false, false, false, false, false, false, false, false, false, false, false, false, false, false, false, false, false, false, false, false, false, false, false, false, false, false, false, false, false, false, false, false, false, false]
def y9_10 : Array Bool := #[true, true, false, false, false, false, false, false, false, false, false, false, false, false, false, false, false, false, false, false, false, false, false, false, false, false, false, false, false, false, false, false, false, false, false, false, false]
def y9_15 : Array Bool := #[true, true, true, false, false, false, false, false, false, false, false, false, false, false, false, false, false, false, false, false, false, false, false, false, false, false, false, false, false, false, false, false, false, false, false, false, false]
def y9_18 : Array Bool := #[true, true, true, true, false, false, false, false, false, false, false, false, false, false, false, false, false, false, false, false, false, false, false, false, false, false, false, false, false, false, false, false, false, false, false, false, false]
def y9_21 : Array Bool := #[true, true, true, true, true, false, false, false, false, false, false, false, false, false, false, false, false, false, false, false, false, false, false, false, false, false, false, false, false, false, false, false, false, false, false, false, false]
def y9_24 : Array Bool := #[true, true, true, true, true, false, true, false, false, false, false, false, false, false, false, false, false, false, false, false, false, false, false, false, false, false, false, false, false, false, false, false, false, false, false, false, false]
def y9_29 : Array Bool := #[true, true, true, true, true, true, true, false, false, false, false, false, false, false, false, false, false, false, false, false, false, false, false, false, false, false, false, false, false, false, false, false, false, false, false, false, false]
def y9_34 : Array Bool := #[true, true, true, true, true, true, true, true, false, false, false, false, false, false, false, false, false, false, false, false, false, false, false, false, false, false, false, false, false, false, false, false, false, false, false, false, false]
def y9_38 : Array Bool := #[true, true, true, true, true, true, true, true, true, false, false, false, false, false, false, false, false, false, false, false, false, false, false, false, false, false, false, false, false, false, false, false, false, false, false, false, false]
def y9_40 : Array Bool := #[true, true, true, true, true, true, true, true, true, true, false, false, false, false, false, false, false, false, false, false, false, false, false, false, false, false, false, false, false, false, false, false, false, false, false, false, false]
def y9_41 : Array Bool := #[true, true, true, true, true, true, true, true, true, true, true, false, false, false, false, false, false, false, false, false, false, false, false, false, false, false, false, false, false, false, false, false, false, false, false, false, false]
def y9_43 : Array Bool := #[true, true, true, true, true, true, true, true, true, true, true, true, false, false, false, false, false, false, false, false, false, false, false, false, false, false, false, false, false, false, false, false, false, false, false, false, false]
def y9_45 : Array Bool := #[true, true, true, true, true, true, true, true, true, true, true, true, false, true, false, false, false, false, false, false, false, false, false, false, false, false, false, false, false, false, false, false, false, false, false, false, false]
def y9_46 : Array Bool := #[true, true, true, true, true, true, true, true, true, true, true, true, true, false, false, false, false, false, false, false, false, false, false, false, false, false, false, false, false, false, false, false, false, false, false, false, false]
def y9_48 : Array Bool := #[true, true, true, true, true, true, true, true, true, true, true, true, true, true, false, false, false, false, false, false, false, false, false, false, false, false, false, false, false, false, false, false, false, false, false, false, false]
def y9_50 : Array Bool := #[true, true, true, true, true, true, true, true, true, true, true, true, true, true, true, false, false, false, false, false, false, false, false, false, false, false, false, false, false, false, false, false, false, false, false, false, false]
def y9_53 : Array Bool := #[true, true, true, true, true, true, true, true, true, true, true, true, true, true, true, true, false, false, false, false, false, false, false, false, false, false, false, false, false, false, false, false, false, false, false, false, false]
def y9_56 : Array Bool := #[true, true, true, true, true, true, true, true, true, true, true, true, true, true, true, true, true, false, false, false, false, false, false, false, false, false, false, false, false, false, false, false, false, false, false, false, false]
def y9_57 : Array Bool := #[true, true, true, true, true, true, true, true, true, true, true, true, true, true, true, true, true, true, false, false, false, false, false, false, false, false, false, false, false, false, false, false, false, false, false, false, false]
def y9_58 : Array Bool := #[true, true, true, true, true, true, true, true, true, true, true, true, true, true, true, true, true, true, true, false, false, false, false, false, false, false, false, false, false, false, false, false, false, false, false, false, false]
def y9_60 : Array Bool := #[true, true, true, true, true, true, true, true, true, true, true, true, true, true, true, true, true, true, true, false, true, false, false, false, false, false, false, false, false, false, false, false, false, false, false, false, false]
def y9_61 : Array Bool := #[true, true, true, true, true, true, true, true, true, true, true, true, true, true, true, true, true, true, true, true, false, false, false, false, false, false, false, false, false, false, false, false, false, false, false, false, false]
def y9_63 : Array Bool := #[true, true, true, true, true, true, true, true, true, true, true, true, true, true, true, true, true, true, true, true, true, false, false, false, false, false, false, false, false, false, false, false, false, false, false, false, false]
def y9_65 : Array Bool := #[true, true, true, true, true, true, true, true, true, true, true, true, true, true, true, true, true, true, true, true, true, true, false, false, false, false, false, false, false, false, false, false, false, false, false, false, false]
def y9_67 : Array Bool := #[true, true, true, true, true, true, true, true, true, true, true, true, true, true, true, true, true, true, true, true, true, true, true, false, false, false, false, false, false, false, false, false, false, false, false, false, false]
def y9_70 : Array Bool := #[true, true, true, true, true, true, true, true, true, true, true, true, true, true, true, true, true, true, true, true, true, true, true, true, false, false, false, false, false, false, false, false, false, false, false, false, false]
def y9_73 : Array Bool := #[true, true, true, true, true, true, true, true, true, true, true, true, true, true, true, true, true, true, true, true, true, true, true, true, true, false, false, false, false, false, false, false, false, false, false, false, false]
def y9_74 : Array Bool := #[true, true, true, true, true, true, true, true, true, true, true, true, true, true, true, true, true, true, true, true, true, true, true, true, true, true, false, false, false, false, false, false, false, false, false, false, false]
def y9_75 : Array Bool := #[true, true, true, true, true, true, true, true, true, true, true, true, true, true, true, true, true, true, true, true, true, true, true, true, true, true, true, false, false, false, false, false, false, false, false, false, false]
def y9_77 : Array Bool := #[true, true, true, true, true, true, true, true, true, true, true, true, true, true, true, true, true, true, true, true, true, true, true, true, true, true, true, true, false, false, false, false, false, false, false, false, false]
def y9_79 : Array Bool := #[true, true, true, true, true, true, true, true, true, true, true, true, true, true, true, true, true, true, true, true, true, true, true, true, true, true, true, true, true, false, false, false, false, false, false, false, false]
def y9_81 : Array Bool := #[true, true, true, true, true, true, true, true, true, true, true, true, true, true, true, true, true, true, true, true, true, true, true, true, true, true, true, true, true, true, false, false, false, false, false, false, false]
def y9_85 : Array Bool := #[true, true, true, true, true, true, true, true, true, true, true, true, true, true, true, true, true, true, true, true, true, true, true, true, true, true, true, true, true, true, true, false, false, false, false, false, false]
def y9_87 : Array Bool := #[true, true, true, true, true, true, true, true, true, true, true, true, true, true, true, true, true, true, true, true, true, true, true, true, true, true, true, true, true, true, true, true, false, false, false, false, false]
def y9_88 : Array Bool := #[true, true, true, true, true, true, true, true, true, true, true, true, true, true, true, true, true, true, true, true, true, true, true, true, true, true, true, true, true, true, true, true, true, false, false, false, false]
def y9_89 : Array Bool := #[true, true, true, true, true, true, true, true, true, true, true, true, true, true, true, true, true, true, true, true, true, true, true, true, true, true, true, true, true, true, true, true, true, true, false, false, false]
def y9_90 : Array Bool := #[true, true, true, true, true, true, true, true, true, true, true, true, true, true, true, true, true, true, true, true, true, true, true, true, true, true, true, true, true, true, true, true, true, true, true, false, false]
def y9_91 : Array Bool := #[true, true, true, true, true, true, true, true, true, true, true, true, true, true, true, true, true, true, true, true, true, true, true, true, true, true, true, true, true, true, true, true, true, true, true, true, false]
def y9_92 : Array Bool := #[true, true, true, true, true, true, true, true, true, true, true, true, true, true, true, true, true, true, true, true, true, true, true, true, true, true, true, true, true, true, true, true, true, true, true, true, true]
theorem x9_put {P : Prop} (h : P := by simp only [Act.put, List.setIfInBounds_toArray, List.set_cons_zero, List.set_cons_succ, i64_w, i32_w]; rfl) : P := h
theorem z9_41 {P : Prop} (h : P := by (try simp only [List.map_toArray, List.map_cons, List.map_nil]); first | done | rfl | (simp only [List.length_drop, List.length_take]; rfl)) : P := h
theorem z9_42 {P : Prop} (h : P := by (with_reducible repeat (first | refine blk_drewN ?_ _ | refine blk_drew ?_ | refine blk_alloc ?_ _)); exact BK334.out) : P := h
theorem z9_43 {P : Prop} (h : P := by repeat (first | (with_reducible first | exact HB.out | apply below_alloc | apply pw_below_drewN | apply below_drew1 | refine below_set ?_ GE334.out | refine below_set ?_ GE344.out) | exact HB.out)) : P := h
theorem z9_44 {P : Prop} (h : P := by (with_reducible repeat (first | refine blk_drewN ?_ _ | refine blk_drew ?_ | refine blk_alloc ?_ _)); exact BK344.out) : P := h
theorem z9_45 {P : Prop} (h : P := by repeat (first | (with_reducible first | exact HB.out | apply below_alloc | apply pw_below_drewN | apply below_drew1 | refine below_set ?_ GE334.out | refine below_set ?_ GE344.out | refine below_set ?_ GE356.out) | exact HB.out)) : P := h
theorem z9_46 {P : Prop} (h : P := by (with_reducible repeat (first | apply Kd.R_alloc | apply Kd.R_drewN | apply Kd.R_drew)); exact HO337.out) : P := h
theorem z9_47 {P : Prop} (h : P := by repeat (first | (with_reducible first | exact HB.out | apply below_alloc | apply pw_below_drewN | apply below_drew1 | refine below_set ?_ GE334.out) | exact HB.out)) : P := h
theorem z9_48 {P : Prop} (h : P := by (with_reducible repeat (first | refine blk_drewN ?_ _ | refine blk_drew ?_ | refine blk_alloc ?_ _)); exact BK356.out) : P := h
theorem z9_49 {P : Prop} (h : P := by repeat (first | (with_reducible first | exact HB.out | apply below_alloc | apply pw_below_drewN | apply below_drew1) | exact HB.out)) : P := h
/-! ### laws_FnPaints: function 13 -/
mutual
def laws_FnPaints.j0 : Nat → Int → Int → Bool → Int → Int → Int → Int → Int → Int → Int → Int → Int → Int → Int → Int → Int → Int → Int → Int → Int → Option (Bool)
 | 0, _, _, _, _, _, _, _, _, _, _, _, _, _, _, _, _, _, _, _, _ => none
 | k + 1, x5, x6, x67, x335000, x335001, x335002, x335003, x335004, x335005, x335006, x335007, x335008, x335009, x335010, x335011, x335012, x345000, x345001, x345002, x345003 => if x67 = true then (some false) else ((impl_PartOf.f x335000 x335001 x335002 x335003 x335004 x335005 x335006 x335007 x335008 x335009 x335010 x335011 x335012 x5 x6).bind fun t351 => (if x335000 = 1 then ((impl_Laid.f x335001 x335002 x335003 x335004).bind fun bt352 => (if (x345000 == bt352.1 && (x345001 == bt352.2.1 && (x345002 == bt352.2.2.1 && (x345003 == bt352.2.2.2)))) = true then (some (t351 == 0)) else (some false))) else (laws_FnPaints.l0 k t351 0 x335000 x335001 x335002 x335003 x335004 x335005 x335006 x335007 x335008 x335009 x335010 x335011 x335012 2 x335001 x335002 x335003 x335004 x335005 x335006 x335007 x335008 128 0 2688 0)))
def laws_FnPaints.l0 : Nat → Int → Int → Int → Int → Int → Int → Int → Int → Int → Int → Int → Int → Int → Int → Int → Int → Int → Int → Int → Int → Int → Int → Int → Int → Int → Int → Int → Int → Option (Bool)
 | 0, _, _, _, _, _, _, _, _, _, _, _, _, _, _, _, _, _, _, _, _, _, _, _, _, _, _, _, _ => none
 | k + 1, x8, x10, x335000, x335001, x335002, x335003, x335004, x335005, x335006, x335007, x335008, x335009, x335010, x335011, x335012, x357000, x357001, x357002, x357003, x357004, x357005, x357006, x357007, x357008, x357009, x357010, x357011, x357012 => if x10 < 10 then ((impl_PartOf.f x357000 x357001 x357002 x357003 x357004 x357005 x357006 x357007 x357008 x357009 x357010 x357011 x357012 x10 3).bind fun t357 => ((impl_PartOf.f x357000 x357001 x357002 x357003 x357004 x357005 x357006 x357007 x357008 x357009 x357010 x357011 x357012 (wrap64 (x10 + 1)) 3).bind fun t358 => (if t357 > t358 then (some false) else (laws_FnPaints.l0 k x8 (wrap64 (x10 + 1)) x335000 x335001 x335002 x335003 x335004 x335005 x335006 x335007 x335008 x335009 x335010 x335011 x335012 x357000 x357001 x357002 x357003 x357004 x357005 x357006 x357007 x357008 x357009 x357010 x357011 x357012)))) else (if x8 ≥ 0 then (if x8 ≤ 256 then ((impl_ColorAt.f x357000 x357001 x357002 x357003 x357004 x357005 x357006 x357007 x357008 x357009 x357010 x357011 x357012 0 5).bind fun bt359 => ((impl_Laid.f x335001 x335002 x335003 x335004).bind fun bt363 => (if (bt359.1 == bt363.1 && (bt359.2.1 == bt363.2.1 && (bt359.2.2.1 == bt363.2.2.1 && (bt359.2.2.2 == bt363.2.2.2)))) = true then ((impl_ColorAt.f x357000 x357001 x357002 x357003 x357004 x357005 x357006 x357007 x357008 x357009 x357010 x357011 x357012 10 5).bind fun bt367 => ((impl_Laid.f x335005 x335006 x335007 x335008).bind fun bt371 => (if (bt367.1 == bt371.1 && (bt367.2.1 == bt371.2.1 && (bt367.2.2.1 == bt371.2.2.1 && (bt367.2.2.2 == bt371.2.2.2)))) = true then ((impl_ColorAt.f x357000 x357001 x357002 x357003 x357004 x357005 x357006 x357007 x357008 x357009 x357010 x357011 x357012 (-9) 0).bind fun bt375 => ((impl_Laid.f x335001 x335002 x335003 x335004).bind fun bt379 => (some (bt375.1 == bt379.1 && (bt375.2.1 == bt379.2.1 && (bt375.2.2.1 == bt379.2.2.1 && (bt375.2.2.2 == bt379.2.2.2))))))) else (some false)))) else (some false)))) else (some false)) else (some false))
end
def laws_FnPaints.f (k : Nat) (l0 : List Int) : Option (Bool) := (laws_big.f l0).bind fun t320 => (if t320 = true then (some true) else ((spec_DrawSlope.f k l0).bind fun bt321 => ((spec_DrawPlaces.f k l0).bind fun t335 => (if 0 < (t335.length : Int) then (if 1 < (t335.length : Int) then ((impl_ColorAt.f bt321.1 bt321.2.1 bt321.2.2.1 bt321.2.2.2.1 bt321.2.2.2.2.1 bt321.2.2.2.2.2.1 bt321.2.2.2.2.2.2.1 bt321.2.2.2.2.2.2.2.1 bt321.2.2.2.2.2.2.2.2.1 bt321.2.2.2.2.2.2.2.2.2.1 bt321.2.2.2.2.2.2.2.2.2.2.1 bt321.2.2.2.2.2.2.2.2.2.2.2.1 bt321.2.2.2.2.2.2.2.2.2.2.2.2 (wrap64 ((Int.tmod (rd t335 0) 14) - 1)) (wrap64 ((Int.tmod (rd t335 1) 14) - 1))).bind fun bt340 => ((impl_PaintOk.f bt321.1 bt321.2.1 bt321.2.2.1 bt321.2.2.2.1 bt321.2.2.2.2.1 bt321.2.2.2.2.2.1 bt321.2.2.2.2.2.2.1 bt321.2.2.2.2.2.2.2.1 bt321.2.2.2.2.2.2.2.2.1 bt321.2.2.2.2.2.2.2.2.2.1 bt321.2.2.2.2.2.2.2.2.2.2.1 bt321.2.2.2.2.2.2.2.2.2.2.2.1 bt321.2.2.2.2.2.2.2.2.2.2.2.2).bind fun t345 => (if t345 = true then (if bt340.1 > bt340.2.2.2 then (laws_FnPaints.j0 k (wrap64 ((Int.tmod (rd t335 0) 14) - 1)) (wrap64 ((Int.tmod (rd t335 1) 14) - 1)) true bt321.1 bt321.2.1 bt321.2.2.1 bt321.2.2.2.1 bt321.2.2.2.2.1 bt321.2.2.2.2.2.1 bt321.2.2.2.2.2.2.1 bt321.2.2.2.2.2.2.2.1 bt321.2.2.2.2.2.2.2.2.1 bt321.2.2.2.2.2.2.2.2.2.1 bt321.2.2.2.2.2.2.2.2.2.2.1 bt321.2.2.2.2.2.2.2.2.2.2.2.1 bt321.2.2.2.2.2.2.2.2.2.2.2.2 bt340.1 bt340.2.1 bt340.2.2.1 bt340.2.2.2) else (if bt340.2.1 > bt340.2.2.2 then (laws_FnPaints.j0 k (wrap64 ((Int.tmod (rd t335 0) 14) - 1)) (wrap64 ((Int.tmod (rd t335 1) 14) - 1)) true bt321.1 bt321.2.1 bt321.2.2.1 bt321.2.2.2.1 bt321.2.2.2.2.1 bt321.2.2.2.2.2.1 bt321.2.2.2.2.2.2.1 bt321.2.2.2.2.2.2.2.1 bt321.2.2.2.2.2.2.2.2.1 bt321.2.2.2.2.2.2.2.2.2.1 bt321.2.2.2.2.2.2.2.2.2.2.1 bt321.2.2.2.2.2.2.2.2.2.2.2.1 bt321.2.2.2.2.2.2.2.2.2.2.2.2 bt340.1 bt340.2.1 bt340.2.2.1 bt340.2.2.2) else (if bt340.2.2.1 > bt340.2.2.2 then (laws_FnPaints.j0 k (wrap64 ((Int.tmod (rd t335 0) 14) - 1)) (wrap64 ((Int.tmod (rd t335 1) 14) - 1)) true bt321.1 bt321.2.1 bt321.2.2.1 bt321.2.2.2.1 bt321.2.2.2.2.1 bt321.2.2.2.2.2.1 bt321.2.2.2.2.2.2.1 bt321.2.2.2.2.2.2.2.1 bt321.2.2.2.2.2.2.2.2.1 bt321.2.2.2.2.2.2.2.2.2.1 bt321.2.2.2.2.2.2.2.2.2.2.1 bt321.2.2.2.2.2.2.2.2.2.2.2.1 bt321.2.2.2.2.2.2.2.2.2.2.2.2 bt340.1 bt340.2.1 bt340.2.2.1 bt340.2.2.2) else ((impl_ColorOk.f bt340.1 bt340.2.1 bt340.2.2.1 bt340.2.2.2).bind fun t346 => (if t346 = true then ((spec_ColorAt.f k bt321.1 bt321.2.1 bt321.2.2.1 bt321.2.2.2.1 bt321.2.2.2.2.1 bt321.2.2.2.2.2.1 bt321.2.2.2.2.2.2.1 bt321.2.2.2.2.2.2.2.1 bt321.2.2.2.2.2.2.2.2.1 bt321.2.2.2.2.2.2.2.2.2.1 bt321.2.2.2.2.2.2.2.2.2.2.1 bt321.2.2.2.2.2.2.2.2.2.2.2.1 bt321.2.2.2.2.2.2.2.2.2.2.2.2 (wrap64 ((Int.tmod (rd t335 0) 14) - 1)) (wrap64 ((Int.tmod (rd t335 1) 14) - 1))).bind fun bt347 => (laws_FnPaints.j0 k (wrap64 ((Int.tmod (rd t335 0) 14) - 1)) (wrap64 ((Int.tmod (rd t335 1) 14) - 1)) (!(bt340.1 == bt347.1) || (!(bt340.2.1 == bt347.2.1) || (!(bt340.2.2.1 == bt347.2.2.1) || (!(bt340.2.2.2 == bt347.2.2.2))))) bt321.1 bt321.2.1 bt321.2.2.1 bt321.2.2.2.1 bt321.2.2.2.2.1 bt321.2.2.2.2.2.1 bt321.2.2.2.2.2.2.1 bt321.2.2.2.2.2.2.2.1 bt321.2.2.2.2.2.2.2.2.1 bt321.2.2.2.2.2.2.2.2.2.1 bt321.2.2.2.2.2.2.2.2.2.2.1 bt321.2.2.2.2.2.2.2.2.2.2.2.1 bt321.2.2.2.2.2.2.2.2.2.2.2.2 bt340.1 bt340.2.1 bt340.2.2.1 bt340.2.2.2)) else (laws_FnPaints.j0 k (wrap64 ((Int.tmod (rd t335 0) 14) - 1)) (wrap64 ((Int.tmod (rd t335 1) 14) - 1)) true bt321.1 bt321.2.1 bt321.2.2.1 bt321.2.2.2.1 bt321.2.2.2.2.1 bt321.2.2.2.2.2.1 bt321.2.2.2.2.2.2.1 bt321.2.2.2.2.2.2.2.1 bt321.2.2.2.2.2.2.2.2.1 bt321.2.2.2.2.2.2.2.2.2.1 bt321.2.2.2.2.2.2.2.2.2.2.1 bt321.2.2.2.2.2.2.2.2.2.2.2.1 bt321.2.2.2.2.2.2.2.2.2.2.2.2 bt340.1 bt340.2.1 bt340.2.2.1 bt340.2.2.2)))))) else (laws_FnPaints.j0 k (wrap64 ((Int.tmod (rd t335 0) 14) - 1)) (wrap64 ((Int.tmod (rd t335 1) 14) - 1)) true bt321.1 bt321.2.1 bt321.2.2.1 bt321.2.2.2.1 bt321.2.2.2.2.1 bt321.2.2.2.2.2.1 bt321.2.2.2.2.2.2.1 bt321.2.2.2.2.2.2.2.1 bt321.2.2.2.2.2.2.2.2.1 bt321.2.2.2.2.2.2.2.2.2.1 bt321.2.2.2.2.2.2.2.2.2.2.1 bt321.2.2.2.2.2.2.2.2.2.2.2.1 bt321.2.2.2.2.2.2.2.2.2.2.2.2 bt340.1 bt340.2.1 bt340.2.2.1 bt340.2.2.2)))) else (none)) else (none)))))
theorem laws_FnPaints.mono_l : ∀ k, (∀ y0 y1 y2 y3 y4 y5 y6 y7 y8 y9 y10 y11 y12 y13 y14 y15 y16 y17 y18 y19, LeO (laws_FnPaints.j0 k y0 y1 y2 y3 y4 y5 y6 y7 y8 y9 y10 y11 y12 y13 y14 y15 y16 y17 y18 y19) (laws_FnPaints.j0 (k + 1) y0 y1 y2 y3 y4 y5 y6 y7 y8 y9 y10 y11 y12 y13 y14 y15 y16 y17 y18 y19)) ∧ (∀ y0 y1 y2 y3 y4 y5 y6 y7 y8 y9 y10 y11 y12 y13 y14 y15 y16 y17 y18 y19 y20 y21 y22 y23 y24 y25 y26 y27, LeO (laws_FnPaints.l0 k y0 y1 y2 y3 y4 y5 y6 y7 y8 y9 y10 y11 y12 y13 y14 y15 y16 y17 y18 y19 y20 y21 y22 y23 y24 y25 y26 y27) (laws_FnPaints.l0 (k + 1) y0 y1 y2 y3 y4 y5 y6 y7 y8 y9 y10 y11 y12 y13 y14 y15 y16 y17 y18 y19 y20 y21 y22 y23 y24 y25 y26 y27))
 | 0 => ⟨fun _ _ _ _ _ _ _ _ _ _ _ _ _ _ _ _ _ _ _ _ r h => by simp [laws_FnPaints.j0] at h, fun _ _ _ _ _ _ _ _ _ _ _ _ _ _ _ _ _ _ _ _ _ _ _ _ _ _ _ _ r h => by simp [laws_FnPaints.l0] at h⟩
 | k + 1 => by
  obtain ⟨ih0, ih1⟩ := laws_FnPaints.mono_l k
  refine ⟨?_, ?_⟩
  ·intro y0 y1 y2 y3 y4 y5 y6 y7 y8 y9 y10 y11 y12 y13 y14 y15 y16 y17 y18 y19
   unfold laws_FnPaints.j0
   repeat' first
   | (with_reducible exact ih0 _ _ _ _ _ _ _ _ _ _ _ _ _ _ _ _ _ _ _ _)
   | (with_reducible exact ih1 _ _ _ _ _ _ _ _ _ _ _ _ _ _ _ _ _ _ _ _ _ _ _ _ _ _ _ _)
   | (with_reducible exact spec_ColorAt.mono _ _ _ _ _ _ _ _ _ _ _ _ _ _ _ _)
   | (with_reducible exact spec_DrawPlaces.mono _ _)
   | (with_reducible exact spec_DrawSlope.mono _ _)
   | (with_reducible exact LeO.refl _)
   | (with_reducible exact LeO.none _)
   | (with_reducible refine LeO.ite ?_ ?_)
   | (with_reducible refine LeO.bind ?_ (fun _ => ?_))
   | exact ih0 _ _ _ _ _ _ _ _ _ _ _ _ _ _ _ _ _ _ _ _
   | exact ih1 _ _ _ _ _ _ _ _ _ _ _ _ _ _ _ _ _ _ _ _ _ _ _ _ _ _ _ _
   | exact spec_ColorAt.mono _ _ _ _ _ _ _ _ _ _ _ _ _ _ _ _
   | exact spec_DrawPlaces.mono _ _
   | exact spec_DrawSlope.mono _ _
   | exact LeO.none _
   | refine LeO.ite ?_ ?_
   | refine LeO.bind ?_ (fun _ => ?_)
  ·intro y0 y1 y2 y3 y4 y5 y6 y7 y8 y9 y10 y11 y12 y13 y14 y15 y16 y17 y18 y19 y20 y21 y22 y23 y24 y25 y26 y27
   unfold laws_FnPaints.l0
   repeat' first
   | (with_reducible exact ih0 _ _ _ _ _ _ _ _ _ _ _ _ _ _ _ _ _ _ _ _)
   | (with_reducible exact ih1 _ _ _ _ _ _ _ _ _ _ _ _ _ _ _ _ _ _ _ _ _ _ _ _ _ _ _ _)
   | (with_reducible exact spec_ColorAt.mono _ _ _ _ _ _ _ _ _ _ _ _ _ _ _ _)
   | (with_reducible exact spec_DrawPlaces.mono _ _)
   | (with_reducible exact spec_DrawSlope.mono _ _)
   | (with_reducible exact LeO.refl _)
   | (with_reducible exact LeO.none _)
   | (with_reducible refine LeO.ite ?_ ?_)
   | (with_reducible refine LeO.bind ?_ (fun _ => ?_))
   | exact ih0 _ _ _ _ _ _ _ _ _ _ _ _ _ _ _ _ _ _ _ _
   | exact ih1 _ _ _ _ _ _ _ _ _ _ _ _ _ _ _ _ _ _ _ _ _ _ _ _ _ _ _ _
   | exact spec_ColorAt.mono _ _ _ _ _ _ _ _ _ _ _ _ _ _ _ _
   | exact spec_DrawPlaces.mono _ _
   | exact spec_DrawSlope.mono _ _
   | exact LeO.none _
   | refine LeO.ite ?_ ?_
   | refine LeO.bind ?_ (fun _ => ?_)
theorem laws_FnPaints.mono : ∀ a0 k, LeO (laws_FnPaints.f k a0) (laws_FnPaints.f (k + 1) a0) := by
 intro a0 k
 obtain ⟨ih0, ih1⟩ := laws_FnPaints.mono_l k
 unfold laws_FnPaints.f
 repeat' first
   | (with_reducible exact ih0 _ _ _ _ _ _ _ _ _ _ _ _ _ _ _ _ _ _ _ _)
   | (with_reducible exact ih1 _ _ _ _ _ _ _ _ _ _ _ _ _ _ _ _ _ _ _ _ _ _ _ _ _ _ _ _)
   | (with_reducible exact spec_ColorAt.mono _ _ _ _ _ _ _ _ _ _ _ _ _ _ _ _)
   | (with_reducible exact spec_DrawPlaces.mono _ _)
   | (with_reducible exact spec_DrawSlope.mono _ _)
   | (with_reducible exact LeO.refl _)
   | (with_reducible exact LeO.none _)
   | (with_reducible refine LeO.ite ?_ ?_)
   | (with_reducible refine LeO.bind ?_ (fun _ => ?_))
   | exact ih0 _ _ _ _ _ _ _ _ _ _ _ _ _ _ _ _ _ _ _ _
   | exact ih1 _ _ _ _ _ _ _ _ _ _ _ _ _ _ _ _ _ _ _ _ _ _ _ _ _ _ _ _
   | exact spec_ColorAt.mono _ _ _ _ _ _ _ _ _ _ _ _ _ _ _ _
   | exact spec_DrawPlaces.mono _ _
   | exact spec_DrawSlope.mono _ _
   | exact LeO.none _
   | refine LeO.ite ?_ ?_
   | refine LeO.bind ?_ (fun _ => ?_)
def laws_FnPaints.T8 : Bool × List (List Nat × List Nat) := (true, [([], []), ([0], [0]), ([1], [1]), ([2, 1], [2]), ([3], [3]), ([4, 3], [3, 4]), ([3], [3]), ([6, 3], [3, 6]), ([5, 7, 3], [3, 5, 7]), ([3, 8], [3, 8]), ([9, 3], [9]), ([10], [10]), ([11, 10], [10, 11]), ([10], [10]), ([13, 10], [10, 13]), ([12, 14, 10], [10, 12, 14]), ([10, 15], [10, 15]), ([16, 10], [16]), ([17], [17]), ([18, 17], [17, 18]), ([17], [17]), ([20, 17], [17, 20]), ([19, 21, 17], [17, 19, 21]), ([17, 22], [17, 22]), ([23, 17], [23]), ([24], [24]), ([25, 24, 24], [24, 25]), ([26, 24], [24, 26]), ([24, 27], [24, 27]), ([28, 26], [28]), ([29], [29]), ([29], [29]), ([29], [29]), ([29], [29]), ([31, 32, 33, 29, 29], [29, 31, 32, 33]), ([30, 34, 29], [29, 30, 34]), ([29, 35], [29, 35])])
def laws_FnPaints.B8 : List Nat := [0, 1, 3, 7, 15, 31, 15, 79, 255, 511, 1023, 2047, 4095, 2047, 10239, 32767, 65535, 131071, 262143, 524287, 262143, 1310719, 4194303, 8388607, 16777215, 33554431, 67108863, 134217727, 268435455, 536870911, 1073741823, 1073741823, 1073741823, 1073741823, 16106127359, 34359738367, 68719476735]
theorem laws_FnPaints.tab8 : rtab .any (opsOf Try.f13 8) = laws_FnPaints.T8 := by kernel_rfl
theorem laws_FnPaints.bits8 : waitsOk laws_FnPaints.T8.2 laws_FnPaints.B8 = true := by kernel_rfl
def laws_FnPaints.T12 : Bool × List (List Nat × List Nat) := (true, [([], []), ([], []), ([1], [1]), ([2], [2]), ([0, 3], [0, 3]), ([4, 3], [4]), ([5], [5]), ([6, 5], [5, 6]), ([5, 7], [5, 7]), ([8, 5, 0, 1, 2, 3, 4, 5, 6, 7, 8], [8])])
def laws_FnPaints.B12 : List Nat := [0, 0, 2, 6, 15, 31, 63, 127, 255, 511]
theorem laws_FnPaints.tab12 : rtab .any (opsOf Try.f13 12) = laws_FnPaints.T12 := by kernel_rfl
theorem laws_FnPaints.bits12 : waitsOk laws_FnPaints.T12.2 laws_FnPaints.B12 = true := by kernel_rfl
def laws_FnPaints.T17 : Bool × List (List Nat × List Nat) := (true, [([], []), ([], []), ([0, 1], [0, 1]), ([], []), ([], []), ([4], [4]), ([3, 5, 2], [3, 5]), ([2, 6], [2, 6])])
def laws_FnPaints.B17 : List Nat := [0, 0, 3, 0, 0, 16, 63, 127]
theorem laws_FnPaints.tab17 : rtab .any (opsOf Try.f13 17) = laws_FnPaints.T17 := by kernel_rfl
theorem laws_FnPaints.bits17 : waitsOk laws_FnPaints.T17.2 laws_FnPaints.B17 = true := by kernel_rfl
def laws_FnPaints.T19 : Bool × List (List Nat × List Nat) := (true, [([], []), ([0], [0]), ([1], [1]), ([2], [2]), ([3, 2], [2, 3]), ([2, 4], [2, 4]), ([5, 2], [5]), ([6], [6]), ([7, 6, 6], [6, 7]), ([6], [6]), ([9, 6], [6, 9]), ([10, 8, 6], [6, 10]), ([8, 11, 6], [6, 8, 11]), ([6, 12], [6, 12]), ([13, 11], [13]), ([14], [14]), ([15, 14, 14], [14, 15]), ([14], [14]), ([17, 14], [14, 17]), ([18, 16, 14], [14, 18]), ([16, 19, 14], [14, 16, 19]), ([14, 20], [14, 20]), ([21, 19], [21]), ([22], [22]), ([23, 22, 22], [22, 23]), ([22], [22]), ([25, 22], [22, 25]), ([26, 24, 22], [22, 26]), ([24, 27, 22], [22, 24, 27]), ([22, 28], [22, 28]), ([29, 27, 0, 1, 2, 3, 4, 5, 6, 7, 8, 9, 10, 11, 12, 13, 14, 15, 16, 17, 18, 19, 20, 21, 22, 23, 24, 25, 26, 27, 28, 29], [29])])
def laws_FnPaints.B19 : List Nat := [0, 1, 3, 7, 15, 31, 63, 127, 255, 127, 639, 2047, 4095, 8191, 16383, 32767, 65535, 32767, 163839, 524287, 1048575, 2097151, 4194303, 8388607, 16777215, 8388607, 41943039, 134217727, 268435455, 536870911, 1073741823]
theorem laws_FnPaints.tab19 : rtab .any (opsOf Try.f13 19) = laws_FnPaints.T19 := by kernel_rfl
theorem laws_FnPaints.bits19 : waitsOk laws_FnPaints.T19.2 laws_FnPaints.B19 = true := by kernel_rfl
set_option maxHeartbeats 8000000 in
set_option maxRecDepth 100000 in
theorem laws_FnPaints.calls (k : Nat) (A0 : Option Addr) (c0 : Nat) (l0 : List Int) (r : Bool) (w : World) (hr0 : Kd.C (Kd.int .u8) w A0 l0.length l0) (hc0 : l0.length ≤ c0) (hT : r = true) (h : laws_FnPaints.f k l0 = some r) :
  Calls Try.prog 13 #[.slice A0 l0.length c0] w fun e w' => e = .returned (.bool r) ∧ Below w.heap.size w w' := by
 have hu44 := Try.underlying44
 have hu27 := Try.underlying27
 have hu42 := Try.underlying42
 have HR0 := Aside0.mk hr0
 have HC0 := Aside0.mk hc0
 clear hr0 hc0
 have HB := Aside0.mk (Below.refl w.heap.size w)
 have H : ((laws_big.f l0).bind fun t320 => (if t320 = true then (some true) else ((spec_DrawSlope.f k l0).bind fun bt321 => ((spec_DrawPlaces.f k l0).bind fun t335 => (if 0 < (t335.length : Int) then (if 1 < (t335.length : Int) then ((impl_ColorAt.f bt321.1 bt321.2.1 bt321.2.2.1 bt321.2.2.2.1 bt321.2.2.2.2.1 bt321.2.2.2.2.2.1 bt321.2.2.2.2.2.2.1 bt321.2.2.2.2.2.2.2.1 bt321.2.2.2.2.2.2.2.2.1 bt321.2.2.2.2.2.2.2.2.2.1 bt321.2.2.2.2.2.2.2.2.2.2.1 bt321.2.2.2.2.2.2.2.2.2.2.2.1 bt321.2.2.2.2.2.2.2.2.2.2.2.2 (wrap64 ((Int.tmod (rd t335 0) 14) - 1)) (wrap64 ((Int.tmod (rd t335 1) 14) - 1))).bind fun bt340 => ((impl_PaintOk.f bt321.1 bt321.2.1 bt321.2.2.1 bt321.2.2.2.1 bt321.2.2.2.2.1 bt321.2.2.2.2.2.1 bt321.2.2.2.2.2.2.1 bt321.2.2.2.2.2.2.2.1 bt321.2.2.2.2.2.2.2.2.1 bt321.2.2.2.2.2.2.2.2.2.1 bt321.2.2.2.2.2.2.2.2.2.2.1 bt321.2.2.2.2.2.2.2.2.2.2.2.1 bt321.2.2.2.2.2.2.2.2.2.2.2.2).bind fun t345 => (if t345 = true then (if bt340.1 > bt340.2.2.2 then (laws_FnPaints.j0 k (wrap64 ((Int.tmod (rd t335 0) 14) - 1)) (wrap64 ((Int.tmod (rd t335 1) 14) - 1)) true bt321.1 bt321.2.1 bt321.2.2.1 bt321.2.2.2.1 bt321.2.2.2.2.1 bt321.2.2.2.2.2.1 bt321.2.2.2.2.2.2.1 bt321.2.2.2.2.2.2.2.1 bt321.2.2.2.2.2.2.2.2.1 bt321.2.2.2.2.2.2.2.2.2.1 bt321.2.2.2.2.2.2.2.2.2.2.1 bt321.2.2.2.2.2.2.2.2.2.2.2.1 bt321.2.2.2.2.2.2.2.2.2.2.2.2 bt340.1 bt340.2.1 bt340.2.2.1 bt340.2.2.2) else (if bt340.2.1 > bt340.2.2.2 then (laws_FnPaints.j0 k (wrap64 ((Int.tmod (rd t335 0) 14) - 1)) (wrap64 ((Int.tmod (rd t335 1) 14) - 1)) true bt321.1 bt321.2.1 bt321.2.2.1 bt321.2.2.2.1 bt321.2.2.2.2.1 bt321.2.2.2.2.2.1 bt321.2.2.2.2.2.2.1 bt321.2.2.2.2.2.2.2.1 bt321.2.2.2.2.2.2.2.2.1 bt321.2.2.2.2.2.2.2.2.2.1 bt321.2.2.2.2.2.2.2.2.2.2.1 bt321.2.2.2.2.2.2.2.2.2.2.2.1 bt321.2.2.2.2.2.2.2.2.2.2.2.2 bt340.1 bt340.2.1 bt340.2.2.1 bt340.2.2.2) else (if bt340.2.2.1 > bt340.2.2.2 then (laws_FnPaints.j0 k (wrap64 ((Int.tmod (rd t335 0) 14) - 1)) (wrap64 ((Int.tmod (rd t335 1) 14) - 1)) true bt321.1 bt321.2.1 bt321.2.2.1 bt321.2.2.2.1 bt321.2.2.2.2.1 bt321.2.2.2.2.2.1 bt321.2.2.2.2.2.2.1 bt321.2.2.2.2.2.2.2.1 bt321.2.2.2.2.2.2.2.2.1 bt321.2.2.2.2.2.2.2.2.2.1 bt321.2.2.2.2.2.2.2.2.2.2.1 bt321.2.2.2.2.2.2.2.2.2.2.2.1 bt321.2.2.2.2.2.2.2.2.2.2.2.2 bt340.1 bt340.2.1 bt340.2.2.1 bt340.2.2.2) else ((impl_ColorOk.f bt340.1 bt340.2.1 bt340.2.2.1 bt340.2.2.2).bind fun t346 => (if t346 = true then ((spec_ColorAt.f k bt321.1 bt321.2.1 bt321.2.2.1 bt321.2.2.2.1 bt321.2.2.2.2.1 bt321.2.2.2.2.2.1 bt321.2.2.2.2.2.2.1 bt321.2.2.2.2.2.2.2.1 bt321.2.2.2.2.2.2.2.2.1 bt321.2.2.2.2.2.2.2.2.2.1 bt321.2.2.2.2.2.2.2.2.2.2.1 bt321.2.2.2.2.2.2.2.2.2.2.2.1 bt321.2.2.2.2.2.2.2.2.2.2.2.2 (wrap64 ((Int.tmod (rd t335 0) 14) - 1)) (wrap64 ((Int.tmod (rd t335 1) 14) - 1))).bind fun bt347 => (laws_FnPaints.j0 k (wrap64 ((Int.tmod (rd t335 0) 14) - 1)) (wrap64 ((Int.tmod (rd t335 1) 14) - 1)) (!(bt340.1 == bt347.1) || (!(bt340.2.1 == bt347.2.1) || (!(bt340.2.2.1 == bt347.2.2.1) || (!(bt340.2.2.2 == bt347.2.2.2))))) bt321.1 bt321.2.1 bt321.2.2.1 bt321.2.2.2.1 bt321.2.2.2.2.1 bt321.2.2.2.2.2.1 bt321.2.2.2.2.2.2.1 bt321.2.2.2.2.2.2.2.1 bt321.2.2.2.2.2.2.2.2.1 bt321.2.2.2.2.2.2.2.2.2.1 bt321.2.2.2.2.2.2.2.2.2.2.1 bt321.2.2.2.2.2.2.2.2.2.2.2.1 bt321.2.2.2.2.2.2.2.2.2.2.2.2 bt340.1 bt340.2.1 bt340.2.2.1 bt340.2.2.2)) else (laws_FnPaints.j0 k (wrap64 ((Int.tmod (rd t335 0) 14) - 1)) (wrap64 ((Int.tmod (rd t335 1) 14) - 1)) true bt321.1 bt321.2.1 bt321.2.2.1 bt321.2.2.2.1 bt321.2.2.2.2.1 bt321.2.2.2.2.2.1 bt321.2.2.2.2.2.2.1 bt321.2.2.2.2.2.2.2.1 bt321.2.2.2.2.2.2.2.2.1 bt321.2.2.2.2.2.2.2.2.2.1 bt321.2.2.2.2.2.2.2.2.2.2.1 bt321.2.2.2.2.2.2.2.2.2.2.2.1 bt321.2.2.2.2.2.2.2.2.2.2.2.2 bt340.1 bt340.2.1 bt340.2.2.1 bt340.2.2.2)))))) else (laws_FnPaints.j0 k (wrap64 ((Int.tmod (rd t335 0) 14) - 1)) (wrap64 ((Int.tmod (rd t335 1) 14) - 1)) true bt321.1 bt321.2.1 bt321.2.2.1 bt321.2.2.2.1 bt321.2.2.2.2.1 bt321.2.2.2.2.2.1 bt321.2.2.2.2.2.2.1 bt321.2.2.2.2.2.2.2.1 bt321.2.2.2.2.2.2.2.2.1 bt321.2.2.2.2.2.2.2.2.2.1 bt321.2.2.2.2.2.2.2.2.2.2.1 bt321.2.2.2.2.2.2.2.2.2.2.2.1 bt321.2.2.2.2.2.2.2.2.2.2.2.2 bt340.1 bt340.2.1 bt340.2.2.1 bt340.2.2.2)))) else (none)) else (none)))))) = some r := h
 clear h
 replace H := Option.bind_eq_some_iff.mp H
 obtain ⟨t320, A20, H⟩ := H
 replace H : (if t320 = true then (some true) else ((spec_DrawSlope.f k l0).bind fun bt321 => ((spec_DrawPlaces.f k l0).bind fun t335 => (if 0 < (t335.length : Int) then (if 1 < (t335.length : Int) then ((impl_ColorAt.f bt321.1 bt321.2.1 bt321.2.2.1 bt321.2.2.2.1 bt321.2.2.2.2.1 bt321.2.2.2.2.2.1 bt321.2.2.2.2.2.2.1 bt321.2.2.2.2.2.2.2.1 bt321.2.2.2.2.2.2.2.2.1 bt321.2.2.2.2.2.2.2.2.2.1 bt321.2.2.2.2.2.2.2.2.2.2.1 bt321.2.2.2.2.2.2.2.2.2.2.2.1 bt321.2.2.2.2.2.2.2.2.2.2.2.2 (wrap64 ((Int.tmod (rd t335 0) 14) - 1)) (wrap64 ((Int.tmod (rd t335 1) 14) - 1))).bind fun bt340 => ((impl_PaintOk.f bt321.1 bt321.2.1 bt321.2.2.1 bt321.2.2.2.1 bt321.2.2.2.2.1 bt321.2.2.2.2.2.1 bt321.2.2.2.2.2.2.1 bt321.2.2.2.2.2.2.2.1 bt321.2.2.2.2.2.2.2.2.1 bt321.2.2.2.2.2.2.2.2.2.1 bt321.2.2.2.2.2.2.2.2.2.2.1 bt321.2.2.2.2.2.2.2.2.2.2.2.1 bt321.2.2.2.2.2.2.2.2.2.2.2.2).bind fun t345 => (if t345 = true then (if bt340.1 > bt340.2.2.2 then (laws_FnPaints.j0 k (wrap64 ((Int.tmod (rd t335 0) 14) - 1)) (wrap64 ((Int.tmod (rd t335 1) 14) - 1)) true bt321.1 bt321.2.1 bt321.2.2.1 bt321.2.2.2.1 bt321.2.2.2.2.1 bt321.2.2.2.2.2.1 bt321.2.2.2.2.2.2.1 bt321.2.2.2.2.2.2.2.1 bt321.2.2.2.2.2.2.2.2.1 bt321.2.2.2.2.2.2.2.2.2.1 bt321.2.2.2.2.2.2.2.2.2.2.1 bt321.2.2.2.2.2.2.2.2.2.2.2.1 bt321.2.2.2.2.2.2.2.2.2.2.2.2 bt340.1 bt340.2.1 bt340.2.2.1 bt340.2.2.2) else (if bt340.2.1 > bt340.2.2.2 then (laws_FnPaints.j0 k (wrap64 ((Int.tmod (rd t335 0) 14) - 1)) (wrap64 ((Int.tmod (rd t335 1) 14) - 1)) true bt321.1 bt321.2.1 bt321.2.2.1 bt321.2.2.2.1 bt321.2.2.2.2.1 bt321.2.2.2.2.2.1 bt321.2.2.2.2.2.2.1 bt321.2.2.2.2.2.2.2.1 bt321.2.2.2.2.2.2.2.2.1 bt321.2.2.2.2.2.2.2.2.2.1 bt321.2.2.2.2.2.2.2.2.2.2.1 bt321.2.2.2.2.2.2.2.2.2.2.2.1 bt321.2.2.2.2.2.2.2.2.2.2.2.2 bt340.1 bt340.2.1 bt340.2.2.1 bt340.2.2.2) else (if bt340.2.2.1 > bt340.2.2.2 then (laws_FnPaints.j0 k (wrap64 ((Int.tmod (rd t335 0) 14) - 1)) (wrap64 ((Int.tmod (rd t335 1) 14) - 1)) true bt321.1 bt321.2.1 bt321.2.2.1 bt321.2.2.2.1 bt321.2.2.2.2.1 bt321.2.2.2.2.2.1 bt321.2.2.2.2.2.2.1 bt321.2.2.2.2.2.2.2.1 bt321.2.2.2.2.2.2.2.2.1 bt321.2.2.2.2.2.2.2.2.2.1 bt321.2.2.2.2.2.2.2.2.2.2.1 bt321.2.2.2.2.2.2.2.2.2.2.2.1 bt321.2.2.2.2.2.2.2.2.2.2.2.2 bt340.1 bt340.2.1 bt340.2.2.1 bt340.2.2.2) else ((impl_ColorOk.f bt340.1 bt340.2.1 bt340.2.2.1 bt340.2.2.2).bind fun t346 => (if t346 = true then ((spec_ColorAt.f k bt321.1 bt321.2.1 bt321.2.2.1 bt321.2.2.2.1 bt321.2.2.2.2.1 bt321.2.2.2.2.2.1 bt321.2.2.2.2.2.2.1 bt321.2.2.2.2.2.2.2.1 bt321.2.2.2.2.2.2.2.2.1 bt321.2.2.2.2.2.2.2.2.2.1 bt321.2.2.2.2.2.2.2.2.2.2.1 bt321.2.2.2.2.2.2.2.2.2.2.2.1 bt321.2.2.2.2.2.2.2.2.2.2.2.2 (wrap64 ((Int.tmod (rd t335 0) 14) - 1)) (wrap64 ((Int.tmod (rd t335 1) 14) - 1))).bind fun bt347 => (laws_FnPaints.j0 k (wrap64 ((Int.tmod (rd t335 0) 14) - 1)) (wrap64 ((Int.tmod (rd t335 1) 14) - 1)) (!(bt340.1 == bt347.1) || (!(bt340.2.1 == bt347.2.1) || (!(bt340.2.2.1 == bt347.2.2.1) || (!(bt340.2.2.2 == bt347.2.2.2))))) bt321.1 bt321.2.1 bt321.2.2.1 bt321.2.2.2.1 bt321.2.2.2.2.1 bt321.2.2.2.2.2.1 bt321.2.2.2.2.2.2.1 bt321.2.2.2.2.2.2.2.1 bt321.2.2.2.2.2.2.2.2.1 bt321.2.2.2.2.2.2.2.2.2.1 bt321.2.2.2.2.2.2.2.2.2.2.1 bt321.2.2.2.2.2.2.2.2.2.2.2.1 bt321.2.2.2.2.2.2.2.2.2.2.2.2 bt340.1 bt340.2.1 bt340.2.2.1 bt340.2.2.2)) else (laws_FnPaints.j0 k (wrap64 ((Int.tmod (rd t335 0) 14) - 1)) (wrap64 ((Int.tmod (rd t335 1) 14) - 1)) true bt321.1 bt321.2.1 bt321.2.2.1 bt321.2.2.2.1 bt321.2.2.2.2.1 bt321.2.2.2.2.2.1 bt321.2.2.2.2.2.2.1 bt321.2.2.2.2.2.2.2.1 bt321.2.2.2.2.2.2.2.2.1 bt321.2.2.2.2.2.2.2.2.2.1 bt321.2.2.2.2.2.2.2.2.2.2.1 bt321.2.2.2.2.2.2.2.2.2.2.2.1 bt321.2.2.2.2.2.2.2.2.2.2.2.2 bt340.1 bt340.2.1 bt340.2.2.1 bt340.2.2.2)))))) else (laws_FnPaints.j0 k (wrap64 ((Int.tmod (rd t335 0) 14) - 1)) (wrap64 ((Int.tmod (rd t335 1) 14) - 1)) true bt321.1 bt321.2.1 bt321.2.2.1 bt321.2.2.2.1 bt321.2.2.2.2.1 bt321.2.2.2.2.2.1 bt321.2.2.2.2.2.2.1 bt321.2.2.2.2.2.2.2.1 bt321.2.2.2.2.2.2.2.2.1 bt321.2.2.2.2.2.2.2.2.2.1 bt321.2.2.2.2.2.2.2.2.2.2.1 bt321.2.2.2.2.2.2.2.2.2.2.2.1 bt321.2.2.2.2.2.2.2.2.2.2.2.2 bt340.1 bt340.2.1 bt340.2.2.1 bt340.2.2.2)))) else (none)) else (none))))) = some r := H
 have A2 := Aside0.mk A20
 clear A20
 by_cases c3 : t320 = true
 ·subst c3
  have H1 : (some true) = some r := by rw [if_pos rfl] at H; exact H
  clear H; have H := H1; clear H1
  obtain rfl := Option.some.inj H
  simp only [Option.some.injEq, Prod.mk.injEq] at H
  obtain ⟨rfl⟩ := H
  go_enter Try.func13, Try.ntmps13
  go_wp2_with (first | ((with_reducible refine gate_callee (f := 38) rfl ?_); refine goesL_ (some 12) rfl rfl Try.func38 (by kernel_rfl) rfl #[.slice A0 l0.length c0] rfl z9_41 ?_; (with_reducible refine (laws_big.calls _ _ l0 true _ ?side1 ?side2 A2.out).mono ?_); (case side1 => repeat (first | exact HR0.out | (with_reducible refine Kd.C_alloc ?_ _) | (with_reducible refine Kd.C_drewN ?_ _) | (with_reducible refine Kd.C_drew ?_))); (case side2 => exact HC0.out); rintro e w' ⟨rfl, ⟨nd, rfl⟩⟩; refine ⟨_, rfl, ?_⟩))
  go_ret
  exact ⟨by first | rfl | (simp [errW_none, errW_some] <;> rfl) | (simp [*, errW_none, errW_some] <;> rfl), by repeat (first | (with_reducible first | exact HB.out | apply below_alloc | apply pw_below_drewN | apply below_drew1) | exact HB.out)⟩
 ·replace c3 := Bool.eq_false_iff.mpr c3
  subst c3
  have H1 : ((spec_DrawSlope.f k l0).bind fun bt321 => ((spec_DrawPlaces.f k l0).bind fun t335 => (if 0 < (t335.length : Int) then (if 1 < (t335.length : Int) then ((impl_ColorAt.f bt321.1 bt321.2.1 bt321.2.2.1 bt321.2.2.2.1 bt321.2.2.2.2.1 bt321.2.2.2.2.2.1 bt321.2.2.2.2.2.2.1 bt321.2.2.2.2.2.2.2.1 bt321.2.2.2.2.2.2.2.2.1 bt321.2.2.2.2.2.2.2.2.2.1 bt321.2.2.2.2.2.2.2.2.2.2.1 bt321.2.2.2.2.2.2.2.2.2.2.2.1 bt321.2.2.2.2.2.2.2.2.2.2.2.2 (wrap64 ((Int.tmod (rd t335 0) 14) - 1)) (wrap64 ((Int.tmod (rd t335 1) 14) - 1))).bind fun bt340 => ((impl_PaintOk.f bt321.1 bt321.2.1 bt321.2.2.1 bt321.2.2.2.1 bt321.2.2.2.2.1 bt321.2.2.2.2.2.1 bt321.2.2.2.2.2.2.1 bt321.2.2.2.2.2.2.2.1 bt321.2.2.2.2.2.2.2.2.1 bt321.2.2.2.2.2.2.2.2.2.1 bt321.2.2.2.2.2.2.2.2.2.2.1 bt321.2.2.2.2.2.2.2.2.2.2.2.1 bt321.2.2.2.2.2.2.2.2.2.2.2.2).bind fun t345 => (if t345 = true then (if bt340.1 > bt340.2.2.2 then (laws_FnPaints.j0 k (wrap64 ((Int.tmod (rd t335 0) 14) - 1)) (wrap64 ((Int.tmod (rd t335 1) 14) - 1)) true bt321.1 bt321.2.1 bt321.2.2.1 bt321.2.2.2.1 bt321.2.2.2.2.1 bt321.2.2.2.2.2.1 bt321.2.2.2.2.2.2.1 bt321.2.2.2.2.2.2.2.1 bt321.2.2.2.2.2.2.2.2.1 bt321.2.2.2.2.2.2.2.2.2.1 bt321.2.2.2.2.2.2.2.2.2.2.1 bt321.2.2.2.2.2.2.2.2.2.2.2.1 bt321.2.2.2.2.2.2.2.2.2.2.2.2 bt340.1 bt340.2.1 bt340.2.2.1 bt340.2.2.2) else (if bt340.2.1 > bt340.2.2.2 then (laws_FnPaints.j0 k (wrap64 ((Int.tmod (rd t335 0) 14) - 1)) (wrap64 ((Int.tmod (rd t335 1) 14) - 1)) true bt321.1 bt321.2.1 bt321.2.2.1 bt321.2.2.2.1 bt321.2.2.2.2.1 bt321.2.2.2.2.2.1 bt321.2.2.2.2.2.2.1 bt321.2.2.2.2.2.2.2.1 bt321.2.2.2.2.2.2.2.2.1 bt321.2.2.2.2.2.2.2.2.2.1 bt321.2.2.2.2.2.2.2.2.2.2.1 bt321.2.2.2.2.2.2.2.2.2.2.2.1 bt321.2.2.2.2.2.2.2.2.2.2.2.2 bt340.1 bt340.2.1 bt340.2.2.1 bt340.2.2.2) else (if bt340.2.2.1 > bt340.2.2.2 then (laws_FnPaints.j0 k (wrap64 ((Int.tmod (rd t335 0) 14) - 1)) (wrap64 ((Int.tmod (rd t335 1) 14) - 1)) true bt321.1 bt321.2.1 bt321.2.2.1 bt321.2.2.2.1 bt321.2.2.2.2.1 bt321.2.2.2.2.2.1 bt321.2.2.2.2.2.2.1 bt321.2.2.2.2.2.2.2.1 bt321.2.2.2.2.2.2.2.2.1 bt321.2.2.2.2.2.2.2.2.2.1 bt321.2.2.2.2.2.2.2.2.2.2.1 bt321.2.2.2.2.2.2.2.2.2.2.2.1 bt321.2.2.2.2.2.2.2.2.2.2.2.2 bt340.1 bt340.2.1 bt340.2.2.1 bt340.2.2.2) else ((impl_ColorOk.f bt340.1 bt340.2.1 bt340.2.2.1 bt340.2.2.2).bind fun t346 => (if t346 = true then ((spec_ColorAt.f k bt321.1 bt321.2.1 bt321.2.2.1 bt321.2.2.2.1 bt321.2.2.2.2.1 bt321.2.2.2.2.2.1 bt321.2.2.2.2.2.2.1 bt321.2.2.2.2.2.2.2.1 bt321.2.2.2.2.2.2.2.2.1 bt321.2.2.2.2.2.2.2.2.2.1 bt321.2.2.2.2.2.2.2.2.2.2.1 bt321.2.2.2.2.2.2.2.2.2.2.2.1 bt321.2.2.2.2.2.2.2.2.2.2.2.2 (wrap64 ((Int.tmod (rd t335 0) 14) - 1)) (wrap64 ((Int.tmod (rd t335 1) 14) - 1))).bind fun bt347 => (laws_FnPaints.j0 k (wrap64 ((Int.tmod (rd t335 0) 14) - 1)) (wrap64 ((Int.tmod (rd t335 1) 14) - 1)) (!(bt340.1 == bt347.1) || (!(bt340.2.1 == bt347.2.1) || (!(bt340.2.2.1 == bt347.2.2.1) || (!(bt340.2.2.2 == bt347.2.2.2))))) bt321.1 bt321.2.1 bt321.2.2.1 bt321.2.2.2.1 bt321.2.2.2.2.1 bt321.2.2.2.2.2.1 bt321.2.2.2.2.2.2.1 bt321.2.2.2.2.2.2.2.1 bt321.2.2.2.2.2.2.2.2.1 bt321.2.2.2.2.2.2.2.2.2.1 bt321.2.2.2.2.2.2.2.2.2.2.1 bt321.2.2.2.2.2.2.2.2.2.2.2.1 bt321.2.2.2.2.2.2.2.2.2.2.2.2 bt340.1 bt340.2.1 bt340.2.2.1 bt340.2.2.2)) else (laws_FnPaints.j0 k (wrap64 ((Int.tmod (rd t335 0) 14) - 1)) (wrap64 ((Int.tmod (rd t335 1) 14) - 1)) true bt321.1 bt321.2.1 bt321.2.2.1 bt321.2.2.2.1 bt321.2.2.2.2.1 bt321.2.2.2.2.2.1 bt321.2.2.2.2.2.2.1 bt321.2.2.2.2.2.2.2.1 bt321.2.2.2.2.2.2.2.2.1 bt321.2.2.2.2.2.2.2.2.2.1 bt321.2.2.2.2.2.2.2.2.2.2.1 bt321.2.2.2.2.2.2.2.2.2.2.2.1 bt321.2.2.2.2.2.2.2.2.2.2.2.2 bt340.1 bt340.2.1 bt340.2.2.1 bt340.2.2.2)))))) else (laws_FnPaints.j0 k (wrap64 ((Int.tmod (rd t335 0) 14) - 1)) (wrap64 ((Int.tmod (rd t335 1) 14) - 1)) true bt321.1 bt321.2.1 bt321.2.2.1 bt321.2.2.2.1 bt321.2.2.2.2.1 bt321.2.2.2.2.2.1 bt321.2.2.2.2.2.2.1 bt321.2.2.2.2.2.2.2.1 bt321.2.2.2.2.2.2.2.2.1 bt321.2.2.2.2.2.2.2.2.2.1 bt321.2.2.2.2.2.2.2.2.2.2.1 bt321.2.2.2.2.2.2.2.2.2.2.2.1 bt321.2.2.2.2.2.2.2.2.2.2.2.2 bt340.1 bt340.2.1 bt340.2.2.1 bt340.2.2.2)))) else (none)) else (none)))) = some r := by rw [if_neg (show ¬ (false = true) by decide)] at H; exact H
  clear H; have H := H1; clear H1
  replace H := Option.bind_eq_some_iff.mp H
  obtain ⟨⟨t321, t322, t323, t324, t325, t326, t327, t328, t329, t330, t331, t332, t333⟩, A40, H⟩ := H
  replace H : ((spec_DrawPlaces.f k l0).bind fun t335 => (if 0 < (t335.length : Int) then (if 1 < (t335.length : Int) then ((impl_ColorAt.f t321 t322 t323 t324 t325 t326 t327 t328 t329 t330 t331 t332 t333 (wrap64 ((Int.tmod (rd t335 0) 14) - 1)) (wrap64 ((Int.tmod (rd t335 1) 14) - 1))).bind fun bt340 => ((impl_PaintOk.f t321 t322 t323 t324 t325 t326 t327 t328 t329 t330 t331 t332 t333).bind fun t345 => (if t345 = true then (if bt340.1 > bt340.2.2.2 then (laws_FnPaints.j0 k (wrap64 ((Int.tmod (rd t335 0) 14) - 1)) (wrap64 ((Int.tmod (rd t335 1) 14) - 1)) true t321 t322 t323 t324 t325 t326 t327 t328 t329 t330 t331 t332 t333 bt340.1 bt340.2.1 bt340.2.2.1 bt340.2.2.2) else (if bt340.2.1 > bt340.2.2.2 then (laws_FnPaints.j0 k (wrap64 ((Int.tmod (rd t335 0) 14) - 1)) (wrap64 ((Int.tmod (rd t335 1) 14) - 1)) true t321 t322 t323 t324 t325 t326 t327 t328 t329 t330 t331 t332 t333 bt340.1 bt340.2.1 bt340.2.2.1 bt340.2.2.2) else (if bt340.2.2.1 > bt340.2.2.2 then (laws_FnPaints.j0 k (wrap64 ((Int.tmod (rd t335 0) 14) - 1)) (wrap64 ((Int.tmod (rd t335 1) 14) - 1)) true t321 t322 t323 t324 t325 t326 t327 t328 t329 t330 t331 t332 t333 bt340.1 bt340.2.1 bt340.2.2.1 bt340.2.2.2) else ((impl_ColorOk.f bt340.1 bt340.2.1 bt340.2.2.1 bt340.2.2.2).bind fun t346 => (if t346 = true then ((spec_ColorAt.f k t321 t322 t323 t324 t325 t326 t327 t328 t329 t330 t331 t332 t333 (wrap64 ((Int.tmod (rd t335 0) 14) - 1)) (wrap64 ((Int.tmod (rd t335 1) 14) - 1))).bind fun bt347 => (laws_FnPaints.j0 k (wrap64 ((Int.tmod (rd t335 0) 14) - 1)) (wrap64 ((Int.tmod (rd t335 1) 14) - 1)) (!(bt340.1 == bt347.1) || (!(bt340.2.1 == bt347.2.1) || (!(bt340.2.2.1 == bt347.2.2.1) || (!(bt340.2.2.2 == bt347.2.2.2))))) t321 t322 t323 t324 t325 t326 t327 t328 t329 t330 t331 t332 t333 bt340.1 bt340.2.1 bt340.2.2.1 bt340.2.2.2)) else (laws_FnPaints.j0 k (wrap64 ((Int.tmod (rd t335 0) 14) - 1)) (wrap64 ((Int.tmod (rd t335 1) 14) - 1)) true t321 t322 t323 t324 t325 t326 t327 t328 t329 t330 t331 t332 t333 bt340.1 bt340.2.1 bt340.2.2.1 bt340.2.2.2)))))) else (laws_FnPaints.j0 k (wrap64 ((Int.tmod (rd t335 0) 14) - 1)) (wrap64 ((Int.tmod (rd t335 1) 14) - 1)) true t321 t322 t323 t324 t325 t326 t327 t328 t329 t330 t331 t332 t333 bt340.1 bt340.2.1 bt340.2.2.1 bt340.2.2.2)))) else (none)) else (none))) = some r := H
  have A4 := Aside0.mk A40
  clear A40
  replace H := Option.bind_eq_some_iff.mp H
  obtain ⟨t335, A50, H⟩ := H
  replace H : (if 0 < (t335.length : Int) then (if 1 < (t335.length : Int) then ((impl_ColorAt.f t321 t322 t323 t324 t325 t326 t327 t328 t329 t330 t331 t332 t333 (wrap64 ((Int.tmod (rd t335 0) 14) - 1)) (wrap64 ((Int.tmod (rd t335 1) 14) - 1))).bind fun bt340 => ((impl_PaintOk.f t321 t322 t323 t324 t325 t326 t327 t328 t329 t330 t331 t332 t333).bind fun t345 => (if t345 = true then (if bt340.1 > bt340.2.2.2 then (laws_FnPaints.j0 k (wrap64 ((Int.tmod (rd t335 0) 14) - 1)) (wrap64 ((Int.tmod (rd t335 1) 14) - 1)) true t321 t322 t323 t324 t325 t326 t327 t328 t329 t330 t331 t332 t333 bt340.1 bt340.2.1 bt340.2.2.1 bt340.2.2.2) else (if bt340.2.1 > bt340.2.2.2 then (laws_FnPaints.j0 k (wrap64 ((Int.tmod (rd t335 0) 14) - 1)) (wrap64 ((Int.tmod (rd t335 1) 14) - 1)) true t321 t322 t323 t324 t325 t326 t327 t328 t329 t330 t331 t332 t333 bt340.1 bt340.2.1 bt340.2.2.1 bt340.2.2.2) else (if bt340.2.2.1 > bt340.2.2.2 then (laws_FnPaints.j0 k (wrap64 ((Int.tmod (rd t335 0) 14) - 1)) (wrap64 ((Int.tmod (rd t335 1) 14) - 1)) true t321 t322 t323 t324 t325 t326 t327 t328 t329 t330 t331 t332 t333 bt340.1 bt340.2.1 bt340.2.2.1 bt340.2.2.2) else ((impl_ColorOk.f bt340.1 bt340.2.1 bt340.2.2.1 bt340.2.2.2).bind fun t346 => (if t346 = true then ((spec_ColorAt.f k t321 t322 t323 t324 t325 t326 t327 t328 t329 t330 t331 t332 t333 (wrap64 ((Int.tmod (rd t335 0) 14) - 1)) (wrap64 ((Int.tmod (rd t335 1) 14) - 1))).bind fun bt347 => (laws_FnPaints.j0 k (wrap64 ((Int.tmod (rd t335 0) 14) - 1)) (wrap64 ((Int.tmod (rd t335 1) 14) - 1)) (!(bt340.1 == bt347.1) || (!(bt340.2.1 == bt347.2.1) || (!(bt340.2.2.1 == bt347.2.2.1) || (!(bt340.2.2.2 == bt347.2.2.2))))) t321 t322 t323 t324 t325 t326 t327 t328 t329 t330 t331 t332 t333 bt340.1 bt340.2.1 bt340.2.2.1 bt340.2.2.2)) else (laws_FnPaints.j0 k (wrap64 ((Int.tmod (rd t335 0) 14) - 1)) (wrap64 ((Int.tmod (rd t335 1) 14) - 1)) true t321 t322 t323 t324 t325 t326 t327 t328 t329 t330 t331 t332 t333 bt340.1 bt340.2.1 bt340.2.2.1 bt340.2.2.2)))))) else (laws_FnPaints.j0 k (wrap64 ((Int.tmod (rd t335 0) 14) - 1)) (wrap64 ((Int.tmod (rd t335 1) 14) - 1)) true t321 t322 t323 t324 t325 t326 t327 t328 t329 t330 t331 t332 t333 bt340.1 bt340.2.1 bt340.2.2.1 bt340.2.2.2)))) else (none)) else (none)) = some r := H
  have A5 := Aside0.mk A50
  clear A50
  by_cases c6 : 0 < (t335.length : Int)
  ·rw [if_pos c6] at H
   have c6b0 : decide (0 < (t335.length : Int)) = true := decide_eq_true c6
   have c6b1 : decide (0 < t335.length) = true := decide_eq_true (by omega)
   clear c6
   by_cases c7 : 1 < (t335.length : Int)
   ·rw [if_pos c7] at H
    have c7b0 : decide (1 < (t335.length : Int)) = true := decide_eq_true c7
    have c7b1 : decide (1 < t335.length) = true := decide_eq_true (by omega)
    clear c7
    replace H := Option.bind_eq_some_iff.mp H
    obtain ⟨⟨t340, t341, t342, t343⟩, A80, H⟩ := H
    replace H : ((impl_PaintOk.f t321 t322 t323 t324 t325 t326 t327 t328 t329 t330 t331 t332 t333).bind fun t345 => (if t345 = true then (if t340 > t343 then (laws_FnPaints.j0 k (wrap64 ((Int.tmod (rd t335 0) 14) - 1)) (wrap64 ((Int.tmod (rd t335 1) 14) - 1)) true t321 t322 t323 t324 t325 t326 t327 t328 t329 t330 t331 t332 t333 t340 t341 t342 t343) else (if t341 > t343 then (laws_FnPaints.j0 k (wrap64 ((Int.tmod (rd t335 0) 14) - 1)) (wrap64 ((Int.tmod (rd t335 1) 14) - 1)) true t321 t322 t323 t324 t325 t326 t327 t328 t329 t330 t331 t332 t333 t340 t341 t342 t343) else (if t342 > t343 then (laws_FnPaints.j0 k (wrap64 ((Int.tmod (rd t335 0) 14) - 1)) (wrap64 ((Int.tmod (rd t335 1) 14) - 1)) true t321 t322 t323 t324 t325 t326 t327 t328 t329 t330 t331 t332 t333 t340 t341 t342 t343) else ((impl_ColorOk.f t340 t341 t342 t343).bind fun t346 => (if t346 = true then ((spec_ColorAt.f k t321 t322 t323 t324 t325 t326 t327 t328 t329 t330 t331 t332 t333 (wrap64 ((Int.tmod (rd t335 0) 14) - 1)) (wrap64 ((Int.tmod (rd t335 1) 14) - 1))).bind fun bt347 => (laws_FnPaints.j0 k (wrap64 ((Int.tmod (rd t335 0) 14) - 1)) (wrap64 ((Int.tmod (rd t335 1) 14) - 1)) (!(t340 == bt347.1) || (!(t341 == bt347.2.1) || (!(t342 == bt347.2.2.1) || (!(t343 == bt347.2.2.2))))) t321 t322 t323 t324 t325 t326 t327 t328 t329 t330 t331 t332 t333 t340 t341 t342 t343)) else (laws_FnPaints.j0 k (wrap64 ((Int.tmod (rd t335 0) 14) - 1)) (wrap64 ((Int.tmod (rd t335 1) 14) - 1)) true t321 t322 t323 t324 t325 t326 t327 t328 t329 t330 t331 t332 t333 t340 t341 t342 t343)))))) else (laws_FnPaints.j0 k (wrap64 ((Int.tmod (rd t335 0) 14) - 1)) (wrap64 ((Int.tmod (rd t335 1) 14) - 1)) true t321 t322 t323 t324 t325 t326 t327 t328 t329 t330 t331 t332 t333 t340 t341 t342 t343))) = some r := H
    have A8 := Aside0.mk A80
    clear A80
    have HC9 := Aside0.mk H
    clear H
    go_enter Try.func13, Try.ntmps13
    go_upto_region 8 with (first | ((with_reducible refine gate_callee (f := 38) rfl ?_); refine goesL_ (some 12) rfl rfl Try.func38 (by kernel_rfl) rfl #[.slice A0 l0.length c0] rfl z9_41 ?_; (with_reducible refine (laws_big.calls _ _ l0 false _ ?side1 ?side2 A2.out).mono ?_); (case side1 => repeat (first | exact HR0.out | (with_reducible refine Kd.C_alloc ?_ _) | (with_reducible refine Kd.C_drewN ?_ _) | (with_reducible refine Kd.C_drew ?_))); (case side2 => exact HC0.out); rintro e w' ⟨rfl, ⟨nd, rfl⟩⟩; refine ⟨_, rfl, ?_⟩) | ((with_reducible refine gate_callee (f := 58) rfl ?_); refine goesL_ (some 14) rfl rfl Try.func58 (by kernel_rfl) rfl #[.slice A0 l0.length c0] rfl z9_41 ?_; (with_reducible refine (spec_DrawSlope.calls k _ _ l0 t321 t322 t323 t324 t325 t326 t327 t328 t329 t330 t331 t332 t333 _ ?side1 ?side2 A4.out).mono ?_); (case side1 => repeat (first | exact HR0.out | (with_reducible refine Kd.C_alloc ?_ _) | (with_reducible refine Kd.C_drewN ?_ _) | (with_reducible refine Kd.C_drew ?_))); (case side2 => exact HC0.out); rintro e w10 ⟨rfl, hb⟩; refine ⟨_, rfl, ?_⟩; have n0_ := Aside0.mk (below_step z9_49 hb); clear HB; have HB := n0_; clear n0_; (try clear hb); (try clear hb2); (try clear hk); (try clear hi)) | ((with_reducible refine gate_dst (N := 3) rfl ?_); refine box_event ?hg (N := 3) ?hd (cs := #[.int .i64 0, .int .i64 0, .int .i64 0, .int .i64 0, .int .i64 0, .int .i64 0, .int .i64 0, .int .i64 0, .int .i64 0, .int .i64 0, .int .i64 0, .int .i64 0, .int .i64 0]) (t := 44) ?hr ?_; (case hd => rfl); (case hg => rfl); (case hr => first | (go_simp; done) | (go_simp; rfl)); intro gb334 hg w11 hbox hb; have n0_ := Aside0.mk (below_step z9_49 hb); have n1_ := Aside0.mk (hbox); have n2_ := Aside0.mk ((by rw [hg]; exact (below_size z9_49) : w.heap.size ≤ gb334)); have n3_ := Aside0.mk ((by rw [hg]; exact (below_size z9_49) : w.heap.size ≤ gb334)); clear HB; have HB := n0_; have BK334 := n1_; have GW334 := n2_; have GE334 := n3_; clear n0_ n1_ n2_ n3_; clear hb hbox hg; have hcz12_0 : w11.cell? ⟨gb334, 0, none⟩ = some (.int .i64 0) := (blk_cell BK334.out 0).trans rfl; have hcz12_1 : w11.cell? ⟨gb334, 1, none⟩ = some (.int .i64 0) := (blk_cell BK334.out 1).trans rfl; have hcz12_2 : w11.cell? ⟨gb334, 2, none⟩ = some (.int .i64 0) := (blk_cell BK334.out 2).trans rfl; have hcz12_3 : w11.cell? ⟨gb334, 3, none⟩ = some (.int .i64 0) := (blk_cell BK334.out 3).trans rfl; have hcz12_4 : w11.cell? ⟨gb334, 4, none⟩ = some (.int .i64 0) := (blk_cell BK334.out 4).trans rfl; have hcz12_5 : w11.cell? ⟨gb334, 5, none⟩ = some (.int .i64 0) := (blk_cell BK334.out 5).trans rfl; have hcz12_6 : w11.cell? ⟨gb334, 6, none⟩ = some (.int .i64 0) := (blk_cell BK334.out 6).trans rfl; have hcz12_7 : w11.cell? ⟨gb334, 7, none⟩ = some (.int .i64 0) := (blk_cell BK334.out 7).trans rfl; have hcz12_8 : w11.cell? ⟨gb334, 8, none⟩ = some (.int .i64 0) := (blk_cell BK334.out 8).trans rfl; have hcz12_9 : w11.cell? ⟨gb334, 9, none⟩ = some (.int .i64 0) := (blk_cell BK334.out 9).trans rfl; have hcz12_10 : w11.cell? ⟨gb334, 10, none⟩ = some (.int .i64 0) := (blk_cell BK334.out 10).trans rfl; have hcz12_11 : w11.cell? ⟨gb334, 11, none⟩ = some (.int .i64 0) := (blk_cell BK334.out 11).trans rfl; have hcz12_12 : w11.cell? ⟨gb334, 12, none⟩ = some (.int .i64 0) := (blk_cell BK334.out 12).trans rfl; have hfz12_0 := blk_frozen BK334.out 0; have hfz12_1 := blk_frozen BK334.out 1; have hfz12_2 := blk_frozen BK334.out 2; have hfz12_3 := blk_frozen BK334.out 3; have hfz12_4 := blk_frozen BK334.out 4; have hfz12_5 := blk_frozen BK334.out 5; have hfz12_6 := blk_frozen BK334.out 6; have hfz12_7 := blk_frozen BK334.out 7; have hfz12_8 := blk_frozen BK334.out 8; have hfz12_9 := blk_frozen BK334.out 9; have hfz12_10 := blk_frozen BK334.out 10; have hfz12_11 := blk_frozen BK334.out 11; have hfz12_12 := blk_frozen BK334.out 12) | ((with_reducible refine gate_callee (f := 40) rfl ?_); refine goesL_ (some 16) rfl rfl Try.func40 (by kernel_rfl) rfl #[.slice A0 l0.length c0] rfl z9_41 ?_; (with_reducible refine (spec_DrawPlaces.calls k _ _ l0 t335 _ ?side1 ?side2 A5.out).mono ?_); (case side1 => exact Kd.C_below HR0.out z9_47); (case side2 => exact HC0.out); rintro e w13 ⟨v336, rfl, ho0, hb⟩; refine ⟨_, rfl, ?_⟩; have n0_ := Aside0.mk (Kd.R_lower ho0 (below_size z9_47)); have n1_ := Aside0.mk (blk_below (g := gb334) (o := .cells #[.int .i64 t321, .int .i64 t322, .int .i64 t323, .int .i64 t324, .int .i64 t325, .int .i64 t326, .int .i64 t327, .int .i64 t328, .int .i64 t329, .int .i64 t330, .int .i64 t331, .int .i64 t332, .int .i64 t333] 44 (0, 0)) (by (with_reducible repeat (first | refine blk_drewN ?_ _ | refine blk_drew ?_ | refine blk_alloc ?_ _)); refine blk_put (cs := #[.int .i64 t321, .int .i64 t322, .int .i64 t323, .int .i64 t324, .int .i64 t325, .int .i64 t326, .int .i64 t327, .int .i64 t328, .int .i64 t329, .int .i64 t330, .int .i64 t331, .int .i64 t332, .int .i64 0]) ?_ 12 _ rfl; (with_reducible repeat (first | refine blk_drewN ?_ _ | refine blk_drew ?_ | refine blk_alloc ?_ _)); refine blk_put (cs := #[.int .i64 t321, .int .i64 t322, .int .i64 t323, .int .i64 t324, .int .i64 t325, .int .i64 t326, .int .i64 t327, .int .i64 t328, .int .i64 t329, .int .i64 t330, .int .i64 t331, .int .i64 0, .int .i64 0]) ?_ 11 _ rfl; (with_reducible repeat (first | refine blk_drewN ?_ _ | refine blk_drew ?_ | refine blk_alloc ?_ _)); refine blk_put (cs := #[.int .i64 t321, .int .i64 t322, .int .i64 t323, .int .i64 t324, .int .i64 t325, .int .i64 t326, .int .i64 t327, .int .i64 t328, .int .i64 t329, .int .i64 t330, .int .i64 0, .int .i64 0, .int .i64 0]) ?_ 10 _ rfl; (with_reducible repeat (first | refine blk_drewN ?_ _ | refine blk_drew ?_ | refine blk_alloc ?_ _)); refine blk_put (cs := #[.int .i64 t321, .int .i64 t322, .int .i64 t323, .int .i64 t324, .int .i64 t325, .int .i64 t326, .int .i64 t327, .int .i64 t328, .int .i64 t329, .int .i64 0, .int .i64 0, .int .i64 0, .int .i64 0]) ?_ 9 _ rfl; (with_reducible repeat (first | refine blk_drewN ?_ _ | refine blk_drew ?_ | refine blk_alloc ?_ _)); refine blk_put (cs := #[.int .i64 t321, .int .i64 t322, .int .i64 t323, .int .i64 t324, .int .i64 t325, .int .i64 t326, .int .i64 t327, .int .i64 t328, .int .i64 0, .int .i64 0, .int .i64 0, .int .i64 0, .int .i64 0]) ?_ 8 _ rfl; (with_reducible repeat (first | refine blk_drewN ?_ _ | refine blk_drew ?_ | refine blk_alloc ?_ _)); refine blk_put (cs := #[.int .i64 t321, .int .i64 t322, .int .i64 t323, .int .i64 t324, .int .i64 t325, .int .i64 t326, .int .i64 t327, .int .i64 0, .int .i64 0, .int .i64 0, .int .i64 0, .int .i64 0, .int .i64 0]) ?_ 7 _ rfl; (with_reducible repeat (first | refine blk_drewN ?_ _ | refine blk_drew ?_ | refine blk_alloc ?_ _)); refine blk_put (cs := #[.int .i64 t321, .int .i64 t322, .int .i64 t323, .int .i64 t324, .int .i64 t325, .int .i64 t326, .int .i64 0, .int .i64 0, .int .i64 0, .int .i64 0, .int .i64 0, .int .i64 0, .int .i64 0]) ?_ 6 _ rfl; (with_reducible repeat (first | refine blk_drewN ?_ _ | refine blk_drew ?_ | refine blk_alloc ?_ _)); refine blk_put (cs := #[.int .i64 t321, .int .i64 t322, .int .i64 t323, .int .i64 t324, .int .i64 t325, .int .i64 0, .int .i64 0, .int .i64 0, .int .i64 0, .int .i64 0, .int .i64 0, .int .i64 0, .int .i64 0]) ?_ 5 _ rfl; (with_reducible repeat (first | refine blk_drewN ?_ _ | refine blk_drew ?_ | refine blk_alloc ?_ _)); refine blk_put (cs := #[.int .i64 t321, .int .i64 t322, .int .i64 t323, .int .i64 t324, .int .i64 0, .int .i64 0, .int .i64 0, .int .i64 0, .int .i64 0, .int .i64 0, .int .i64 0, .int .i64 0, .int .i64 0]) ?_ 4 _ rfl; (with_reducible repeat (first | refine blk_drewN ?_ _ | refine blk_drew ?_ | refine blk_alloc ?_ _)); refine blk_put (cs := #[.int .i64 t321, .int .i64 t322, .int .i64 t323, .int .i64 0, .int .i64 0, .int .i64 0, .int .i64 0, .int .i64 0, .int .i64 0, .int .i64 0, .int .i64 0, .int .i64 0, .int .i64 0]) ?_ 3 _ rfl; (with_reducible repeat (first | refine blk_drewN ?_ _ | refine blk_drew ?_ | refine blk_alloc ?_ _)); refine blk_put (cs := #[.int .i64 t321, .int .i64 t322, .int .i64 0, .int .i64 0, .int .i64 0, .int .i64 0, .int .i64 0, .int .i64 0, .int .i64 0, .int .i64 0, .int .i64 0, .int .i64 0, .int .i64 0]) ?_ 2 _ rfl; (with_reducible repeat (first | refine blk_drewN ?_ _ | refine blk_drew ?_ | refine blk_alloc ?_ _)); refine blk_put (cs := #[.int .i64 t321, .int .i64 0, .int .i64 0, .int .i64 0, .int .i64 0, .int .i64 0, .int .i64 0, .int .i64 0, .int .i64 0, .int .i64 0, .int .i64 0, .int .i64 0, .int .i64 0]) ?_ 1 _ rfl; (with_reducible repeat (first | refine blk_drewN ?_ _ | refine blk_drew ?_ | refine blk_alloc ?_ _)); refine blk_put (cs := #[.int .i64 0, .int .i64 0, .int .i64 0, .int .i64 0, .int .i64 0, .int .i64 0, .int .i64 0, .int .i64 0, .int .i64 0, .int .i64 0, .int .i64 0, .int .i64 0, .int .i64 0]) ?_ 0 _ rfl; (with_reducible repeat (first | refine blk_drewN ?_ _ | refine blk_drew ?_ | refine blk_alloc ?_ _)); exact BK334.out) hb); have n2_ := Aside0.mk (below_step z9_47 hb); clear BK334; clear HB; have HO337 := n0_; have BK334 := n1_; have HB := n2_; clear n0_ n1_ n2_; (try clear hb); (try clear hb2); (try clear hk); (try clear hi); (try clear ho0); obtain ⟨Ao14, co14, eo14⟩ := Kd.R_slice HO337.out; subst eo14; have p338 : 0 ≤ (0 : Int) := (by omega); have q338 : 0 < (t335.length : Int) := of_decide_eq_true (by first | (with_reducible assumption) | assumption); obtain ⟨ad338, e338, hx338_0⟩ := Kd.at_int (Kd.R_reads' HO337.out).2.2 0 p338 q338; cases e338; have qi338 : (0 < t335.length) = True := eq_true (by omega); (try rw [show ((0 : Int)).toNat = 0 from rfl] at hx338_0); (try rw [Addr.add_zero'] at hx338_0); replace p338 := eq_true p338; replace q338 := eq_true q338; have p339 : 0 ≤ (1 : Int) := (by omega); have q339 : 1 < (t335.length : Int) := of_decide_eq_true (by first | (with_reducible assumption) | assumption); obtain ⟨ad339, e339, hx339_0⟩ := Kd.at_int (Kd.R_reads' HO337.out).2.2 1 p339 q339; obtain rfl : ad338 = ad339 := (by injection e339); (try simp only [show (1 : Int).toNat = 1 from rfl, Nat.reduceMul, Nat.reduceEqDiff, Go.Addr.add, ↓reduceIte] at hx339_0); have qi339 : (1 < t335.length) = True := eq_true (by omega); (try rw [show ((1 : Int)).toNat = 1 from rfl] at hx339_0); replace p339 := eq_true p339; replace q339 := eq_true q339; have hcz15_0 : w13.cell? ⟨gb334, 0, none⟩ = some (.int .i64 t321) := (blk_cell BK334.out 0).trans rfl; have hcz15_1 : w13.cell? ⟨gb334, 1, none⟩ = some (.int .i64 t322) := (blk_cell BK334.out 1).trans rfl; have hcz15_2 : w13.cell? ⟨gb334, 2, none⟩ = some (.int .i64 t323) := (blk_cell BK334.out 2).trans rfl; have hcz15_3 : w13.cell? ⟨gb334, 3, none⟩ = some (.int .i64 t324) := (blk_cell BK334.out 3).trans rfl; have hcz15_4 : w13.cell? ⟨gb334, 4, none⟩ = some (.int .i64 t325) := (blk_cell BK334.out 4).trans rfl; have hcz15_5 : w13.cell? ⟨gb334, 5, none⟩ = some (.int .i64 t326) := (blk_cell BK334.out 5).trans rfl; have hcz15_6 : w13.cell? ⟨gb334, 6, none⟩ = some (.int .i64 t327) := (blk_cell BK334.out 6).trans rfl; have hcz15_7 : w13.cell? ⟨gb334, 7, none⟩ = some (.int .i64 t328) := (blk_cell BK334.out 7).trans rfl; have hcz15_8 : w13.cell? ⟨gb334, 8, none⟩ = some (.int .i64 t329) := (blk_cell BK334.out 8).trans rfl; have hcz15_9 : w13.cell? ⟨gb334, 9, none⟩ = some (.int .i64 t330) := (blk_cell BK334.out 9).trans rfl; have hcz15_10 : w13.cell? ⟨gb334, 10, none⟩ = some (.int .i64 t331) := (blk_cell BK334.out 10).trans rfl; have hcz15_11 : w13.cell? ⟨gb334, 11, none⟩ = some (.int .i64 t332) := (blk_cell BK334.out 11).trans rfl; have hcz15_12 : w13.cell? ⟨gb334, 12, none⟩ = some (.int .i64 t333) := (blk_cell BK334.out 12).trans rfl; have hfz15_0 := blk_frozen BK334.out 0; have hfz15_1 := blk_frozen BK334.out 1; have hfz15_2 := blk_frozen BK334.out 2; have hfz15_3 := blk_frozen BK334.out 3; have hfz15_4 := blk_frozen BK334.out 4; have hfz15_5 := blk_frozen BK334.out 5; have hfz15_6 := blk_frozen BK334.out 6; have hfz15_7 := blk_frozen BK334.out 7; have hfz15_8 := blk_frozen BK334.out 8; have hfz15_9 := blk_frozen BK334.out 9; have hfz15_10 := blk_frozen BK334.out 10; have hfz15_11 := blk_frozen BK334.out 11; have hfz15_12 := blk_frozen BK334.out 12) | ((with_reducible refine gate_callee (f := 53) rfl ?_); refine goesL_ (some 30) rfl rfl Try.func53 (by kernel_rfl) rfl #[.agg #[.int .i64 t321, .int .i64 t322, .int .i64 t323, .int .i64 t324, .int .i64 t325, .int .i64 t326, .int .i64 t327, .int .i64 t328, .int .i64 t329, .int .i64 t330, .int .i64 t331, .int .i64 t332, .int .i64 t333], .int .i64 (wrap64 ((Int.tmod (rd t335 0) 14) - 1)), .int .i64 (wrap64 ((Int.tmod (rd t335 1) 14) - 1))] rfl z9_41 ?_; (with_reducible refine (impl_ColorAt.calls t321 t322 t323 t324 t325 t326 t327 t328 t329 t330 t331 t332 t333 (wrap64 ((Int.tmod (rd t335 0) 14) - 1)) (wrap64 ((Int.tmod (rd t335 1) 14) - 1)) t340 t341 t342 t343 _ A8.out).mono ?_); rintro e w16 ⟨rfl, hb⟩; refine ⟨_, rfl, ?_⟩; have n0_ := Aside0.mk (Kd.R_below z9_46 hb); have n1_ := Aside0.mk (blk_below (g := gb334) (o := .cells #[.int .i64 t321, .int .i64 t322, .int .i64 t323, .int .i64 t324, .int .i64 t325, .int .i64 t326, .int .i64 t327, .int .i64 t328, .int .i64 t329, .int .i64 t330, .int .i64 t331, .int .i64 t332, .int .i64 t333] 44 (0, 0)) z9_42 hb); have n2_ := Aside0.mk (below_step z9_47 hb); clear HO337; clear BK334; clear HB; have HO337 := n0_; have BK334 := n1_; have HB := n2_; clear n0_ n1_ n2_; (try clear hb); (try clear hb2); (try clear hk); (try clear hi)) | ((with_reducible refine gate_dst (N := 7) rfl ?_); refine box_event ?hg (N := 7) ?hd (cs := #[.int .i64 0, .int .i64 0, .int .i64 0, .int .i64 0]) (t := 27) ?hr ?_; (case hd => rfl); (case hg => rfl); (case hr => first | (go_simp; done) | (go_simp; rfl)); intro gb344 hg w17 hbox hb; have n0_ := Aside0.mk (Kd.R_below z9_46 hb); have n1_ := Aside0.mk (blk_below (g := gb334) (o := .cells #[.int .i64 t321, .int .i64 t322, .int .i64 t323, .int .i64 t324, .int .i64 t325, .int .i64 t326, .int .i64 t327, .int .i64 t328, .int .i64 t329, .int .i64 t330, .int .i64 t331, .int .i64 t332, .int .i64 t333] 44 (0, 0)) z9_42 hb); have n2_ := Aside0.mk (below_step z9_47 hb); have n3_ := Aside0.mk (hbox); have n4_ := Aside0.mk ((by rw [hg]; exact (below_size z9_47) : w.heap.size ≤ gb344)); have n5_ := Aside0.mk ((by rw [hg]; exact (below_size z9_47) : w.heap.size ≤ gb344)); have n6_ := Aside0.mk ((by rw [hg]; exact Nat.ne_of_lt (blk_lt (g := gb334) (o := .cells #[.int .i64 t321, .int .i64 t322, .int .i64 t323, .int .i64 t324, .int .i64 t325, .int .i64 t326, .int .i64 t327, .int .i64 t328, .int .i64 t329, .int .i64 t330, .int .i64 t331, .int .i64 t332, .int .i64 t333] 44 (0, 0)) z9_42) : gb334 ≠ gb344)); have n7_ := Aside0.mk ((by rw [hg]; exact Nat.ne_of_gt (blk_lt (g := gb334) (o := .cells #[.int .i64 t321, .int .i64 t322, .int .i64 t323, .int .i64 t324, .int .i64 t325, .int .i64 t326, .int .i64 t327, .int .i64 t328, .int .i64 t329, .int .i64 t330, .int .i64 t331, .int .i64 t332, .int .i64 t333] 44 (0, 0)) z9_42) : gb344 ≠ gb334)); clear HO337; clear BK334; clear HB; have HO337 := n0_; have BK334 := n1_; have HB := n2_; have BK344 := n3_; have GW344 := n4_; have GE344 := n5_; have NB334_344 := n6_; have NB344_334 := n7_; clear n0_ n1_ n2_ n3_ n4_ n5_ n6_ n7_; clear hb hbox hg; have hnb18 := NB344_334.out; have hnc18 := NB334_344.out; have hcz19_0 : w17.cell? ⟨gb344, 0, none⟩ = some (.int .i64 0) := (blk_cell BK344.out 0).trans rfl; have hcz19_1 : w17.cell? ⟨gb344, 1, none⟩ = some (.int .i64 0) := (blk_cell BK344.out 1).trans rfl; have hcz19_2 : w17.cell? ⟨gb344, 2, none⟩ = some (.int .i64 0) := (blk_cell BK344.out 2).trans rfl; have hcz19_3 : w17.cell? ⟨gb344, 3, none⟩ = some (.int .i64 0) := (blk_cell BK344.out 3).trans rfl; have hfz19_0 := blk_frozen BK344.out 0; have hfz19_1 := blk_frozen BK344.out 1; have hfz19_2 := blk_frozen BK344.out 2; have hfz19_3 := blk_frozen BK344.out 3))
    (try simp only [Act.put, List.setIfInBounds_toArray, List.set_cons_zero, List.set_cons_succ])
    go_cut [67] (fun v67 wc => ∃ (kq : Nat) (x67_8 : Bool), v67 = .bool x67_8 ∧ Aside0 (laws_FnPaints.j0 kq (wrap64 ((Int.tmod (rd t335 0) 14) - 1)) (wrap64 ((Int.tmod (rd t335 1) 14) - 1)) x67_8 t321 t322 t323 t324 t325 t326 t327 t328 t329 t330 t331 t332 t333 t340 t341 t342 t343 = some r) ∧ Aside0 (kq ≤ k) ∧ Aside0 (wc.heap[gb334]? = some (.cells #[.int .i64 t321, .int .i64 t322, .int .i64 t323, .int .i64 t324, .int .i64 t325, .int .i64 t326, .int .i64 t327, .int .i64 t328, .int .i64 t329, .int .i64 t330, .int .i64 t331, .int .i64 t332, .int .i64 t333] 44 (0, 0))) ∧ Aside0 (wc.heap[gb344]? = some (.cells #[.int .i64 t340, .int .i64 t341, .int .i64 t342, .int .i64 t343] 27 (0, 0))) ∧ Aside0 (Below w.heap.size w wc))
    case first =>
     have H := HC9.out; clear HC9
     replace H := Option.bind_eq_some_iff.mp H
     obtain ⟨t345, A200, H⟩ := H
     replace H : (if t345 = true then (if t340 > t343 then (laws_FnPaints.j0 k (wrap64 ((Int.tmod (rd t335 0) 14) - 1)) (wrap64 ((Int.tmod (rd t335 1) 14) - 1)) true t321 t322 t323 t324 t325 t326 t327 t328 t329 t330 t331 t332 t333 t340 t341 t342 t343) else (if t341 > t343 then (laws_FnPaints.j0 k (wrap64 ((Int.tmod (rd t335 0) 14) - 1)) (wrap64 ((Int.tmod (rd t335 1) 14) - 1)) true t321 t322 t323 t324 t325 t326 t327 t328 t329 t330 t331 t332 t333 t340 t341 t342 t343) else (if t342 > t343 then (laws_FnPaints.j0 k (wrap64 ((Int.tmod (rd t335 0) 14) - 1)) (wrap64 ((Int.tmod (rd t335 1) 14) - 1)) true t321 t322 t323 t324 t325 t326 t327 t328 t329 t330 t331 t332 t333 t340 t341 t342 t343) else ((impl_ColorOk.f t340 t341 t342 t343).bind fun t346 => (if t346 = true then ((spec_ColorAt.f k t321 t322 t323 t324 t325 t326 t327 t328 t329 t330 t331 t332 t333 (wrap64 ((Int.tmod (rd t335 0) 14) - 1)) (wrap64 ((Int.tmod (rd t335 1) 14) - 1))).bind fun bt347 => (laws_FnPaints.j0 k (wrap64 ((Int.tmod (rd t335 0) 14) - 1)) (wrap64 ((Int.tmod (rd t335 1) 14) - 1)) (!(t340 == bt347.1) || (!(t341 == bt347.2.1) || (!(t342 == bt347.2.2.1) || (!(t343 == bt347.2.2.2))))) t321 t322 t323 t324 t325 t326 t327 t328 t329 t330 t331 t332 t333 t340 t341 t342 t343)) else (laws_FnPaints.j0 k (wrap64 ((Int.tmod (rd t335 0) 14) - 1)) (wrap64 ((Int.tmod (rd t335 1) 14) - 1)) true t321 t322 t323 t324 t325 t326 t327 t328 t329 t330 t331 t332 t333 t340 t341 t342 t343)))))) else (laws_FnPaints.j0 k (wrap64 ((Int.tmod (rd t335 0) 14) - 1)) (wrap64 ((Int.tmod (rd t335 1) 14) - 1)) true t321 t322 t323 t324 t325 t326 t327 t328 t329 t330 t331 t332 t333 t340 t341 t342 t343)) = some r := H
     have A20 := Aside0.mk A200
     clear A200
     by_cases c21 : t345 = true
     ·subst c21
      have H1 : (if t340 > t343 then (laws_FnPaints.j0 k (wrap64 ((Int.tmod (rd t335 0) 14) - 1)) (wrap64 ((Int.tmod (rd t335 1) 14) - 1)) true t321 t322 t323 t324 t325 t326 t327 t328 t329 t330 t331 t332 t333 t340 t341 t342 t343) else (if t341 > t343 then (laws_FnPaints.j0 k (wrap64 ((Int.tmod (rd t335 0) 14) - 1)) (wrap64 ((Int.tmod (rd t335 1) 14) - 1)) true t321 t322 t323 t324 t325 t326 t327 t328 t329 t330 t331 t332 t333 t340 t341 t342 t343) else (if t342 > t343 then (laws_FnPaints.j0 k (wrap64 ((Int.tmod (rd t335 0) 14) - 1)) (wrap64 ((Int.tmod (rd t335 1) 14) - 1)) true t321 t322 t323 t324 t325 t326 t327 t328 t329 t330 t331 t332 t333 t340 t341 t342 t343) else ((impl_ColorOk.f t340 t341 t342 t343).bind fun t346 => (if t346 = true then ((spec_ColorAt.f k t321 t322 t323 t324 t325 t326 t327 t328 t329 t330 t331 t332 t333 (wrap64 ((Int.tmod (rd t335 0) 14) - 1)) (wrap64 ((Int.tmod (rd t335 1) 14) - 1))).bind fun bt347 => (laws_FnPaints.j0 k (wrap64 ((Int.tmod (rd t335 0) 14) - 1)) (wrap64 ((Int.tmod (rd t335 1) 14) - 1)) (!(t340 == bt347.1) || (!(t341 == bt347.2.1) || (!(t342 == bt347.2.2.1) || (!(t343 == bt347.2.2.2))))) t321 t322 t323 t324 t325 t326 t327 t328 t329 t330 t331 t332 t333 t340 t341 t342 t343)) else (laws_FnPaints.j0 k (wrap64 ((Int.tmod (rd t335 0) 14) - 1)) (wrap64 ((Int.tmod (rd t335 1) 14) - 1)) true t321 t322 t323 t324 t325 t326 t327 t328 t329 t330 t331 t332 t333 t340 t341 t342 t343)))))) = some r := by rw [if_pos rfl] at H; exact H
      clear H; have H := H1; clear H1
      by_cases c22 : t340 > t343
      ·rw [if_pos c22] at H
       have c22b0 : decide (t343 < t340) = true := decide_eq_true c22
       clear c22
       (first | rw [c22b0] | (simp only [i64_w, i32_w]; rw [c22b0]) | skip)
       have H' := Aside0.mk H
       clear H
       try go_wp2
       have n0_ : Aside0 (Kd.R (Kd.int .i64) 3 ((((w17.setCell ⟨gb344, 0, none⟩ (.int .i64 t340)).setCell ⟨gb344, 1, none⟩ (.int .i64 t341)).setCell ⟨gb344, 2, none⟩ (.int .i64 t342)).setCell ⟨gb344, 3, none⟩ (.int .i64 t343)) w.heap.size (fun _ => True) (.slice (some ad338) t335.length co14) t335) := ⟨by (with_reducible repeat (first | apply Kd.R_alloc | apply Kd.R_drewN | apply Kd.R_drew)); exact Kd.R_mono (Kd.R_far (p := ⟨gb344, 3, none⟩) (Kd.R_far (p := ⟨gb344, 2, none⟩) (Kd.R_far (p := ⟨gb344, 1, none⟩) (Kd.R_far (p := ⟨gb344, 0, none⟩) (Kd.R_types HO337.out BK344.out (by decide)) (fun _ hk => hk.2) (.int .i64 t340)) (fun _ hk => hk.2) (.int .i64 t341)) (fun _ hk => hk.2) (.int .i64 t342)) (fun _ hk => hk.2) (.int .i64 t343)) (fun _ hk => trivial)⟩
       have n1_ : Aside0 (((((w17.setCell ⟨gb344, 0, none⟩ (.int .i64 t340)).setCell ⟨gb344, 1, none⟩ (.int .i64 t341)).setCell ⟨gb344, 2, none⟩ (.int .i64 t342)).setCell ⟨gb344, 3, none⟩ (.int .i64 t343)).heap[gb334]? = some (.cells #[.int .i64 t321, .int .i64 t322, .int .i64 t323, .int .i64 t324, .int .i64 t325, .int .i64 t326, .int .i64 t327, .int .i64 t328, .int .i64 t329, .int .i64 t330, .int .i64 t331, .int .i64 t332, .int .i64 t333] 44 (0, 0))) := ⟨by (with_reducible repeat (first | refine blk_drewN ?_ _ | refine blk_drew ?_ | refine blk_alloc ?_ _)); refine blk_far ?_ NB334_344.out _; (with_reducible repeat (first | refine blk_drewN ?_ _ | refine blk_drew ?_ | refine blk_alloc ?_ _)); refine blk_far ?_ NB334_344.out _; (with_reducible repeat (first | refine blk_drewN ?_ _ | refine blk_drew ?_ | refine blk_alloc ?_ _)); refine blk_far ?_ NB334_344.out _; (with_reducible repeat (first | refine blk_drewN ?_ _ | refine blk_drew ?_ | refine blk_alloc ?_ _)); refine blk_far ?_ NB334_344.out _; (with_reducible repeat (first | refine blk_drewN ?_ _ | refine blk_drew ?_ | refine blk_alloc ?_ _)); exact BK334.out⟩
       have n2_ : Aside0 (((((w17.setCell ⟨gb344, 0, none⟩ (.int .i64 t340)).setCell ⟨gb344, 1, none⟩ (.int .i64 t341)).setCell ⟨gb344, 2, none⟩ (.int .i64 t342)).setCell ⟨gb344, 3, none⟩ (.int .i64 t343)).heap[gb344]? = some (.cells #[.int .i64 t340, .int .i64 t341, .int .i64 t342, .int .i64 t343] 27 (0, 0))) := ⟨by (with_reducible repeat (first | refine blk_drewN ?_ _ | refine blk_drew ?_ | refine blk_alloc ?_ _)); refine blk_put (cs := #[.int .i64 t340, .int .i64 t341, .int .i64 t342, .int .i64 0]) ?_ 3 _ rfl; (with_reducible repeat (first | refine blk_drewN ?_ _ | refine blk_drew ?_ | refine blk_alloc ?_ _)); refine blk_put (cs := #[.int .i64 t340, .int .i64 t341, .int .i64 0, .int .i64 0]) ?_ 2 _ rfl; (with_reducible repeat (first | refine blk_drewN ?_ _ | refine blk_drew ?_ | refine blk_alloc ?_ _)); refine blk_put (cs := #[.int .i64 t340, .int .i64 0, .int .i64 0, .int .i64 0]) ?_ 1 _ rfl; (with_reducible repeat (first | refine blk_drewN ?_ _ | refine blk_drew ?_ | refine blk_alloc ?_ _)); refine blk_put (cs := #[.int .i64 0, .int .i64 0, .int .i64 0, .int .i64 0]) ?_ 0 _ rfl; (with_reducible repeat (first | refine blk_drewN ?_ _ | refine blk_drew ?_ | refine blk_alloc ?_ _)); exact BK344.out⟩
       have n3_ : Aside0 (Below w.heap.size w ((((w17.setCell ⟨gb344, 0, none⟩ (.int .i64 t340)).setCell ⟨gb344, 1, none⟩ (.int .i64 t341)).setCell ⟨gb344, 2, none⟩ (.int .i64 t342)).setCell ⟨gb344, 3, none⟩ (.int .i64 t343))) := ⟨by repeat (first | (with_reducible first | exact HB.out | apply below_alloc | apply pw_below_drewN | apply below_drew1 | refine below_set ?_ GE334.out | refine below_set ?_ GE344.out) | exact HB.out)⟩
       (try clear HO337); (try clear BK334); (try clear BK344); (try clear HB)
       generalize ((((w17.setCell ⟨gb344, 0, none⟩ (.int .i64 t340)).setCell ⟨gb344, 1, none⟩ (.int .i64 t341)).setCell ⟨gb344, 2, none⟩ (.int .i64 t342)).setCell ⟨gb344, 3, none⟩ (.int .i64 t343)) = w23 at n0_ n1_ n2_ n3_ ⊢
       have HO337 := n0_; have BK334 := n1_; have BK344 := n2_; have HB := n3_; clear n0_ n1_ n2_ n3_
       have n0_ := Aside0.mk (Kd.R_drew HO337.out)
       have n1_ := Aside0.mk (blk_drew BK334.out)
       have n2_ := Aside0.mk (blk_drew BK344.out)
       have n3_ := Aside0.mk (below_drew1 HB.out)
       clear HO337; clear BK334; clear BK344; clear HB; have HO337 := n0_; have BK334 := n1_; have BK344 := n2_; have HB := n3_; clear n0_ n1_ n2_ n3_
       refine start_ (n := 37) (S := fun w' => w'.cell? ⟨gb334, 0, none⟩ = some (.int .i64 t321) ∧ w'.cell? ⟨gb334, 1, none⟩ = some (.int .i64 t322) ∧ w'.cell? ⟨gb334, 2, none⟩ = some (.int .i64 t323) ∧ w'.cell? ⟨gb334, 3, none⟩ = some (.int .i64 t324) ∧ w'.cell? ⟨gb334, 4, none⟩ = some (.int .i64 t325) ∧ w'.cell? ⟨gb334, 5, none⟩ = some (.int .i64 t326) ∧ w'.cell? ⟨gb334, 6, none⟩ = some (.int .i64 t327) ∧ w'.cell? ⟨gb334, 7, none⟩ = some (.int .i64 t328) ∧ w'.cell? ⟨gb334, 8, none⟩ = some (.int .i64 t329) ∧ w'.cell? ⟨gb334, 9, none⟩ = some (.int .i64 t330) ∧ w'.cell? ⟨gb334, 10, none⟩ = some (.int .i64 t331) ∧ w'.cell? ⟨gb334, 11, none⟩ = some (.int .i64 t332) ∧ w'.cell? ⟨gb334, 12, none⟩ = some (.int .i64 t333) ∧ w'.cell? ⟨gb344, 0, none⟩ = some (.int .i64 t340) ∧ w'.cell? ⟨gb344, 1, none⟩ = some (.int .i64 t341) ∧ w'.cell? ⟨gb344, 2, none⟩ = some (.int .i64 t342) ∧ w'.cell? ⟨gb344, 3, none⟩ = some (.int .i64 t343)) (ds := []) y9_0 (by kernel_rfl) rfl rfl ⟨(blk_cell BK334.out 0).trans rfl, (blk_cell BK334.out 1).trans rfl, (blk_cell BK334.out 2).trans rfl, (blk_cell BK334.out 3).trans rfl, (blk_cell BK334.out 4).trans rfl, (blk_cell BK334.out 5).trans rfl, (blk_cell BK334.out 6).trans rfl, (blk_cell BK334.out 7).trans rfl, (blk_cell BK334.out 8).trans rfl, (blk_cell BK334.out 9).trans rfl, (blk_cell BK334.out 10).trans rfl, (blk_cell BK334.out 11).trans rfl, (blk_cell BK334.out 12).trans rfl, (blk_cell BK344.out 0).trans rfl, (blk_cell BK344.out 1).trans rfl, (blk_cell BK344.out 2).trans rfl, (blk_cell BK344.out 3).trans rfl⟩ (fun hHeld => ?_); refine with_tabW laws_FnPaints.tab8 laws_FnPaints.bits8 (fun HT_ HW_ => ?_)
       generalize w23.drew = w24 at HO337 BK334 BK344 HB hHeld ⊢
       refine take_ (i := 0) (N := some 31) (v := ?_) (a' := ?_) y9_8 rfl rfl (take_ofW HT_.out HW_.out (by kernel_rfl)) (fun _ _ _ h => h) (Or.inl ⟨by rfl, ?_⟩) hHeld ?_ ?_
       rotate_left
       ·rintro w' ⟨s0, s1, s2, s3, s4, s5, s6, s7, s8, s9, s10, s11, s12, s13, s14, s15, s16⟩
        go_simp; with_reducible rfl
       rotate_left
       ·exact x9_put
       refine one_ (i := 1) (N := some 32) y9_10 rfl rfl (one_of HT_.out (by kernel_rfl)) (by decide) (fun K hK => ?_)
       refine goes_ Try.func59 (by kernel_rfl) rfl #[.agg #[.int .i64 t321, .int .i64 t322, .int .i64 t323, .int .i64 t324, .int .i64 t325, .int .i64 t326, .int .i64 t327, .int .i64 t328, .int .i64 t329, .int .i64 t330, .int .i64 t331, .int .i64 t332, .int .i64 t333]] (by rfl) rfl rfl z9_41 ?_
       with_reducible refine (impl_PaintOk.calls t321 t322 t323 t324 t325 t326 t327 t328 t329 t330 t331 t332 t333 true _ A20.out).mono ?_
       rintro e w25 ⟨rfl, hb⟩
       refine ⟨_, rfl, ?_⟩
       have n0_ := Aside0.mk (Kd.R_below z9_46 hb)
       have n1_ := Aside0.mk (blk_below (g := gb334) (o := .cells #[.int .i64 t321, .int .i64 t322, .int .i64 t323, .int .i64 t324, .int .i64 t325, .int .i64 t326, .int .i64 t327, .int .i64 t328, .int .i64 t329, .int .i64 t330, .int .i64 t331, .int .i64 t332, .int .i64 t333] 44 (0, 0)) z9_42 hb)
       have n2_ := Aside0.mk (blk_below (g := gb344) (o := .cells #[.int .i64 t340, .int .i64 t341, .int .i64 t342, .int .i64 t343] 27 (0, 0)) z9_44 hb)
       have n3_ := Aside0.mk (below_step z9_43 hb)
       clear HO337; clear BK334; clear BK344; clear HB; have HO337 := n0_; have BK334 := n1_; have BK344 := n2_; have HB := n3_; clear n0_ n1_ n2_ n3_; (try clear hb); (try clear hb2); (try clear hk); (try clear hi)
       refine hK.out _ _ ⟨(blk_cell BK334.out 0).trans rfl, (blk_cell BK334.out 1).trans rfl, (blk_cell BK334.out 2).trans rfl, (blk_cell BK334.out 3).trans rfl, (blk_cell BK334.out 4).trans rfl, (blk_cell BK334.out 5).trans rfl, (blk_cell BK334.out 6).trans rfl, (blk_cell BK334.out 7).trans rfl, (blk_cell BK334.out 8).trans rfl, (blk_cell BK334.out 9).trans rfl, (blk_cell BK334.out 10).trans rfl, (blk_cell BK334.out 11).trans rfl, (blk_cell BK334.out 12).trans rfl, (blk_cell BK344.out 0).trans rfl, (blk_cell BK344.out 1).trans rfl, (blk_cell BK344.out 2).trans rfl, (blk_cell BK344.out 3).trans rfl⟩ (fun hHeld => ?_)
       clear hK K
       refine norm_ (a' := ?_) ?_ ?_
       rotate_left
       ·show Act.put _ (some 32) _ = _
        simp only [Act.put, List.setIfInBounds_toArray, List.set_cons_zero, List.set_cons_succ, i64_w, i32_w]
        rfl
       refine pure_ (i := 2) (N := some 33) (v := ?_) (a' := ?_) y9_15 rfl rfl (any_of HT_.out (by kernel_rfl)) (fun _ _ _ h => h) (Or.inl ⟨by rfl, ?_⟩) ?_ ?_; rotate_left
       ·intro w'
        go_simp; with_reducible rfl
       rotate_left
       ·exact x9_put
       refine pure_ (i := 3) (N := some 34) (v := ?_) (a' := ?_) y9_18 rfl rfl (any_of HT_.out (by kernel_rfl)) (fun _ _ _ h => h) (Or.inl ⟨by rfl, ?_⟩) ?_ ?_; rotate_left
       ·intro w'
        go_simp; with_reducible rfl
       rotate_left
       ·exact x9_put
       refine pure_ (i := 4) (N := some 35) (v := ?_) (a' := ?_) y9_21 rfl rfl (any_of HT_.out (by kernel_rfl)) (fun _ _ _ h => h) (Or.inl ⟨by rfl, ?_⟩) ?_ ?_; rotate_left
       ·intro w'
        go_simp; with_reducible rfl
       rotate_left
       ·exact x9_put
       refine pure_ (i := 6) (N := some 37) (v := ?_) (a' := ?_) y9_24 rfl rfl (any_of HT_.out (by kernel_rfl)) (fun _ _ _ h => h) (Or.inl ⟨by rfl, ?_⟩) ?_ ?_; rotate_left
       ·intro w'
        go_simp; with_reducible rfl
       rotate_left
       ·exact x9_put
       refine take_ (i := 5) (N := some 36) (v := ?_) (a' := ?_) y9_29 rfl rfl (take_ofW HT_.out HW_.out (by kernel_rfl)) (fun _ _ _ h => h) (Or.inl ⟨by rfl, ?_⟩) hHeld ?_ ?_
       rotate_left
       ·rintro w' ⟨s0, s1, s2, s3, s4, s5, s6, s7, s8, s9, s10, s11, s12, s13, s14, s15, s16⟩
        go_simp; with_reducible rfl
       rotate_left
       ·exact x9_put
       refine take_ (i := 7) (N := some 38) (v := ?_) (a' := ?_) y9_34 rfl rfl (take_ofW HT_.out HW_.out (by kernel_rfl)) (fun _ _ _ h => h) (Or.inl ⟨by rfl, ?_⟩) hHeld ?_ ?_
       rotate_left
       ·rintro w' ⟨s0, s1, s2, s3, s4, s5, s6, s7, s8, s9, s10, s11, s12, s13, s14, s15, s16⟩
        go_simp; with_reducible rfl
       rotate_left
       ·exact x9_put
       refine pure_ (i := 8) (N := some 39) (v := ?_) (a' := ?_) y9_38 rfl rfl (any_of HT_.out (by kernel_rfl)) (fun _ _ _ h => h) (Or.inl ⟨by rfl, ?_⟩) ?_ ?_; rotate_left
       ·intro w'
        go_simp; with_reducible rfl
       rotate_left
       ·exact x9_put
       refine pure_ (i := 9) (N := some 40) (v := ?_) (a' := ?_) y9_40 rfl rfl (any_of HT_.out (by kernel_rfl)) (fun _ _ _ h => h) (Or.inl ⟨by rfl, ?_⟩) ?_ ?_; rotate_left
       ·intro w'
        go_simp; with_reducible rfl
       rotate_left
       ·exact x9_put
       refine pure_ (i := 10) (N := some 41) (v := ?_) (a' := ?_) y9_41 rfl rfl (any_of HT_.out (by kernel_rfl)) (fun _ _ _ h => h) (Or.inl ⟨by rfl, ?_⟩) ?_ ?_; rotate_left
       ·intro w'
        go_simp; with_reducible rfl
       rotate_left
       ·exact x9_put
       refine pure_ (i := 11) (N := some 42) (v := undef) (a' := ?_) y9_43 rfl rfl (any_of HT_.out (by kernel_rfl)) (fun _ _ _ h => h) (Or.inr ⟨by rfl, rfl⟩) ?_ ?_; rotate_left
       ·exact x9_put
       refine pure_ (i := 12) (N := some 43) (v := undef) (a' := ?_) y9_46 rfl rfl (any_of HT_.out (by kernel_rfl)) (fun _ _ _ h => h) (Or.inr ⟨by rfl, rfl⟩) ?_ ?_; rotate_left
       ·exact x9_put
       refine pure_ (i := 13) (N := some 44) (v := undef) (a' := ?_) y9_48 rfl rfl (any_of HT_.out (by kernel_rfl)) (fun _ _ _ h => h) (Or.inr ⟨by rfl, rfl⟩) ?_ ?_; rotate_left
       ·exact x9_put
       refine pure_ (i := 14) (N := some 45) (v := undef) (a' := ?_) y9_50 rfl rfl (any_of HT_.out (by kernel_rfl)) (fun _ _ _ h => h) (Or.inr ⟨by rfl, rfl⟩) ?_ ?_; rotate_left
       ·exact x9_put
       refine pure_ (i := 15) (N := some 46) (v := undef) (a' := ?_) y9_53 rfl rfl (any_of HT_.out (by kernel_rfl)) (fun _ _ _ h => h) (Or.inr ⟨by rfl, rfl⟩) ?_ ?_; rotate_left
       ·exact x9_put
       refine pure_ (i := 16) (N := some 47) (v := ?_) (a' := ?_) y9_56 rfl rfl (any_of HT_.out (by kernel_rfl)) (fun _ _ _ h => h) (Or.inl ⟨by rfl, ?_⟩) ?_ ?_; rotate_left
       ·intro w'
        go_simp; with_reducible rfl
       rotate_left
       ·exact x9_put
       refine pure_ (i := 17) (N := some 48) (v := ?_) (a' := ?_) y9_57 rfl rfl (any_of HT_.out (by kernel_rfl)) (fun _ _ _ h => h) (Or.inl ⟨by rfl, ?_⟩) ?_ ?_; rotate_left
       ·intro w'
        go_simp; with_reducible rfl
       rotate_left
       ·exact x9_put
       refine pure_ (i := 18) (N := some 49) (v := undef) (a' := ?_) y9_58 rfl rfl (any_of HT_.out (by kernel_rfl)) (fun _ _ _ h => h) (Or.inr ⟨by rfl, rfl⟩) ?_ ?_; rotate_left
       ·exact x9_put
       refine pure_ (i := 19) (N := some 50) (v := undef) (a' := ?_) y9_61 rfl rfl (any_of HT_.out (by kernel_rfl)) (fun _ _ _ h => h) (Or.inr ⟨by rfl, rfl⟩) ?_ ?_; rotate_left
       ·exact x9_put
       refine pure_ (i := 20) (N := some 51) (v := undef) (a' := ?_) y9_63 rfl rfl (any_of HT_.out (by kernel_rfl)) (fun _ _ _ h => h) (Or.inr ⟨by rfl, rfl⟩) ?_ ?_; rotate_left
       ·exact x9_put
       refine pure_ (i := 21) (N := some 52) (v := undef) (a' := ?_) y9_65 rfl rfl (any_of HT_.out (by kernel_rfl)) (fun _ _ _ h => h) (Or.inr ⟨by rfl, rfl⟩) ?_ ?_; rotate_left
       ·exact x9_put
       refine pure_ (i := 22) (N := some 53) (v := undef) (a' := ?_) y9_67 rfl rfl (any_of HT_.out (by kernel_rfl)) (fun _ _ _ h => h) (Or.inr ⟨by rfl, rfl⟩) ?_ ?_; rotate_left
       ·exact x9_put
       refine pure_ (i := 23) (N := some 54) (v := ?_) (a' := ?_) y9_70 rfl rfl (any_of HT_.out (by kernel_rfl)) (fun _ _ _ h => h) (Or.inl ⟨by rfl, ?_⟩) ?_ ?_; rotate_left
       ·intro w'
        go_simp; with_reducible rfl
       rotate_left
       ·exact x9_put
       refine pure_ (i := 24) (N := some 55) (v := ?_) (a' := ?_) y9_73 rfl rfl (any_of HT_.out (by kernel_rfl)) (fun _ _ _ h => h) (Or.inl ⟨by rfl, ?_⟩) ?_ ?_; rotate_left
       ·intro w'
        go_simp; with_reducible rfl
       rotate_left
       ·exact x9_put
       refine pure_ (i := 25) (N := some 56) (v := undef) (a' := ?_) y9_74 rfl rfl (any_of HT_.out (by kernel_rfl)) (fun _ _ _ h => h) (Or.inr ⟨by rfl, rfl⟩) ?_ ?_; rotate_left
       ·exact x9_put
       refine pure_ (i := 26) (N := some 57) (v := undef) (a' := ?_) y9_75 rfl rfl (any_of HT_.out (by kernel_rfl)) (fun _ _ _ h => h) (Or.inr ⟨by rfl, rfl⟩) ?_ ?_; rotate_left
       ·exact x9_put
       refine pure_ (i := 27) (N := some 58) (v := undef) (a' := ?_) y9_77 rfl rfl (any_of HT_.out (by kernel_rfl)) (fun _ _ _ h => h) (Or.inr ⟨by rfl, rfl⟩) ?_ ?_; rotate_left
       ·exact x9_put
       refine pure_ (i := 28) (N := some 59) (v := ?_) (a' := ?_) y9_79 rfl rfl (any_of HT_.out (by kernel_rfl)) (fun _ _ _ h => h) (Or.inl ⟨by rfl, ?_⟩) ?_ ?_; rotate_left
       ·intro w'
        go_simp; with_reducible rfl
       rotate_left
       ·exact x9_put
       refine pure_ (i := 29) (N := some 60) (v := ?_) (a' := ?_) y9_81 rfl rfl (any_of HT_.out (by kernel_rfl)) (fun _ _ _ h => h) (Or.inl ⟨by rfl, ?_⟩) ?_ ?_; rotate_left
       ·intro w'
        go_simp; with_reducible rfl
       rotate_left
       ·exact x9_put
       refine pure_ (i := 30) (N := some 61) (v := undef) (a' := ?_) y9_85 rfl rfl (any_of HT_.out (by kernel_rfl)) (fun _ _ _ h => h) (Or.inr ⟨by rfl, rfl⟩) ?_ ?_; rotate_left
       ·exact x9_put
       refine pure_ (i := 31) (N := some 62) (v := undef) (a' := ?_) y9_87 rfl rfl (any_of HT_.out (by kernel_rfl)) (fun _ _ _ h => h) (Or.inr ⟨by rfl, rfl⟩) ?_ ?_; rotate_left
       ·exact x9_put
       refine pure_ (i := 32) (N := some 63) (v := undef) (a' := ?_) y9_88 rfl rfl (any_of HT_.out (by kernel_rfl)) (fun _ _ _ h => h) (Or.inr ⟨by rfl, rfl⟩) ?_ ?_; rotate_left
       ·exact x9_put
       refine pure_ (i := 33) (N := some 64) (v := undef) (a' := ?_) y9_89 rfl rfl (any_of HT_.out (by kernel_rfl)) (fun _ _ _ h => h) (Or.inr ⟨by rfl, rfl⟩) ?_ ?_; rotate_left
       ·exact x9_put
       refine pure_ (i := 34) (N := some 65) (v := undef) (a' := ?_) y9_90 rfl rfl (any_of HT_.out (by kernel_rfl)) (fun _ _ _ h => h) (Or.inr ⟨by rfl, rfl⟩) ?_ ?_; rotate_left
       ·exact x9_put
       refine pure_ (i := 35) (N := some 66) (v := undef) (a' := ?_) y9_91 rfl rfl (any_of HT_.out (by kernel_rfl)) (fun _ _ _ h => h) (Or.inr ⟨by rfl, rfl⟩) ?_ ?_; rotate_left
       ·exact x9_put
       refine pure_ (i := 36) (N := some 67) (v := ?_) (a' := ?_) y9_92 rfl rfl (any_of HT_.out (by kernel_rfl)) (fun _ _ _ h => h) (Or.inl ⟨by rfl, ?_⟩) ?_ ?_; rotate_left
       ·intro w'
        go_simp; with_reducible rfl
       rotate_left
       ·exact x9_put
       refine done_ (done_of HT_.out (by kernel_rfl)) ?_
       try go_wp2
       go_meet
       case rel => exact ⟨_, (true), (by first | rfl | (simp; done) | (simp [*]; done)), H', ⟨by first | omega | exact Nat.le_refl _⟩, ⟨by (with_reducible repeat (first | refine blk_drewN ?_ _ | refine blk_drew ?_ | refine blk_alloc ?_ _)); exact BK334.out⟩, ⟨by (with_reducible repeat (first | refine blk_drewN ?_ _ | refine blk_drew ?_ | refine blk_alloc ?_ _)); exact BK344.out⟩, ⟨by repeat (first | (with_reducible first | exact HB.out | apply below_alloc | apply pw_below_drewN | apply below_drew1 | refine below_set ?_ GE334.out | refine below_set ?_ GE344.out) | exact HB.out)⟩⟩
      ·rw [if_neg c22] at H
       have c22b0 : decide (t343 < t340) = false := decide_eq_false c22
       clear c22
       (first | rw [c22b0] | (simp only [i64_w, i32_w]; rw [c22b0]) | skip)
       by_cases c26 : t341 > t343
       ·rw [if_pos c26] at H
        have c26b0 : decide (t343 < t341) = true := decide_eq_true c26
        clear c26
        have H' := Aside0.mk H
        clear H
        try go_wp2
        have n0_ : Aside0 (Kd.R (Kd.int .i64) 3 ((((w17.setCell ⟨gb344, 0, none⟩ (.int .i64 t340)).setCell ⟨gb344, 1, none⟩ (.int .i64 t341)).setCell ⟨gb344, 2, none⟩ (.int .i64 t342)).setCell ⟨gb344, 3, none⟩ (.int .i64 t343)) w.heap.size (fun _ => True) (.slice (some ad338) t335.length co14) t335) := ⟨by (with_reducible repeat (first | apply Kd.R_alloc | apply Kd.R_drewN | apply Kd.R_drew)); exact Kd.R_mono (Kd.R_far (p := ⟨gb344, 3, none⟩) (Kd.R_far (p := ⟨gb344, 2, none⟩) (Kd.R_far (p := ⟨gb344, 1, none⟩) (Kd.R_far (p := ⟨gb344, 0, none⟩) (Kd.R_types HO337.out BK344.out (by decide)) (fun _ hk => hk.2) (.int .i64 t340)) (fun _ hk => hk.2) (.int .i64 t341)) (fun _ hk => hk.2) (.int .i64 t342)) (fun _ hk => hk.2) (.int .i64 t343)) (fun _ hk => trivial)⟩
        have n1_ : Aside0 (((((w17.setCell ⟨gb344, 0, none⟩ (.int .i64 t340)).setCell ⟨gb344, 1, none⟩ (.int .i64 t341)).setCell ⟨gb344, 2, none⟩ (.int .i64 t342)).setCell ⟨gb344, 3, none⟩ (.int .i64 t343)).heap[gb334]? = some (.cells #[.int .i64 t321, .int .i64 t322, .int .i64 t323, .int .i64 t324, .int .i64 t325, .int .i64 t326, .int .i64 t327, .int .i64 t328, .int .i64 t329, .int .i64 t330, .int .i64 t331, .int .i64 t332, .int .i64 t333] 44 (0, 0))) := ⟨by (with_reducible repeat (first | refine blk_drewN ?_ _ | refine blk_drew ?_ | refine blk_alloc ?_ _)); refine blk_far ?_ NB334_344.out _; (with_reducible repeat (first | refine blk_drewN ?_ _ | refine blk_drew ?_ | refine blk_alloc ?_ _)); refine blk_far ?_ NB334_344.out _; (with_reducible repeat (first | refine blk_drewN ?_ _ | refine blk_drew ?_ | refine blk_alloc ?_ _)); refine blk_far ?_ NB334_344.out _; (with_reducible repeat (first | refine blk_drewN ?_ _ | refine blk_drew ?_ | refine blk_alloc ?_ _)); refine blk_far ?_ NB334_344.out _; (with_reducible repeat (first | refine blk_drewN ?_ _ | refine blk_drew ?_ | refine blk_alloc ?_ _)); exact BK334.out⟩
        have n2_ : Aside0 (((((w17.setCell ⟨gb344, 0, none⟩ (.int .i64 t340)).setCell ⟨gb344, 1, none⟩ (.int .i64 t341)).setCell ⟨gb344, 2, none⟩ (.int .i64 t342)).setCell ⟨gb344, 3, none⟩ (.int .i64 t343)).heap[gb344]? = some (.cells #[.int .i64 t340, .int .i64 t341, .int .i64 t342, .int .i64 t343] 27 (0, 0))) := ⟨by (with_reducible repeat (first | refine blk_drewN ?_ _ | refine blk_drew ?_ | refine blk_alloc ?_ _)); refine blk_put (cs := #[.int .i64 t340, .int .i64 t341, .int .i64 t342, .int .i64 0]) ?_ 3 _ rfl; (with_reducible repeat (first | refine blk_drewN ?_ _ | refine blk_drew ?_ | refine blk_alloc ?_ _)); refine blk_put (cs := #[.int .i64 t340, .int .i64 t341, .int .i64 0, .int .i64 0]) ?_ 2 _ rfl; (with_reducible repeat (first | refine blk_drewN ?_ _ | refine blk_drew ?_ | refine blk_alloc ?_ _)); refine blk_put (cs := #[.int .i64 t340, .int .i64 0, .int .i64 0, .int .i64 0]) ?_ 1 _ rfl; (with_reducible repeat (first | refine blk_drewN ?_ _ | refine blk_drew ?_ | refine blk_alloc ?_ _)); refine blk_put (cs := #[.int .i64 0, .int .i64 0, .int .i64 0, .int .i64 0]) ?_ 0 _ rfl; (with_reducible repeat (first | refine blk_drewN ?_ _ | refine blk_drew ?_ | refine blk_alloc ?_ _)); exact BK344.out⟩
        have n3_ : Aside0 (Below w.heap.size w ((((w17.setCell ⟨gb344, 0, none⟩ (.int .i64 t340)).setCell ⟨gb344, 1, none⟩ (.int .i64 t341)).setCell ⟨gb344, 2, none⟩ (.int .i64 t342)).setCell ⟨gb344, 3, none⟩ (.int .i64 t343))) := ⟨by repeat (first | (with_reducible first | exact HB.out | apply below_alloc | apply pw_below_drewN | apply below_drew1 | refine below_set ?_ GE334.out | refine below_set ?_ GE344.out) | exact HB.out)⟩
        (try clear HO337); (try clear BK334); (try clear BK344); (try clear HB)
        generalize ((((w17.setCell ⟨gb344, 0, none⟩ (.int .i64 t340)).setCell ⟨gb344, 1, none⟩ (.int .i64 t341)).setCell ⟨gb344, 2, none⟩ (.int .i64 t342)).setCell ⟨gb344, 3, none⟩ (.int .i64 t343)) = w27 at n0_ n1_ n2_ n3_ ⊢
        have HO337 := n0_; have BK334 := n1_; have BK344 := n2_; have HB := n3_; clear n0_ n1_ n2_ n3_
        have n0_ := Aside0.mk (Kd.R_drew HO337.out)
        have n1_ := Aside0.mk (blk_drew BK334.out)
        have n2_ := Aside0.mk (blk_drew BK344.out)
        have n3_ := Aside0.mk (below_drew1 HB.out)
        clear HO337; clear BK334; clear BK344; clear HB; have HO337 := n0_; have BK334 := n1_; have BK344 := n2_; have HB := n3_; clear n0_ n1_ n2_ n3_
        refine start_ (n := 37) (S := fun w' => w'.cell? ⟨gb334, 0, none⟩ = some (.int .i64 t321) ∧ w'.cell? ⟨gb334, 1, none⟩ = some (.int .i64 t322) ∧ w'.cell? ⟨gb334, 2, none⟩ = some (.int .i64 t323) ∧ w'.cell? ⟨gb334, 3, none⟩ = some (.int .i64 t324) ∧ w'.cell? ⟨gb334, 4, none⟩ = some (.int .i64 t325) ∧ w'.cell? ⟨gb334, 5, none⟩ = some (.int .i64 t326) ∧ w'.cell? ⟨gb334, 6, none⟩ = some (.int .i64 t327) ∧ w'.cell? ⟨gb334, 7, none⟩ = some (.int .i64 t328) ∧ w'.cell? ⟨gb334, 8, none⟩ = some (.int .i64 t329) ∧ w'.cell? ⟨gb334, 9, none⟩ = some (.int .i64 t330) ∧ w'.cell? ⟨gb334, 10, none⟩ = some (.int .i64 t331) ∧ w'.cell? ⟨gb334, 11, none⟩ = some (.int .i64 t332) ∧ w'.cell? ⟨gb334, 12, none⟩ = some (.int .i64 t333) ∧ w'.cell? ⟨gb344, 0, none⟩ = some (.int .i64 t340) ∧ w'.cell? ⟨gb344, 1, none⟩ = some (.int .i64 t341) ∧ w'.cell? ⟨gb344, 2, none⟩ = some (.int .i64 t342) ∧ w'.cell? ⟨gb344, 3, none⟩ = some (.int .i64 t343)) (ds := []) y9_0 (by kernel_rfl) rfl rfl ⟨(blk_cell BK334.out 0).trans rfl, (blk_cell BK334.out 1).trans rfl, (blk_cell BK334.out 2).trans rfl, (blk_cell BK334.out 3).trans rfl, (blk_cell BK334.out 4).trans rfl, (blk_cell BK334.out 5).trans rfl, (blk_cell BK334.out 6).trans rfl, (blk_cell BK334.out 7).trans rfl, (blk_cell BK334.out 8).trans rfl, (blk_cell BK334.out 9).trans rfl, (blk_cell BK334.out 10).trans rfl, (blk_cell BK334.out 11).trans rfl, (blk_cell BK334.out 12).trans rfl, (blk_cell BK344.out 0).trans rfl, (blk_cell BK344.out 1).trans rfl, (blk_cell BK344.out 2).trans rfl, (blk_cell BK344.out 3).trans rfl⟩ (fun hHeld => ?_); refine with_tabW laws_FnPaints.tab8 laws_FnPaints.bits8 (fun HT_ HW_ => ?_)
        generalize w27.drew = w28 at HO337 BK334 BK344 HB hHeld ⊢
        refine take_ (i := 0) (N := some 31) (v := ?_) (a' := ?_) y9_8 rfl rfl (take_ofW HT_.out HW_.out (by kernel_rfl)) (fun _ _ _ h => h) (Or.inl ⟨by rfl, ?_⟩) hHeld ?_ ?_
        rotate_left
        ·rintro w' ⟨s0, s1, s2, s3, s4, s5, s6, s7, s8, s9, s10, s11, s12, s13, s14, s15, s16⟩
         go_simp; with_reducible rfl
        rotate_left
        ·exact x9_put
        refine one_ (i := 1) (N := some 32) y9_10 rfl rfl (one_of HT_.out (by kernel_rfl)) (by decide) (fun K hK => ?_)
        refine goes_ Try.func59 (by kernel_rfl) rfl #[.agg #[.int .i64 t321, .int .i64 t322, .int .i64 t323, .int .i64 t324, .int .i64 t325, .int .i64 t326, .int .i64 t327, .int .i64 t328, .int .i64 t329, .int .i64 t330, .int .i64 t331, .int .i64 t332, .int .i64 t333]] (by rfl) rfl rfl z9_41 ?_
        with_reducible refine (impl_PaintOk.calls t321 t322 t323 t324 t325 t326 t327 t328 t329 t330 t331 t332 t333 true _ A20.out).mono ?_
        rintro e w29 ⟨rfl, hb⟩
        refine ⟨_, rfl, ?_⟩
        have n0_ := Aside0.mk (Kd.R_below z9_46 hb)
        have n1_ := Aside0.mk (blk_below (g := gb334) (o := .cells #[.int .i64 t321, .int .i64 t322, .int .i64 t323, .int .i64 t324, .int .i64 t325, .int .i64 t326, .int .i64 t327, .int .i64 t328, .int .i64 t329, .int .i64 t330, .int .i64 t331, .int .i64 t332, .int .i64 t333] 44 (0, 0)) z9_42 hb)
        have n2_ := Aside0.mk (blk_below (g := gb344) (o := .cells #[.int .i64 t340, .int .i64 t341, .int .i64 t342, .int .i64 t343] 27 (0, 0)) z9_44 hb)
        have n3_ := Aside0.mk (below_step z9_43 hb)
        clear HO337; clear BK334; clear BK344; clear HB; have HO337 := n0_; have BK334 := n1_; have BK344 := n2_; have HB := n3_; clear n0_ n1_ n2_ n3_; (try clear hb); (try clear hb2); (try clear hk); (try clear hi)
        refine hK.out _ _ ⟨(blk_cell BK334.out 0).trans rfl, (blk_cell BK334.out 1).trans rfl, (blk_cell BK334.out 2).trans rfl, (blk_cell BK334.out 3).trans rfl, (blk_cell BK334.out 4).trans rfl, (blk_cell BK334.out 5).trans rfl, (blk_cell BK334.out 6).trans rfl, (blk_cell BK334.out 7).trans rfl, (blk_cell BK334.out 8).trans rfl, (blk_cell BK334.out 9).trans rfl, (blk_cell BK334.out 10).trans rfl, (blk_cell BK334.out 11).trans rfl, (blk_cell BK334.out 12).trans rfl, (blk_cell BK344.out 0).trans rfl, (blk_cell BK344.out 1).trans rfl, (blk_cell BK344.out 2).trans rfl, (blk_cell BK344.out 3).trans rfl⟩ (fun hHeld => ?_)
        clear hK K
        refine norm_ (a' := ?_) ?_ ?_
        rotate_left
        ·show Act.put _ (some 32) _ = _
         simp only [Act.put, List.setIfInBounds_toArray, List.set_cons_zero, List.set_cons_succ, i64_w, i32_w]
         rfl
        refine pure_ (i := 2) (N := some 33) (v := ?_) (a' := ?_) y9_15 rfl rfl (any_of HT_.out (by kernel_rfl)) (fun _ _ _ h => h) (Or.inl ⟨by rfl, ?_⟩) ?_ ?_; rotate_left
        ·intro w'
         go_simp; with_reducible rfl
        rotate_left
        ·exact x9_put
        refine pure_ (i := 3) (N := some 34) (v := ?_) (a' := ?_) y9_18 rfl rfl (any_of HT_.out (by kernel_rfl)) (fun _ _ _ h => h) (Or.inl ⟨by rfl, ?_⟩) ?_ ?_; rotate_left
        ·intro w'
         go_simp; with_reducible rfl
        rotate_left
        ·exact x9_put
        refine pure_ (i := 4) (N := some 35) (v := ?_) (a' := ?_) y9_21 rfl rfl (any_of HT_.out (by kernel_rfl)) (fun _ _ _ h => h) (Or.inl ⟨by rfl, ?_⟩) ?_ ?_; rotate_left
        ·intro w'
         go_simp; with_reducible rfl
        rotate_left
        ·exact x9_put
        refine pure_ (i := 6) (N := some 37) (v := ?_) (a' := ?_) y9_24 rfl rfl (any_of HT_.out (by kernel_rfl)) (fun _ _ _ h => h) (Or.inl ⟨by rfl, ?_⟩) ?_ ?_; rotate_left
        ·intro w'
         go_simp; with_reducible rfl
        rotate_left
        ·exact x9_put
        refine take_ (i := 5) (N := some 36) (v := ?_) (a' := ?_) y9_29 rfl rfl (take_ofW HT_.out HW_.out (by kernel_rfl)) (fun _ _ _ h => h) (Or.inl ⟨by rfl, ?_⟩) hHeld ?_ ?_
        rotate_left
        ·rintro w' ⟨s0, s1, s2, s3, s4, s5, s6, s7, s8, s9, s10, s11, s12, s13, s14, s15, s16⟩
         go_simp; with_reducible rfl
        rotate_left
        ·exact x9_put
        refine take_ (i := 7) (N := some 38) (v := ?_) (a' := ?_) y9_34 rfl rfl (take_ofW HT_.out HW_.out (by kernel_rfl)) (fun _ _ _ h => h) (Or.inl ⟨by rfl, ?_⟩) hHeld ?_ ?_
        rotate_left
        ·rintro w' ⟨s0, s1, s2, s3, s4, s5, s6, s7, s8, s9, s10, s11, s12, s13, s14, s15, s16⟩
         go_simp; with_reducible rfl
        rotate_left
        ·exact x9_put
        refine pure_ (i := 8) (N := some 39) (v := ?_) (a' := ?_) y9_38 rfl rfl (any_of HT_.out (by kernel_rfl)) (fun _ _ _ h => h) (Or.inl ⟨by rfl, ?_⟩) ?_ ?_; rotate_left
        ·intro w'
         go_simp; with_reducible rfl
        rotate_left
        ·exact x9_put
        refine pure_ (i := 9) (N := some 40) (v := ?_) (a' := ?_) y9_40 rfl rfl (any_of HT_.out (by kernel_rfl)) (fun _ _ _ h => h) (Or.inl ⟨by rfl, ?_⟩) ?_ ?_; rotate_left
        ·intro w'
         go_simp; with_reducible rfl
        rotate_left
        ·exact x9_put
        refine pure_ (i := 10) (N := some 41) (v := ?_) (a' := ?_) y9_41 rfl rfl (any_of HT_.out (by kernel_rfl)) (fun _ _ _ h => h) (Or.inl ⟨by rfl, ?_⟩) ?_ ?_; rotate_left
        ·intro w'
         go_simp; with_reducible rfl
        rotate_left
        ·exact x9_put
        refine pure_ (i := 11) (N := some 42) (v := ?_) (a' := ?_) y9_43 rfl rfl (any_of HT_.out (by kernel_rfl)) (fun _ _ _ h => h) (Or.inl ⟨by rfl, ?_⟩) ?_ ?_; rotate_left
        ·intro w'
         go_simp; with_reducible rfl
        rotate_left
        ·exact x9_put
        refine pure_ (i := 13) (N := some 44) (v := ?_) (a' := ?_) y9_45 rfl rfl (any_of HT_.out (by kernel_rfl)) (fun _ _ _ h => h) (Or.inl ⟨by rfl, ?_⟩) ?_ ?_; rotate_left
        ·intro w'
         go_simp; with_reducible rfl
        rotate_left
        ·exact x9_put
        refine take_ (i := 12) (N := some 43) (v := ?_) (a' := ?_) y9_48 rfl rfl (take_ofW HT_.out HW_.out (by kernel_rfl)) (fun _ _ _ h => h) (Or.inl ⟨by rfl, ?_⟩) hHeld ?_ ?_
        rotate_left
        ·rintro w' ⟨s0, s1, s2, s3, s4, s5, s6, s7, s8, s9, s10, s11, s12, s13, s14, s15, s16⟩
         go_simp; with_reducible rfl
        rotate_left
        ·exact x9_put
        refine take_ (i := 14) (N := some 45) (v := ?_) (a' := ?_) y9_50 rfl rfl (take_ofW HT_.out HW_.out (by kernel_rfl)) (fun _ _ _ h => h) (Or.inl ⟨by rfl, ?_⟩) hHeld ?_ ?_
        rotate_left
        ·rintro w' ⟨s0, s1, s2, s3, s4, s5, s6, s7, s8, s9, s10, s11, s12, s13, s14, s15, s16⟩
         go_simp; with_reducible rfl
        rotate_left
        ·exact x9_put
        refine pure_ (i := 15) (N := some 46) (v := ?_) (a' := ?_) y9_53 rfl rfl (any_of HT_.out (by kernel_rfl)) (fun _ _ _ h => h) (Or.inl ⟨by rfl, ?_⟩) ?_ ?_; rotate_left
        ·intro w'
         go_simp; with_reducible rfl
        rotate_left
        ·exact x9_put
        refine pure_ (i := 16) (N := some 47) (v := ?_) (a' := ?_) y9_56 rfl rfl (any_of HT_.out (by kernel_rfl)) (fun _ _ _ h => h) (Or.inl ⟨by rfl, ?_⟩) ?_ ?_; rotate_left
        ·intro w'
         go_simp; with_reducible rfl
        rotate_left
        ·exact x9_put
        refine pure_ (i := 17) (N := some 48) (v := ?_) (a' := ?_) y9_57 rfl rfl (any_of HT_.out (by kernel_rfl)) (fun _ _ _ h => h) (Or.inl ⟨by rfl, ?_⟩) ?_ ?_; rotate_left
        ·intro w'
         go_simp; with_reducible rfl
        rotate_left
        ·exact x9_put
        refine pure_ (i := 18) (N := some 49) (v := undef) (a' := ?_) y9_58 rfl rfl (any_of HT_.out (by kernel_rfl)) (fun _ _ _ h => h) (Or.inr ⟨by rfl, rfl⟩) ?_ ?_; rotate_left
        ·exact x9_put
        refine pure_ (i := 19) (N := some 50) (v := undef) (a' := ?_) y9_61 rfl rfl (any_of HT_.out (by kernel_rfl)) (fun _ _ _ h => h) (Or.inr ⟨by rfl, rfl⟩) ?_ ?_; rotate_left
        ·exact x9_put
        refine pure_ (i := 20) (N := some 51) (v := undef) (a' := ?_) y9_63 rfl rfl (any_of HT_.out (by kernel_rfl)) (fun _ _ _ h => h) (Or.inr ⟨by rfl, rfl⟩) ?_ ?_; rotate_left
        ·exact x9_put
        refine pure_ (i := 21) (N := some 52) (v := undef) (a' := ?_) y9_65 rfl rfl (any_of HT_.out (by kernel_rfl)) (fun _ _ _ h => h) (Or.inr ⟨by rfl, rfl⟩) ?_ ?_; rotate_left
        ·exact x9_put
        refine pure_ (i := 22) (N := some 53) (v := undef) (a' := ?_) y9_67 rfl rfl (any_of HT_.out (by kernel_rfl)) (fun _ _ _ h => h) (Or.inr ⟨by rfl, rfl⟩) ?_ ?_; rotate_left
        ·exact x9_put
        refine pure_ (i := 23) (N := some 54) (v := ?_) (a' := ?_) y9_70 rfl rfl (any_of HT_.out (by kernel_rfl)) (fun _ _ _ h => h) (Or.inl ⟨by rfl, ?_⟩) ?_ ?_; rotate_left
        ·intro w'
         go_simp; with_reducible rfl
        rotate_left
        ·exact x9_put
        refine pure_ (i := 24) (N := some 55) (v := ?_) (a' := ?_) y9_73 rfl rfl (any_of HT_.out (by kernel_rfl)) (fun _ _ _ h => h) (Or.inl ⟨by rfl, ?_⟩) ?_ ?_; rotate_left
        ·intro w'
         go_simp; with_reducible rfl
        rotate_left
        ·exact x9_put
        refine pure_ (i := 25) (N := some 56) (v := undef) (a' := ?_) y9_74 rfl rfl (any_of HT_.out (by kernel_rfl)) (fun _ _ _ h => h) (Or.inr ⟨by rfl, rfl⟩) ?_ ?_; rotate_left
        ·exact x9_put
        refine pure_ (i := 26) (N := some 57) (v := undef) (a' := ?_) y9_75 rfl rfl (any_of HT_.out (by kernel_rfl)) (fun _ _ _ h => h) (Or.inr ⟨by rfl, rfl⟩) ?_ ?_; rotate_left
        ·exact x9_put
        refine pure_ (i := 27) (N := some 58) (v := undef) (a' := ?_) y9_77 rfl rfl (any_of HT_.out (by kernel_rfl)) (fun _ _ _ h => h) (Or.inr ⟨by rfl, rfl⟩) ?_ ?_; rotate_left
        ·exact x9_put
        refine pure_ (i := 28) (N := some 59) (v := ?_) (a' := ?_) y9_79 rfl rfl (any_of HT_.out (by kernel_rfl)) (fun _ _ _ h => h) (Or.inl ⟨by rfl, ?_⟩) ?_ ?_; rotate_left
        ·intro w'
         go_simp; with_reducible rfl
        rotate_left
        ·exact x9_put
        refine pure_ (i := 29) (N := some 60) (v := ?_) (a' := ?_) y9_81 rfl rfl (any_of HT_.out (by kernel_rfl)) (fun _ _ _ h => h) (Or.inl ⟨by rfl, ?_⟩) ?_ ?_; rotate_left
        ·intro w'
         go_simp; with_reducible rfl
        rotate_left
        ·exact x9_put
        refine pure_ (i := 30) (N := some 61) (v := undef) (a' := ?_) y9_85 rfl rfl (any_of HT_.out (by kernel_rfl)) (fun _ _ _ h => h) (Or.inr ⟨by rfl, rfl⟩) ?_ ?_; rotate_left
        ·exact x9_put
        refine pure_ (i := 31) (N := some 62) (v := undef) (a' := ?_) y9_87 rfl rfl (any_of HT_.out (by kernel_rfl)) (fun _ _ _ h => h) (Or.inr ⟨by rfl, rfl⟩) ?_ ?_; rotate_left
        ·exact x9_put
        refine pure_ (i := 32) (N := some 63) (v := undef) (a' := ?_) y9_88 rfl rfl (any_of HT_.out (by kernel_rfl)) (fun _ _ _ h => h) (Or.inr ⟨by rfl, rfl⟩) ?_ ?_; rotate_left
        ·exact x9_put
        refine pure_ (i := 33) (N := some 64) (v := undef) (a' := ?_) y9_89 rfl rfl (any_of HT_.out (by kernel_rfl)) (fun _ _ _ h => h) (Or.inr ⟨by rfl, rfl⟩) ?_ ?_; rotate_left
        ·exact x9_put
        refine pure_ (i := 34) (N := some 65) (v := undef) (a' := ?_) y9_90 rfl rfl (any_of HT_.out (by kernel_rfl)) (fun _ _ _ h => h) (Or.inr ⟨by rfl, rfl⟩) ?_ ?_; rotate_left
        ·exact x9_put
        refine pure_ (i := 35) (N := some 66) (v := undef) (a' := ?_) y9_91 rfl rfl (any_of HT_.out (by kernel_rfl)) (fun _ _ _ h => h) (Or.inr ⟨by rfl, rfl⟩) ?_ ?_; rotate_left
        ·exact x9_put
        refine pure_ (i := 36) (N := some 67) (v := ?_) (a' := ?_) y9_92 rfl rfl (any_of HT_.out (by kernel_rfl)) (fun _ _ _ h => h) (Or.inl ⟨by rfl, ?_⟩) ?_ ?_; rotate_left
        ·intro w'
         go_simp; with_reducible rfl
        rotate_left
        ·exact x9_put
        refine done_ (done_of HT_.out (by kernel_rfl)) ?_
        try go_wp2
        go_meet
        case rel => exact ⟨_, (true), (by first | rfl | (simp; done) | (simp [*]; done)), H', ⟨by first | omega | exact Nat.le_refl _⟩, ⟨by (with_reducible repeat (first | refine blk_drewN ?_ _ | refine blk_drew ?_ | refine blk_alloc ?_ _)); exact BK334.out⟩, ⟨by (with_reducible repeat (first | refine blk_drewN ?_ _ | refine blk_drew ?_ | refine blk_alloc ?_ _)); exact BK344.out⟩, ⟨by repeat (first | (with_reducible first | exact HB.out | apply below_alloc | apply pw_below_drewN | apply below_drew1 | refine below_set ?_ GE334.out | refine below_set ?_ GE344.out) | exact HB.out)⟩⟩
       ·rw [if_neg c26] at H
        have c26b0 : decide (t343 < t341) = false := decide_eq_false c26
        clear c26
        by_cases c30 : t342 > t343
        ·rw [if_pos c30] at H
         have c30b0 : decide (t343 < t342) = true := decide_eq_true c30
         clear c30
         have H' := Aside0.mk H
         clear H
         try go_wp2
         have n0_ : Aside0 (Kd.R (Kd.int .i64) 3 ((((w17.setCell ⟨gb344, 0, none⟩ (.int .i64 t340)).setCell ⟨gb344, 1, none⟩ (.int .i64 t341)).setCell ⟨gb344, 2, none⟩ (.int .i64 t342)).setCell ⟨gb344, 3, none⟩ (.int .i64 t343)) w.heap.size (fun _ => True) (.slice (some ad338) t335.length co14) t335) := ⟨by (with_reducible repeat (first | apply Kd.R_alloc | apply Kd.R_drewN | apply Kd.R_drew)); exact Kd.R_mono (Kd.R_far (p := ⟨gb344, 3, none⟩) (Kd.R_far (p := ⟨gb344, 2, none⟩) (Kd.R_far (p := ⟨gb344, 1, none⟩) (Kd.R_far (p := ⟨gb344, 0, none⟩) (Kd.R_types HO337.out BK344.out (by decide)) (fun _ hk => hk.2) (.int .i64 t340)) (fun _ hk => hk.2) (.int .i64 t341)) (fun _ hk => hk.2) (.int .i64 t342)) (fun _ hk => hk.2) (.int .i64 t343)) (fun _ hk => trivial)⟩
         have n1_ : Aside0 (((((w17.setCell ⟨gb344, 0, none⟩ (.int .i64 t340)).setCell ⟨gb344, 1, none⟩ (.int .i64 t341)).setCell ⟨gb344, 2, none⟩ (.int .i64 t342)).setCell ⟨gb344, 3, none⟩ (.int .i64 t343)).heap[gb334]? = some (.cells #[.int .i64 t321, .int .i64 t322, .int .i64 t323, .int .i64 t324, .int .i64 t325, .int .i64 t326, .int .i64 t327, .int .i64 t328, .int .i64 t329, .int .i64 t330, .int .i64 t331, .int .i64 t332, .int .i64 t333] 44 (0, 0))) := ⟨by (with_reducible repeat (first | refine blk_drewN ?_ _ | refine blk_drew ?_ | refine blk_alloc ?_ _)); refine blk_far ?_ NB334_344.out _; (with_reducible repeat (first | refine blk_drewN ?_ _ | refine blk_drew ?_ | refine blk_alloc ?_ _)); refine blk_far ?_ NB334_344.out _; (with_reducible repeat (first | refine blk_drewN ?_ _ | refine blk_drew ?_ | refine blk_alloc ?_ _)); refine blk_far ?_ NB334_344.out _; (with_reducible repeat (first | refine blk_drewN ?_ _ | refine blk_drew ?_ | refine blk_alloc ?_ _)); refine blk_far ?_ NB334_344.out _; (with_reducible repeat (first | refine blk_drewN ?_ _ | refine blk_drew ?_ | refine blk_alloc ?_ _)); exact BK334.out⟩
         have n2_ : Aside0 (((((w17.setCell ⟨gb344, 0, none⟩ (.int .i64 t340)).setCell ⟨gb344, 1, none⟩ (.int .i64 t341)).setCell ⟨gb344, 2, none⟩ (.int .i64 t342)).setCell ⟨gb344, 3, none⟩ (.int .i64 t343)).heap[gb344]? = some (.cells #[.int .i64 t340, .int .i64 t341, .int .i64 t342, .int .i64 t343] 27 (0, 0))) := ⟨by (with_reducible repeat (first | refine blk_drewN ?_ _ | refine blk_drew ?_ | refine blk_alloc ?_ _)); refine blk_put (cs := #[.int .i64 t340, .int .i64 t341, .int .i64 t342, .int .i64 0]) ?_ 3 _ rfl; (with_reducible repeat (first | refine blk_drewN ?_ _ | refine blk_drew ?_ | refine blk_alloc ?_ _)); refine blk_put (cs := #[.int .i64 t340, .int .i64 t341, .int .i64 0, .int .i64 0]) ?_ 2 _ rfl; (with_reducible repeat (first | refine blk_drewN ?_ _ | refine blk_drew ?_ | refine blk_alloc ?_ _)); refine blk_put (cs := #[.int .i64 t340, .int .i64 0, .int .i64 0, .int .i64 0]) ?_ 1 _ rfl; (with_reducible repeat (first | refine blk_drewN ?_ _ | refine blk_drew ?_ | refine blk_alloc ?_ _)); refine blk_put (cs := #[.int .i64 0, .int .i64 0, .int .i64 0, .int .i64 0]) ?_ 0 _ rfl; (with_reducible repeat (first | refine blk_drewN ?_ _ | refine blk_drew ?_ | refine blk_alloc ?_ _)); exact BK344.out⟩
         have n3_ : Aside0 (Below w.heap.size w ((((w17.setCell ⟨gb344, 0, none⟩ (.int .i64 t340)).setCell ⟨gb344, 1, none⟩ (.int .i64 t341)).setCell ⟨gb344, 2, none⟩ (.int .i64 t342)).setCell ⟨gb344, 3, none⟩ (.int .i64 t343))) := ⟨by repeat (first | (with_reducible first | exact HB.out | apply below_alloc | apply pw_below_drewN | apply below_drew1 | refine below_set ?_ GE334.out | refine below_set ?_ GE344.out) | exact HB.out)⟩
         (try clear HO337); (try clear BK334); (try clear BK344); (try clear HB)
         generalize ((((w17.setCell ⟨gb344, 0, none⟩ (.int .i64 t340)).setCell ⟨gb344, 1, none⟩ (.int .i64 t341)).setCell ⟨gb344, 2, none⟩ (.int .i64 t342)).setCell ⟨gb344, 3, none⟩ (.int .i64 t343)) = w31 at n0_ n1_ n2_ n3_ ⊢
         have HO337 := n0_; have BK334 := n1_; have BK344 := n2_; have HB := n3_; clear n0_ n1_ n2_ n3_
         have n0_ := Aside0.mk (Kd.R_drew HO337.out)
         have n1_ := Aside0.mk (blk_drew BK334.out)
         have n2_ := Aside0.mk (blk_drew BK344.out)
         have n3_ := Aside0.mk (below_drew1 HB.out)
         clear HO337; clear BK334; clear BK344; clear HB; have HO337 := n0_; have BK334 := n1_; have BK344 := n2_; have HB := n3_; clear n0_ n1_ n2_ n3_
         refine start_ (n := 37) (S := fun w' => w'.cell? ⟨gb334, 0, none⟩ = some (.int .i64 t321) ∧ w'.cell? ⟨gb334, 1, none⟩ = some (.int .i64 t322) ∧ w'.cell? ⟨gb334, 2, none⟩ = some (.int .i64 t323) ∧ w'.cell? ⟨gb334, 3, none⟩ = some (.int .i64 t324) ∧ w'.cell? ⟨gb334, 4, none⟩ = some (.int .i64 t325) ∧ w'.cell? ⟨gb334, 5, none⟩ = some (.int .i64 t326) ∧ w'.cell? ⟨gb334, 6, none⟩ = some (.int .i64 t327) ∧ w'.cell? ⟨gb334, 7, none⟩ = some (.int .i64 t328) ∧ w'.cell? ⟨gb334, 8, none⟩ = some (.int .i64 t329) ∧ w'.cell? ⟨gb334, 9, none⟩ = some (.int .i64 t330) ∧ w'.cell? ⟨gb334, 10, none⟩ = some (.int .i64 t331) ∧ w'.cell? ⟨gb334, 11, none⟩ = some (.int .i64 t332) ∧ w'.cell? ⟨gb334, 12, none⟩ = some (.int .i64 t333) ∧ w'.cell? ⟨gb344, 0, none⟩ = some (.int .i64 t340) ∧ w'.cell? ⟨gb344, 1, none⟩ = some (.int .i64 t341) ∧ w'.cell? ⟨gb344, 2, none⟩ = some (.int .i64 t342) ∧ w'.cell? ⟨gb344, 3, none⟩ = some (.int .i64 t343)) (ds := []) y9_0 (by kernel_rfl) rfl rfl ⟨(blk_cell BK334.out 0).trans rfl, (blk_cell BK334.out 1).trans rfl, (blk_cell BK334.out 2).trans rfl, (blk_cell BK334.out 3).trans rfl, (blk_cell BK334.out 4).trans rfl, (blk_cell BK334.out 5).trans rfl, (blk_cell BK334.out 6).trans rfl, (blk_cell BK334.out 7).trans rfl, (blk_cell BK334.out 8).trans rfl, (blk_cell BK334.out 9).trans rfl, (blk_cell BK334.out 10).trans rfl, (blk_cell BK334.out 11).trans rfl, (blk_cell BK334.out 12).trans rfl, (blk_cell BK344.out 0).trans rfl, (blk_cell BK344.out 1).trans rfl, (blk_cell BK344.out 2).trans rfl, (blk_cell BK344.out 3).trans rfl⟩ (fun hHeld => ?_); refine with_tabW laws_FnPaints.tab8 laws_FnPaints.bits8 (fun HT_ HW_ => ?_)
         generalize w31.drew = w32 at HO337 BK334 BK344 HB hHeld ⊢
         refine take_ (i := 0) (N := some 31) (v := ?_) (a' := ?_) y9_8 rfl rfl (take_ofW HT_.out HW_.out (by kernel_rfl)) (fun _ _ _ h => h) (Or.inl ⟨by rfl, ?_⟩) hHeld ?_ ?_
         rotate_left
         ·rintro w' ⟨s0, s1, s2, s3, s4, s5, s6, s7, s8, s9, s10, s11, s12, s13, s14, s15, s16⟩
          go_simp; with_reducible rfl
         rotate_left
         ·exact x9_put
         refine one_ (i := 1) (N := some 32) y9_10 rfl rfl (one_of HT_.out (by kernel_rfl)) (by decide) (fun K hK => ?_)
         refine goes_ Try.func59 (by kernel_rfl) rfl #[.agg #[.int .i64 t321, .int .i64 t322, .int .i64 t323, .int .i64 t324, .int .i64 t325, .int .i64 t326, .int .i64 t327, .int .i64 t328, .int .i64 t329, .int .i64 t330, .int .i64 t331, .int .i64 t332, .int .i64 t333]] (by rfl) rfl rfl z9_41 ?_
         with_reducible refine (impl_PaintOk.calls t321 t322 t323 t324 t325 t326 t327 t328 t329 t330 t331 t332 t333 true _ A20.out).mono ?_
         rintro e w33 ⟨rfl, hb⟩
         refine ⟨_, rfl, ?_⟩
         have n0_ := Aside0.mk (Kd.R_below z9_46 hb)
         have n1_ := Aside0.mk (blk_below (g := gb334) (o := .cells #[.int .i64 t321, .int .i64 t322, .int .i64 t323, .int .i64 t324, .int .i64 t325, .int .i64 t326, .int .i64 t327, .int .i64 t328, .int .i64 t329, .int .i64 t330, .int .i64 t331, .int .i64 t332, .int .i64 t333] 44 (0, 0)) z9_42 hb)
         have n2_ := Aside0.mk (blk_below (g := gb344) (o := .cells #[.int .i64 t340, .int .i64 t341, .int .i64 t342, .int .i64 t343] 27 (0, 0)) z9_44 hb)
         have n3_ := Aside0.mk (below_step z9_43 hb)
         clear HO337; clear BK334; clear BK344; clear HB; have HO337 := n0_; have BK334 := n1_; have BK344 := n2_; have HB := n3_; clear n0_ n1_ n2_ n3_; (try clear hb); (try clear hb2); (try clear hk); (try clear hi)
         refine hK.out _ _ ⟨(blk_cell BK334.out 0).trans rfl, (blk_cell BK334.out 1).trans rfl, (blk_cell BK334.out 2).trans rfl, (blk_cell BK334.out 3).trans rfl, (blk_cell BK334.out 4).trans rfl, (blk_cell BK334.out 5).trans rfl, (blk_cell BK334.out 6).trans rfl, (blk_cell BK334.out 7).trans rfl, (blk_cell BK334.out 8).trans rfl, (blk_cell BK334.out 9).trans rfl, (blk_cell BK334.out 10).trans rfl, (blk_cell BK334.out 11).trans rfl, (blk_cell BK334.out 12).trans rfl, (blk_cell BK344.out 0).trans rfl, (blk_cell BK344.out 1).trans rfl, (blk_cell BK344.out 2).trans rfl, (blk_cell BK344.out 3).trans rfl⟩ (fun hHeld => ?_)
         clear hK K
         refine norm_ (a' := ?_) ?_ ?_
         rotate_left
         ·show Act.put _ (some 32) _ = _
          simp only [Act.put, List.setIfInBounds_toArray, List.set_cons_zero, List.set_cons_succ, i64_w, i32_w]
          rfl
         refine pure_ (i := 2) (N := some 33) (v := ?_) (a' := ?_) y9_15 rfl rfl (any_of HT_.out (by kernel_rfl)) (fun _ _ _ h => h) (Or.inl ⟨by rfl, ?_⟩) ?_ ?_; rotate_left
         ·intro w'
          go_simp; with_reducible rfl
         rotate_left
         ·exact x9_put
         refine pure_ (i := 3) (N := some 34) (v := ?_) (a' := ?_) y9_18 rfl rfl (any_of HT_.out (by kernel_rfl)) (fun _ _ _ h => h) (Or.inl ⟨by rfl, ?_⟩) ?_ ?_; rotate_left
         ·intro w'
          go_simp; with_reducible rfl
         rotate_left
         ·exact x9_put
         refine pure_ (i := 4) (N := some 35) (v := ?_) (a' := ?_) y9_21 rfl rfl (any_of HT_.out (by kernel_rfl)) (fun _ _ _ h => h) (Or.inl ⟨by rfl, ?_⟩) ?_ ?_; rotate_left
         ·intro w'
          go_simp; with_reducible rfl
         rotate_left
         ·exact x9_put
         refine pure_ (i := 6) (N := some 37) (v := ?_) (a' := ?_) y9_24 rfl rfl (any_of HT_.out (by kernel_rfl)) (fun _ _ _ h => h) (Or.inl ⟨by rfl, ?_⟩) ?_ ?_; rotate_left
         ·intro w'
          go_simp; with_reducible rfl
         rotate_left
         ·exact x9_put
         refine take_ (i := 5) (N := some 36) (v := ?_) (a' := ?_) y9_29 rfl rfl (take_ofW HT_.out HW_.out (by kernel_rfl)) (fun _ _ _ h => h) (Or.inl ⟨by rfl, ?_⟩) hHeld ?_ ?_
         rotate_left
         ·rintro w' ⟨s0, s1, s2, s3, s4, s5, s6, s7, s8, s9, s10, s11, s12, s13, s14, s15, s16⟩
          go_simp; with_reducible rfl
         rotate_left
         ·exact x9_put
         refine take_ (i := 7) (N := some 38) (v := ?_) (a' := ?_) y9_34 rfl rfl (take_ofW HT_.out HW_.out (by kernel_rfl)) (fun _ _ _ h => h) (Or.inl ⟨by rfl, ?_⟩) hHeld ?_ ?_
         rotate_left
         ·rintro w' ⟨s0, s1, s2, s3, s4, s5, s6, s7, s8, s9, s10, s11, s12, s13, s14, s15, s16⟩
          go_simp; with_reducible rfl
         rotate_left
         ·exact x9_put
         refine pure_ (i := 8) (N := some 39) (v := ?_) (a' := ?_) y9_38 rfl rfl (any_of HT_.out (by kernel_rfl)) (fun _ _ _ h => h) (Or.inl ⟨by rfl, ?_⟩) ?_ ?_; rotate_left
         ·intro w'
          go_simp; with_reducible rfl
         rotate_left
         ·exact x9_put
         refine pure_ (i := 9) (N := some 40) (v := ?_) (a' := ?_) y9_40 rfl rfl (any_of HT_.out (by kernel_rfl)) (fun _ _ _ h => h) (Or.inl ⟨by rfl, ?_⟩) ?_ ?_; rotate_left
         ·intro w'
          go_simp; with_reducible rfl
         rotate_left
         ·exact x9_put
         refine pure_ (i := 10) (N := some 41) (v := ?_) (a' := ?_) y9_41 rfl rfl (any_of HT_.out (by kernel_rfl)) (fun _ _ _ h => h) (Or.inl ⟨by rfl, ?_⟩) ?_ ?_; rotate_left
         ·intro w'
          go_simp; with_reducible rfl
         rotate_left
         ·exact x9_put
         refine pure_ (i := 11) (N := some 42) (v := ?_) (a' := ?_) y9_43 rfl rfl (any_of HT_.out (by kernel_rfl)) (fun _ _ _ h => h) (Or.inl ⟨by rfl, ?_⟩) ?_ ?_; rotate_left
         ·intro w'
          go_simp; with_reducible rfl
         rotate_left
         ·exact x9_put
         refine pure_ (i := 13) (N := some 44) (v := ?_) (a' := ?_) y9_45 rfl rfl (any_of HT_.out (by kernel_rfl)) (fun _ _ _ h => h) (Or.inl ⟨by rfl, ?_⟩) ?_ ?_; rotate_left
         ·intro w'
          go_simp; with_reducible rfl
         rotate_left
         ·exact x9_put
         refine take_ (i := 12) (N := some 43) (v := ?_) (a' := ?_) y9_48 rfl rfl (take_ofW HT_.out HW_.out (by kernel_rfl)) (fun _ _ _ h => h) (Or.inl ⟨by rfl, ?_⟩) hHeld ?_ ?_
         rotate_left
         ·rintro w' ⟨s0, s1, s2, s3, s4, s5, s6, s7, s8, s9, s10, s11, s12, s13, s14, s15, s16⟩
          go_simp; with_reducible rfl
         rotate_left
         ·exact x9_put
         refine take_ (i := 14) (N := some 45) (v := ?_) (a' := ?_) y9_50 rfl rfl (take_ofW HT_.out HW_.out (by kernel_rfl)) (fun _ _ _ h => h) (Or.inl ⟨by rfl, ?_⟩) hHeld ?_ ?_
         rotate_left
         ·rintro w' ⟨s0, s1, s2, s3, s4, s5, s6, s7, s8, s9, s10, s11, s12, s13, s14, s15, s16⟩
          go_simp; with_reducible rfl
         rotate_left
         ·exact x9_put
         refine pure_ (i := 15) (N := some 46) (v := ?_) (a' := ?_) y9_53 rfl rfl (any_of HT_.out (by kernel_rfl)) (fun _ _ _ h => h) (Or.inl ⟨by rfl, ?_⟩) ?_ ?_; rotate_left
         ·intro w'
          go_simp; with_reducible rfl
         rotate_left
         ·exact x9_put
         refine pure_ (i := 16) (N := some 47) (v := ?_) (a' := ?_) y9_56 rfl rfl (any_of HT_.out (by kernel_rfl)) (fun _ _ _ h => h) (Or.inl ⟨by rfl, ?_⟩) ?_ ?_; rotate_left
         ·intro w'
          go_simp; with_reducible rfl
         rotate_left
         ·exact x9_put
         refine pure_ (i := 17) (N := some 48) (v := ?_) (a' := ?_) y9_57 rfl rfl (any_of HT_.out (by kernel_rfl)) (fun _ _ _ h => h) (Or.inl ⟨by rfl, ?_⟩) ?_ ?_; rotate_left
         ·intro w'
          go_simp; with_reducible rfl
         rotate_left
         ·exact x9_put
         refine pure_ (i := 18) (N := some 49) (v := ?_) (a' := ?_) y9_58 rfl rfl (any_of HT_.out (by kernel_rfl)) (fun _ _ _ h => h) (Or.inl ⟨by rfl, ?_⟩) ?_ ?_; rotate_left
         ·intro w'
          go_simp; with_reducible rfl
         rotate_left
         ·exact x9_put
         refine pure_ (i := 20) (N := some 51) (v := ?_) (a' := ?_) y9_60 rfl rfl (any_of HT_.out (by kernel_rfl)) (fun _ _ _ h => h) (Or.inl ⟨by rfl, ?_⟩) ?_ ?_; rotate_left
         ·intro w'
          go_simp; with_reducible rfl
         rotate_left
         ·exact x9_put
         refine take_ (i := 19) (N := some 50) (v := ?_) (a' := ?_) y9_63 rfl rfl (take_ofW HT_.out HW_.out (by kernel_rfl)) (fun _ _ _ h => h) (Or.inl ⟨by rfl, ?_⟩) hHeld ?_ ?_
         rotate_left
         ·rintro w' ⟨s0, s1, s2, s3, s4, s5, s6, s7, s8, s9, s10, s11, s12, s13, s14, s15, s16⟩
          go_simp; with_reducible rfl
         rotate_left
         ·exact x9_put
         refine take_ (i := 21) (N := some 52) (v := ?_) (a' := ?_) y9_65 rfl rfl (take_ofW HT_.out HW_.out (by kernel_rfl)) (fun _ _ _ h => h) (Or.inl ⟨by rfl, ?_⟩) hHeld ?_ ?_
         rotate_left
         ·rintro w' ⟨s0, s1, s2, s3, s4, s5, s6, s7, s8, s9, s10, s11, s12, s13, s14, s15, s16⟩
          go_simp; with_reducible rfl
         rotate_left
         ·exact x9_put
         refine pure_ (i := 22) (N := some 53) (v := ?_) (a' := ?_) y9_67 rfl rfl (any_of HT_.out (by kernel_rfl)) (fun _ _ _ h => h) (Or.inl ⟨by rfl, ?_⟩) ?_ ?_; rotate_left
         ·intro w'
          go_simp; with_reducible rfl
         rotate_left
         ·exact x9_put
         refine pure_ (i := 23) (N := some 54) (v := ?_) (a' := ?_) y9_70 rfl rfl (any_of HT_.out (by kernel_rfl)) (fun _ _ _ h => h) (Or.inl ⟨by rfl, ?_⟩) ?_ ?_; rotate_left
         ·intro w'
          go_simp; with_reducible rfl
         rotate_left
         ·exact x9_put
         refine pure_ (i := 24) (N := some 55) (v := ?_) (a' := ?_) y9_73 rfl rfl (any_of HT_.out (by kernel_rfl)) (fun _ _ _ h => h) (Or.inl ⟨by rfl, ?_⟩) ?_ ?_; rotate_left
         ·intro w'
          go_simp; with_reducible rfl
         rotate_left
         ·exact x9_put
         refine pure_ (i := 25) (N := some 56) (v := undef) (a' := ?_) y9_74 rfl rfl (any_of HT_.out (by kernel_rfl)) (fun _ _ _ h => h) (Or.inr ⟨by rfl, rfl⟩) ?_ ?_; rotate_left
         ·exact x9_put
         refine pure_ (i := 26) (N := some 57) (v := undef) (a' := ?_) y9_75 rfl rfl (any_of HT_.out (by kernel_rfl)) (fun _ _ _ h => h) (Or.inr ⟨by rfl, rfl⟩) ?_ ?_; rotate_left
         ·exact x9_put
         refine pure_ (i := 27) (N := some 58) (v := undef) (a' := ?_) y9_77 rfl rfl (any_of HT_.out (by kernel_rfl)) (fun _ _ _ h => h) (Or.inr ⟨by rfl, rfl⟩) ?_ ?_; rotate_left
         ·exact x9_put
         refine pure_ (i := 28) (N := some 59) (v := ?_) (a' := ?_) y9_79 rfl rfl (any_of HT_.out (by kernel_rfl)) (fun _ _ _ h => h) (Or.inl ⟨by rfl, ?_⟩) ?_ ?_; rotate_left
         ·intro w'
          go_simp; with_reducible rfl
         rotate_left
         ·exact x9_put
         refine pure_ (i := 29) (N := some 60) (v := ?_) (a' := ?_) y9_81 rfl rfl (any_of HT_.out (by kernel_rfl)) (fun _ _ _ h => h) (Or.inl ⟨by rfl, ?_⟩) ?_ ?_; rotate_left
         ·intro w'
          go_simp; with_reducible rfl
         rotate_left
         ·exact x9_put
         refine pure_ (i := 30) (N := some 61) (v := undef) (a' := ?_) y9_85 rfl rfl (any_of HT_.out (by kernel_rfl)) (fun _ _ _ h => h) (Or.inr ⟨by rfl, rfl⟩) ?_ ?_; rotate_left
         ·exact x9_put
         refine pure_ (i := 31) (N := some 62) (v := undef) (a' := ?_) y9_87 rfl rfl (any_of HT_.out (by kernel_rfl)) (fun _ _ _ h => h) (Or.inr ⟨by rfl, rfl⟩) ?_ ?_; rotate_left
         ·exact x9_put
         refine pure_ (i := 32) (N := some 63) (v := undef) (a' := ?_) y9_88 rfl rfl (any_of HT_.out (by kernel_rfl)) (fun _ _ _ h => h) (Or.inr ⟨by rfl, rfl⟩) ?_ ?_; rotate_left
         ·exact x9_put
         refine pure_ (i := 33) (N := some 64) (v := undef) (a' := ?_) y9_89 rfl rfl (any_of HT_.out (by kernel_rfl)) (fun _ _ _ h => h) (Or.inr ⟨by rfl, rfl⟩) ?_ ?_; rotate_left
         ·exact x9_put
         refine pure_ (i := 34) (N := some 65) (v := undef) (a' := ?_) y9_90 rfl rfl (any_of HT_.out (by kernel_rfl)) (fun _ _ _ h => h) (Or.inr ⟨by rfl, rfl⟩) ?_ ?_; rotate_left
         ·exact x9_put
         refine pure_ (i := 35) (N := some 66) (v := undef) (a' := ?_) y9_91 rfl rfl (any_of HT_.out (by kernel_rfl)) (fun _ _ _ h => h) (Or.inr ⟨by rfl, rfl⟩) ?_ ?_; rotate_left
         ·exact x9_put
         refine pure_ (i := 36) (N := some 67) (v := ?_) (a' := ?_) y9_92 rfl rfl (any_of HT_.out (by kernel_rfl)) (fun _ _ _ h => h) (Or.inl ⟨by rfl, ?_⟩) ?_ ?_; rotate_left
         ·intro w'
          go_simp; with_reducible rfl
         rotate_left
         ·exact x9_put
         refine done_ (done_of HT_.out (by kernel_rfl)) ?_
         try go_wp2
         go_meet
         case rel => exact ⟨_, (true), (by first | rfl | (simp; done) | (simp [*]; done)), H', ⟨by first | omega | exact Nat.le_refl _⟩, ⟨by (with_reducible repeat (first | refine blk_drewN ?_ _ | refine blk_drew ?_ | refine blk_alloc ?_ _)); exact BK334.out⟩, ⟨by (with_reducible repeat (first | refine blk_drewN ?_ _ | refine blk_drew ?_ | refine blk_alloc ?_ _)); exact BK344.out⟩, ⟨by repeat (first | (with_reducible first | exact HB.out | apply below_alloc | apply pw_below_drewN | apply below_drew1 | refine below_set ?_ GE334.out | refine below_set ?_ GE344.out) | exact HB.out)⟩⟩
        ·rw [if_neg c30] at H
         have c30b0 : decide (t343 < t342) = false := decide_eq_false c30
         clear c30
         replace H := Option.bind_eq_some_iff.mp H
         obtain ⟨t346, A340, H⟩ := H
         replace H : (if t346 = true then ((spec_ColorAt.f k t321 t322 t323 t324 t325 t326 t327 t328 t329 t330 t331 t332 t333 (wrap64 ((Int.tmod (rd t335 0) 14) - 1)) (wrap64 ((Int.tmod (rd t335 1) 14) - 1))).bind fun bt347 => (laws_FnPaints.j0 k (wrap64 ((Int.tmod (rd t335 0) 14) - 1)) (wrap64 ((Int.tmod (rd t335 1) 14) - 1)) (!(t340 == bt347.1) || (!(t341 == bt347.2.1) || (!(t342 == bt347.2.2.1) || (!(t343 == bt347.2.2.2))))) t321 t322 t323 t324 t325 t326 t327 t328 t329 t330 t331 t332 t333 t340 t341 t342 t343)) else (laws_FnPaints.j0 k (wrap64 ((Int.tmod (rd t335 0) 14) - 1)) (wrap64 ((Int.tmod (rd t335 1) 14) - 1)) true t321 t322 t323 t324 t325 t326 t327 t328 t329 t330 t331 t332 t333 t340 t341 t342 t343)) = some r := H
         have A34 := Aside0.mk A340
         clear A340
         by_cases c35 : t346 = true
         ·subst c35
          have H1 : ((spec_ColorAt.f k t321 t322 t323 t324 t325 t326 t327 t328 t329 t330 t331 t332 t333 (wrap64 ((Int.tmod (rd t335 0) 14) - 1)) (wrap64 ((Int.tmod (rd t335 1) 14) - 1))).bind fun bt347 => (laws_FnPaints.j0 k (wrap64 ((Int.tmod (rd t335 0) 14) - 1)) (wrap64 ((Int.tmod (rd t335 1) 14) - 1)) (!(t340 == bt347.1) || (!(t341 == bt347.2.1) || (!(t342 == bt347.2.2.1) || (!(t343 == bt347.2.2.2))))) t321 t322 t323 t324 t325 t326 t327 t328 t329 t330 t331 t332 t333 t340 t341 t342 t343)) = some r := by rw [if_pos rfl] at H; exact H
          clear H; have H := H1; clear H1
          replace H := Option.bind_eq_some_iff.mp H
          obtain ⟨⟨t347, t348, t349, t350⟩, A360, H⟩ := H
          replace H : (laws_FnPaints.j0 k (wrap64 ((Int.tmod (rd t335 0) 14) - 1)) (wrap64 ((Int.tmod (rd t335 1) 14) - 1)) (!(t340 == t347) || (!(t341 == t348) || (!(t342 == t349) || (!(t343 == t350))))) t321 t322 t323 t324 t325 t326 t327 t328 t329 t330 t331 t332 t333 t340 t341 t342 t343) = some r := H
          have A36 := Aside0.mk A360
          clear A360
          have H' := Aside0.mk H
          clear H
          try go_wp2
          have n0_ : Aside0 (Kd.R (Kd.int .i64) 3 ((((w17.setCell ⟨gb344, 0, none⟩ (.int .i64 t340)).setCell ⟨gb344, 1, none⟩ (.int .i64 t341)).setCell ⟨gb344, 2, none⟩ (.int .i64 t342)).setCell ⟨gb344, 3, none⟩ (.int .i64 t343)) w.heap.size (fun _ => True) (.slice (some ad338) t335.length co14) t335) := ⟨by (with_reducible repeat (first | apply Kd.R_alloc | apply Kd.R_drewN | apply Kd.R_drew)); exact Kd.R_mono (Kd.R_far (p := ⟨gb344, 3, none⟩) (Kd.R_far (p := ⟨gb344, 2, none⟩) (Kd.R_far (p := ⟨gb344, 1, none⟩) (Kd.R_far (p := ⟨gb344, 0, none⟩) (Kd.R_types HO337.out BK344.out (by decide)) (fun _ hk => hk.2) (.int .i64 t340)) (fun _ hk => hk.2) (.int .i64 t341)) (fun _ hk => hk.2) (.int .i64 t342)) (fun _ hk => hk.2) (.int .i64 t343)) (fun _ hk => trivial)⟩
          have n1_ : Aside0 (((((w17.setCell ⟨gb344, 0, none⟩ (.int .i64 t340)).setCell ⟨gb344, 1, none⟩ (.int .i64 t341)).setCell ⟨gb344, 2, none⟩ (.int .i64 t342)).setCell ⟨gb344, 3, none⟩ (.int .i64 t343)).heap[gb334]? = some (.cells #[.int .i64 t321, .int .i64 t322, .int .i64 t323, .int .i64 t324, .int .i64 t325, .int .i64 t326, .int .i64 t327, .int .i64 t328, .int .i64 t329, .int .i64 t330, .int .i64 t331, .int .i64 t332, .int .i64 t333] 44 (0, 0))) := ⟨by (with_reducible repeat (first | refine blk_drewN ?_ _ | refine blk_drew ?_ | refine blk_alloc ?_ _)); refine blk_far ?_ NB334_344.out _; (with_reducible repeat (first | refine blk_drewN ?_ _ | refine blk_drew ?_ | refine blk_alloc ?_ _)); refine blk_far ?_ NB334_344.out _; (with_reducible repeat (first | refine blk_drewN ?_ _ | refine blk_drew ?_ | refine blk_alloc ?_ _)); refine blk_far ?_ NB334_344.out _; (with_reducible repeat (first | refine blk_drewN ?_ _ | refine blk_drew ?_ | refine blk_alloc ?_ _)); refine blk_far ?_ NB334_344.out _; (with_reducible repeat (first | refine blk_drewN ?_ _ | refine blk_drew ?_ | refine blk_alloc ?_ _)); exact BK334.out⟩
          have n2_ : Aside0 (((((w17.setCell ⟨gb344, 0, none⟩ (.int .i64 t340)).setCell ⟨gb344, 1, none⟩ (.int .i64 t341)).setCell ⟨gb344, 2, none⟩ (.int .i64 t342)).setCell ⟨gb344, 3, none⟩ (.int .i64 t343)).heap[gb344]? = some (.cells #[.int .i64 t340, .int .i64 t341, .int .i64 t342, .int .i64 t343] 27 (0, 0))) := ⟨by (with_reducible repeat (first | refine blk_drewN ?_ _ | refine blk_drew ?_ | refine blk_alloc ?_ _)); refine blk_put (cs := #[.int .i64 t340, .int .i64 t341, .int .i64 t342, .int .i64 0]) ?_ 3 _ rfl; (with_reducible repeat (first | refine blk_drewN ?_ _ | refine blk_drew ?_ | refine blk_alloc ?_ _)); refine blk_put (cs := #[.int .i64 t340, .int .i64 t341, .int .i64 0, .int .i64 0]) ?_ 2 _ rfl; (with_reducible repeat (first | refine blk_drewN ?_ _ | refine blk_drew ?_ | refine blk_alloc ?_ _)); refine blk_put (cs := #[.int .i64 t340, .int .i64 0, .int .i64 0, .int .i64 0]) ?_ 1 _ rfl; (with_reducible repeat (first | refine blk_drewN ?_ _ | refine blk_drew ?_ | refine blk_alloc ?_ _)); refine blk_put (cs := #[.int .i64 0, .int .i64 0, .int .i64 0, .int .i64 0]) ?_ 0 _ rfl; (with_reducible repeat (first | refine blk_drewN ?_ _ | refine blk_drew ?_ | refine blk_alloc ?_ _)); exact BK344.out⟩
          have n3_ : Aside0 (Below w.heap.size w ((((w17.setCell ⟨gb344, 0, none⟩ (.int .i64 t340)).setCell ⟨gb344, 1, none⟩ (.int .i64 t341)).setCell ⟨gb344, 2, none⟩ (.int .i64 t342)).setCell ⟨gb344, 3, none⟩ (.int .i64 t343))) := ⟨by repeat (first | (with_reducible first | exact HB.out | apply below_alloc | apply pw_below_drewN | apply below_drew1 | refine below_set ?_ GE334.out | refine below_set ?_ GE344.out) | exact HB.out)⟩
          (try clear HO337); (try clear BK334); (try clear BK344); (try clear HB)
          generalize ((((w17.setCell ⟨gb344, 0, none⟩ (.int .i64 t340)).setCell ⟨gb344, 1, none⟩ (.int .i64 t341)).setCell ⟨gb344, 2, none⟩ (.int .i64 t342)).setCell ⟨gb344, 3, none⟩ (.int .i64 t343)) = w37 at n0_ n1_ n2_ n3_ ⊢
          have HO337 := n0_; have BK334 := n1_; have BK344 := n2_; have HB := n3_; clear n0_ n1_ n2_ n3_
          have n0_ := Aside0.mk (Kd.R_drew HO337.out)
          have n1_ := Aside0.mk (blk_drew BK334.out)
          have n2_ := Aside0.mk (blk_drew BK344.out)
          have n3_ := Aside0.mk (below_drew1 HB.out)
          clear HO337; clear BK334; clear BK344; clear HB; have HO337 := n0_; have BK334 := n1_; have BK344 := n2_; have HB := n3_; clear n0_ n1_ n2_ n3_
          refine start_ (n := 37) (S := fun w' => w'.cell? ⟨gb334, 0, none⟩ = some (.int .i64 t321) ∧ w'.cell? ⟨gb334, 1, none⟩ = some (.int .i64 t322) ∧ w'.cell? ⟨gb334, 2, none⟩ = some (.int .i64 t323) ∧ w'.cell? ⟨gb334, 3, none⟩ = some (.int .i64 t324) ∧ w'.cell? ⟨gb334, 4, none⟩ = some (.int .i64 t325) ∧ w'.cell? ⟨gb334, 5, none⟩ = some (.int .i64 t326) ∧ w'.cell? ⟨gb334, 6, none⟩ = some (.int .i64 t327) ∧ w'.cell? ⟨gb334, 7, none⟩ = some (.int .i64 t328) ∧ w'.cell? ⟨gb334, 8, none⟩ = some (.int .i64 t329) ∧ w'.cell? ⟨gb334, 9, none⟩ = some (.int .i64 t330) ∧ w'.cell? ⟨gb334, 10, none⟩ = some (.int .i64 t331) ∧ w'.cell? ⟨gb334, 11, none⟩ = some (.int .i64 t332) ∧ w'.cell? ⟨gb334, 12, none⟩ = some (.int .i64 t333) ∧ w'.cell? ⟨gb344, 0, none⟩ = some (.int .i64 t340) ∧ w'.cell? ⟨gb344, 1, none⟩ = some (.int .i64 t341) ∧ w'.cell? ⟨gb344, 2, none⟩ = some (.int .i64 t342) ∧ w'.cell? ⟨gb344, 3, none⟩ = some (.int .i64 t343)) (ds := []) y9_0 (by kernel_rfl) rfl rfl ⟨(blk_cell BK334.out 0).trans rfl, (blk_cell BK334.out 1).trans rfl, (blk_cell BK334.out 2).trans rfl, (blk_cell BK334.out 3).trans rfl, (blk_cell BK334.out 4).trans rfl, (blk_cell BK334.out 5).trans rfl, (blk_cell BK334.out 6).trans rfl, (blk_cell BK334.out 7).trans rfl, (blk_cell BK334.out 8).trans rfl, (blk_cell BK334.out 9).trans rfl, (blk_cell BK334.out 10).trans rfl, (blk_cell BK334.out 11).trans rfl, (blk_cell BK334.out 12).trans rfl, (blk_cell BK344.out 0).trans rfl, (blk_cell BK344.out 1).trans rfl, (blk_cell BK344.out 2).trans rfl, (blk_cell BK344.out 3).trans rfl⟩ (fun hHeld => ?_); refine with_tabW laws_FnPaints.tab8 laws_FnPaints.bits8 (fun HT_ HW_ => ?_)
          generalize w37.drew = w38 at HO337 BK334 BK344 HB hHeld ⊢
          refine take_ (i := 0) (N := some 31) (v := ?_) (a' := ?_) y9_8 rfl rfl (take_ofW HT_.out HW_.out (by kernel_rfl)) (fun _ _ _ h => h) (Or.inl ⟨by rfl, ?_⟩) hHeld ?_ ?_
          rotate_left
          ·rintro w' ⟨s0, s1, s2, s3, s4, s5, s6, s7, s8, s9, s10, s11, s12, s13, s14, s15, s16⟩
           go_simp; with_reducible rfl
          rotate_left
          ·exact x9_put
          refine one_ (i := 1) (N := some 32) y9_10 rfl rfl (one_of HT_.out (by kernel_rfl)) (by decide) (fun K hK => ?_)
          refine goes_ Try.func59 (by kernel_rfl) rfl #[.agg #[.int .i64 t321, .int .i64 t322, .int .i64 t323, .int .i64 t324, .int .i64 t325, .int .i64 t326, .int .i64 t327, .int .i64 t328, .int .i64 t329, .int .i64 t330, .int .i64 t331, .int .i64 t332, .int .i64 t333]] (by rfl) rfl rfl z9_41 ?_
          with_reducible refine (impl_PaintOk.calls t321 t322 t323 t324 t325 t326 t327 t328 t329 t330 t331 t332 t333 true _ A20.out).mono ?_
          rintro e w39 ⟨rfl, hb⟩
          refine ⟨_, rfl, ?_⟩
          have n0_ := Aside0.mk (Kd.R_below z9_46 hb)
          have n1_ := Aside0.mk (blk_below (g := gb334) (o := .cells #[.int .i64 t321, .int .i64 t322, .int .i64 t323, .int .i64 t324, .int .i64 t325, .int .i64 t326, .int .i64 t327, .int .i64 t328, .int .i64 t329, .int .i64 t330, .int .i64 t331, .int .i64 t332, .int .i64 t333] 44 (0, 0)) z9_42 hb)
          have n2_ := Aside0.mk (blk_below (g := gb344) (o := .cells #[.int .i64 t340, .int .i64 t341, .int .i64 t342, .int .i64 t343] 27 (0, 0)) z9_44 hb)
          have n3_ := Aside0.mk (below_step z9_43 hb)
          clear HO337; clear BK334; clear BK344; clear HB; have HO337 := n0_; have BK334 := n1_; have BK344 := n2_; have HB := n3_; clear n0_ n1_ n2_ n3_; (try clear hb); (try clear hb2); (try clear hk); (try clear hi)
          refine hK.out _ _ ⟨(blk_cell BK334.out 0).trans rfl, (blk_cell BK334.out 1).trans rfl, (blk_cell BK334.out 2).trans rfl, (blk_cell BK334.out 3).trans rfl, (blk_cell BK334.out 4).trans rfl, (blk_cell BK334.out 5).trans rfl, (blk_cell BK334.out 6).trans rfl, (blk_cell BK334.out 7).trans rfl, (blk_cell BK334.out 8).trans rfl, (blk_cell BK334.out 9).trans rfl, (blk_cell BK334.out 10).trans rfl, (blk_cell BK334.out 11).trans rfl, (blk_cell BK334.out 12).trans rfl, (blk_cell BK344.out 0).trans rfl, (blk_cell BK344.out 1).trans rfl, (blk_cell BK344.out 2).trans rfl, (blk_cell BK344.out 3).trans rfl⟩ (fun hHeld => ?_)
          clear hK K
          refine norm_ (a' := ?_) ?_ ?_
          rotate_left
          ·show Act.put _ (some 32) _ = _
           simp only [Act.put, List.setIfInBounds_toArray, List.set_cons_zero, List.set_cons_succ, i64_w, i32_w]
           rfl
          refine pure_ (i := 2) (N := some 33) (v := ?_) (a' := ?_) y9_15 rfl rfl (any_of HT_.out (by kernel_rfl)) (fun _ _ _ h => h) (Or.inl ⟨by rfl, ?_⟩) ?_ ?_; rotate_left
          ·intro w'
           go_simp; with_reducible rfl
          rotate_left
          ·exact x9_put
          refine pure_ (i := 3) (N := some 34) (v := ?_) (a' := ?_) y9_18 rfl rfl (any_of HT_.out (by kernel_rfl)) (fun _ _ _ h => h) (Or.inl ⟨by rfl, ?_⟩) ?_ ?_; rotate_left
          ·intro w'
           go_simp; with_reducible rfl
          rotate_left
          ·exact x9_put
          refine pure_ (i := 4) (N := some 35) (v := ?_) (a' := ?_) y9_21 rfl rfl (any_of HT_.out (by kernel_rfl)) (fun _ _ _ h => h) (Or.inl ⟨by rfl, ?_⟩) ?_ ?_; rotate_left
          ·intro w'
           go_simp; with_reducible rfl
          rotate_left
          ·exact x9_put
          refine pure_ (i := 6) (N := some 37) (v := ?_) (a' := ?_) y9_24 rfl rfl (any_of HT_.out (by kernel_rfl)) (fun _ _ _ h => h) (Or.inl ⟨by rfl, ?_⟩) ?_ ?_; rotate_left
          ·intro w'
           go_simp; with_reducible rfl
          rotate_left
          ·exact x9_put
          refine take_ (i := 5) (N := some 36) (v := ?_) (a' := ?_) y9_29 rfl rfl (take_ofW HT_.out HW_.out (by kernel_rfl)) (fun _ _ _ h => h) (Or.inl ⟨by rfl, ?_⟩) hHeld ?_ ?_
          rotate_left
          ·rintro w' ⟨s0, s1, s2, s3, s4, s5, s6, s7, s8, s9, s10, s11, s12, s13, s14, s15, s16⟩
           go_simp; with_reducible rfl
          rotate_left
          ·exact x9_put
          refine take_ (i := 7) (N := some 38) (v := ?_) (a' := ?_) y9_34 rfl rfl (take_ofW HT_.out HW_.out (by kernel_rfl)) (fun _ _ _ h => h) (Or.inl ⟨by rfl, ?_⟩) hHeld ?_ ?_
          rotate_left
          ·rintro w' ⟨s0, s1, s2, s3, s4, s5, s6, s7, s8, s9, s10, s11, s12, s13, s14, s15, s16⟩
           go_simp; with_reducible rfl
          rotate_left
          ·exact x9_put
          refine pure_ (i := 8) (N := some 39) (v := ?_) (a' := ?_) y9_38 rfl rfl (any_of HT_.out (by kernel_rfl)) (fun _ _ _ h => h) (Or.inl ⟨by rfl, ?_⟩) ?_ ?_; rotate_left
          ·intro w'
           go_simp; with_reducible rfl
          rotate_left
          ·exact x9_put
          refine pure_ (i := 9) (N := some 40) (v := ?_) (a' := ?_) y9_40 rfl rfl (any_of HT_.out (by kernel_rfl)) (fun _ _ _ h => h) (Or.inl ⟨by rfl, ?_⟩) ?_ ?_; rotate_left
          ·intro w'
           go_simp; with_reducible rfl
          rotate_left
          ·exact x9_put
          refine pure_ (i := 10) (N := some 41) (v := ?_) (a' := ?_) y9_41 rfl rfl (any_of HT_.out (by kernel_rfl)) (fun _ _ _ h => h) (Or.inl ⟨by rfl, ?_⟩) ?_ ?_; rotate_left
          ·intro w'
           go_simp; with_reducible rfl
          rotate_left
          ·exact x9_put
          refine pure_ (i := 11) (N := some 42) (v := ?_) (a' := ?_) y9_43 rfl rfl (any_of HT_.out (by kernel_rfl)) (fun _ _ _ h => h) (Or.inl ⟨by rfl, ?_⟩) ?_ ?_; rotate_left
          ·intro w'
           go_simp; with_reducible rfl
          rotate_left
          ·exact x9_put
          refine pure_ (i := 13) (N := some 44) (v := ?_) (a' := ?_) y9_45 rfl rfl (any_of HT_.out (by kernel_rfl)) (fun _ _ _ h => h) (Or.inl ⟨by rfl, ?_⟩) ?_ ?_; rotate_left
          ·intro w'
           go_simp; with_reducible rfl
          rotate_left
          ·exact x9_put
          refine take_ (i := 12) (N := some 43) (v := ?_) (a' := ?_) y9_48 rfl rfl (take_ofW HT_.out HW_.out (by kernel_rfl)) (fun _ _ _ h => h) (Or.inl ⟨by rfl, ?_⟩) hHeld ?_ ?_
          rotate_left
          ·rintro w' ⟨s0, s1, s2, s3, s4, s5, s6, s7, s8, s9, s10, s11, s12, s13, s14, s15, s16⟩
           go_simp; with_reducible rfl
          rotate_left
          ·exact x9_put
          refine take_ (i := 14) (N := some 45) (v := ?_) (a' := ?_) y9_50 rfl rfl (take_ofW HT_.out HW_.out (by kernel_rfl)) (fun _ _ _ h => h) (Or.inl ⟨by rfl, ?_⟩) hHeld ?_ ?_
          rotate_left
          ·rintro w' ⟨s0, s1, s2, s3, s4, s5, s6, s7, s8, s9, s10, s11, s12, s13, s14, s15, s16⟩
           go_simp; with_reducible rfl
          rotate_left
          ·exact x9_put
          refine pure_ (i := 15) (N := some 46) (v := ?_) (a' := ?_) y9_53 rfl rfl (any_of HT_.out (by kernel_rfl)) (fun _ _ _ h => h) (Or.inl ⟨by rfl, ?_⟩) ?_ ?_; rotate_left
          ·intro w'
           go_simp; with_reducible rfl
          rotate_left
          ·exact x9_put
          refine pure_ (i := 16) (N := some 47) (v := ?_) (a' := ?_) y9_56 rfl rfl (any_of HT_.out (by kernel_rfl)) (fun _ _ _ h => h) (Or.inl ⟨by rfl, ?_⟩) ?_ ?_; rotate_left
          ·intro w'
           go_simp; with_reducible rfl
          rotate_left
          ·exact x9_put
          refine pure_ (i := 17) (N := some 48) (v := ?_) (a' := ?_) y9_57 rfl rfl (any_of HT_.out (by kernel_rfl)) (fun _ _ _ h => h) (Or.inl ⟨by rfl, ?_⟩) ?_ ?_; rotate_left
          ·intro w'
           go_simp; with_reducible rfl
          rotate_left
          ·exact x9_put
          refine pure_ (i := 18) (N := some 49) (v := ?_) (a' := ?_) y9_58 rfl rfl (any_of HT_.out (by kernel_rfl)) (fun _ _ _ h => h) (Or.inl ⟨by rfl, ?_⟩) ?_ ?_; rotate_left
          ·intro w'
           go_simp; with_reducible rfl
          rotate_left
          ·exact x9_put
          refine pure_ (i := 20) (N := some 51) (v := ?_) (a' := ?_) y9_60 rfl rfl (any_of HT_.out (by kernel_rfl)) (fun _ _ _ h => h) (Or.inl ⟨by rfl, ?_⟩) ?_ ?_; rotate_left
          ·intro w'
           go_simp; with_reducible rfl
          rotate_left
          ·exact x9_put
          refine take_ (i := 19) (N := some 50) (v := ?_) (a' := ?_) y9_63 rfl rfl (take_ofW HT_.out HW_.out (by kernel_rfl)) (fun _ _ _ h => h) (Or.inl ⟨by rfl, ?_⟩) hHeld ?_ ?_
          rotate_left
          ·rintro w' ⟨s0, s1, s2, s3, s4, s5, s6, s7, s8, s9, s10, s11, s12, s13, s14, s15, s16⟩
           go_simp; with_reducible rfl
          rotate_left
          ·exact x9_put
          refine take_ (i := 21) (N := some 52) (v := ?_) (a' := ?_) y9_65 rfl rfl (take_ofW HT_.out HW_.out (by kernel_rfl)) (fun _ _ _ h => h) (Or.inl ⟨by rfl, ?_⟩) hHeld ?_ ?_
          rotate_left
          ·rintro w' ⟨s0, s1, s2, s3, s4, s5, s6, s7, s8, s9, s10, s11, s12, s13, s14, s15, s16⟩
           go_simp; with_reducible rfl
          rotate_left
          ·exact x9_put
          refine pure_ (i := 22) (N := some 53) (v := ?_) (a' := ?_) y9_67 rfl rfl (any_of HT_.out (by kernel_rfl)) (fun _ _ _ h => h) (Or.inl ⟨by rfl, ?_⟩) ?_ ?_; rotate_left
          ·intro w'
           go_simp; with_reducible rfl
          rotate_left
          ·exact x9_put
          refine pure_ (i := 23) (N := some 54) (v := ?_) (a' := ?_) y9_70 rfl rfl (any_of HT_.out (by kernel_rfl)) (fun _ _ _ h => h) (Or.inl ⟨by rfl, ?_⟩) ?_ ?_; rotate_left
          ·intro w'
           go_simp; with_reducible rfl
          rotate_left
          ·exact x9_put
          refine pure_ (i := 24) (N := some 55) (v := ?_) (a' := ?_) y9_73 rfl rfl (any_of HT_.out (by kernel_rfl)) (fun _ _ _ h => h) (Or.inl ⟨by rfl, ?_⟩) ?_ ?_; rotate_left
          ·intro w'
           go_simp; with_reducible rfl
          rotate_left
          ·exact x9_put
          refine take_ (i := 25) (N := some 56) (v := ?_) (a' := ?_) y9_74 rfl rfl (take_ofW HT_.out HW_.out (by kernel_rfl)) (fun _ _ _ h => h) (Or.inl ⟨by rfl, ?_⟩) hHeld ?_ ?_
          rotate_left
          ·rintro w' ⟨s0, s1, s2, s3, s4, s5, s6, s7, s8, s9, s10, s11, s12, s13, s14, s15, s16⟩
           go_simp; with_reducible rfl
          rotate_left
          ·exact x9_put
          refine one_ (i := 26) (N := some 57) y9_75 rfl rfl (one_of HT_.out (by kernel_rfl)) (by decide) (fun K hK => ?_)
          refine goes_ Try.func60 (by kernel_rfl) rfl #[.agg #[.int .i64 t340, .int .i64 t341, .int .i64 t342, .int .i64 t343]] (by rfl) rfl rfl z9_41 ?_
          with_reducible refine (impl_ColorOk.calls t340 t341 t342 t343 true _ A34.out).mono ?_
          rintro e w40 ⟨rfl, hb⟩
          refine ⟨_, rfl, ?_⟩
          have n0_ := Aside0.mk (Kd.R_below z9_46 hb)
          have n1_ := Aside0.mk (blk_below (g := gb334) (o := .cells #[.int .i64 t321, .int .i64 t322, .int .i64 t323, .int .i64 t324, .int .i64 t325, .int .i64 t326, .int .i64 t327, .int .i64 t328, .int .i64 t329, .int .i64 t330, .int .i64 t331, .int .i64 t332, .int .i64 t333] 44 (0, 0)) z9_42 hb)
          have n2_ := Aside0.mk (blk_below (g := gb344) (o := .cells #[.int .i64 t340, .int .i64 t341, .int .i64 t342, .int .i64 t343] 27 (0, 0)) z9_44 hb)
          have n3_ := Aside0.mk (below_step z9_43 hb)
          clear HO337; clear BK334; clear BK344; clear HB; have HO337 := n0_; have BK334 := n1_; have BK344 := n2_; have HB := n3_; clear n0_ n1_ n2_ n3_; (try clear hb); (try clear hb2); (try clear hk); (try clear hi)
          refine hK.out _ _ ⟨(blk_cell BK334.out 0).trans rfl, (blk_cell BK334.out 1).trans rfl, (blk_cell BK334.out 2).trans rfl, (blk_cell BK334.out 3).trans rfl, (blk_cell BK334.out 4).trans rfl, (blk_cell BK334.out 5).trans rfl, (blk_cell BK334.out 6).trans rfl, (blk_cell BK334.out 7).trans rfl, (blk_cell BK334.out 8).trans rfl, (blk_cell BK334.out 9).trans rfl, (blk_cell BK334.out 10).trans rfl, (blk_cell BK334.out 11).trans rfl, (blk_cell BK334.out 12).trans rfl, (blk_cell BK344.out 0).trans rfl, (blk_cell BK344.out 1).trans rfl, (blk_cell BK344.out 2).trans rfl, (blk_cell BK344.out 3).trans rfl⟩ (fun hHeld => ?_)
          clear hK K
          refine norm_ (a' := ?_) ?_ ?_
          rotate_left
          ·show Act.put _ (some 57) _ = _
           simp only [Act.put, List.setIfInBounds_toArray, List.set_cons_zero, List.set_cons_succ, i64_w, i32_w]
           rfl
          refine pure_ (i := 27) (N := some 58) (v := ?_) (a' := ?_) y9_77 rfl rfl (any_of HT_.out (by kernel_rfl)) (fun _ _ _ h => h) (Or.inl ⟨by rfl, ?_⟩) ?_ ?_; rotate_left
          ·intro w'
           go_simp; with_reducible rfl
          rotate_left
          ·exact x9_put
          refine pure_ (i := 28) (N := some 59) (v := ?_) (a' := ?_) y9_79 rfl rfl (any_of HT_.out (by kernel_rfl)) (fun _ _ _ h => h) (Or.inl ⟨by rfl, ?_⟩) ?_ ?_; rotate_left
          ·intro w'
           go_simp; with_reducible rfl
          rotate_left
          ·exact x9_put
          refine pure_ (i := 29) (N := some 60) (v := ?_) (a' := ?_) y9_81 rfl rfl (any_of HT_.out (by kernel_rfl)) (fun _ _ _ h => h) (Or.inl ⟨by rfl, ?_⟩) ?_ ?_; rotate_left
          ·intro w'
           go_simp; with_reducible rfl
          rotate_left
          ·exact x9_put
          refine pure_ (i := 32) (N := some 63) (v := ?_) (a' := ?_) #[true, true, true, true, true, true, true, true, true, true, true, true, true, true, true, true, true, true, true, true, true, true, true, true, true, true, true, true, true, true, false, false, true, false, false, false, false] rfl rfl (any_of HT_.out (by kernel_rfl)) (fun _ _ _ h => h) (Or.inl ⟨by rfl, ?_⟩) ?_ ?_; rotate_left
          ·intro w'
           go_simp; with_reducible rfl
          rotate_left
          ·exact x9_put
          refine pure_ (i := 33) (N := some 64) (v := ?_) (a' := ?_) #[true, true, true, true, true, true, true, true, true, true, true, true, true, true, true, true, true, true, true, true, true, true, true, true, true, true, true, true, true, true, false, false, true, true, false, false, false] rfl rfl (any_of HT_.out (by kernel_rfl)) (fun _ _ _ h => h) (Or.inl ⟨by rfl, ?_⟩) ?_ ?_; rotate_left
          ·intro w'
           go_simp; with_reducible rfl
          rotate_left
          ·exact x9_put
          refine take_ (i := 30) (N := some 61) (v := ?_) (a' := ?_) #[true, true, true, true, true, true, true, true, true, true, true, true, true, true, true, true, true, true, true, true, true, true, true, true, true, true, true, true, true, true, true, false, true, true, false, false, false] rfl rfl (take_ofW HT_.out HW_.out (by kernel_rfl)) (fun _ _ _ h => h) (Or.inl ⟨by rfl, ?_⟩) hHeld ?_ ?_
          rotate_left
          ·rintro w' ⟨s0, s1, s2, s3, s4, s5, s6, s7, s8, s9, s10, s11, s12, s13, s14, s15, s16⟩
           go_simp; with_reducible rfl
          rotate_left
          ·exact x9_put
          refine take_ (i := 31) (N := some 62) (v := ?_) (a' := ?_) y9_89 rfl rfl (take_ofW HT_.out HW_.out (by kernel_rfl)) (fun _ _ _ h => h) (Or.inl ⟨by rfl, ?_⟩) hHeld ?_ ?_
          rotate_left
          ·rintro w' ⟨s0, s1, s2, s3, s4, s5, s6, s7, s8, s9, s10, s11, s12, s13, s14, s15, s16⟩
           go_simp; with_reducible rfl
          rotate_left
          ·exact x9_put
          refine one_ (i := 34) (N := some 65) y9_90 rfl rfl (one_of HT_.out (by kernel_rfl)) (by decide) (fun K hK => ?_)
          refine goes_ Try.func52 (by kernel_rfl) rfl #[.agg #[.int .i64 t321, .int .i64 t322, .int .i64 t323, .int .i64 t324, .int .i64 t325, .int .i64 t326, .int .i64 t327, .int .i64 t328, .int .i64 t329, .int .i64 t330, .int .i64 t331, .int .i64 t332, .int .i64 t333], .int .i64 (wrap64 ((Int.tmod (rd t335 0) 14) - 1)), .int .i64 (wrap64 ((Int.tmod (rd t335 1) 14) - 1))] (by rfl) rfl rfl z9_41 ?_
          with_reducible refine (spec_ColorAt.calls k t321 t322 t323 t324 t325 t326 t327 t328 t329 t330 t331 t332 t333 (wrap64 ((Int.tmod (rd t335 0) 14) - 1)) (wrap64 ((Int.tmod (rd t335 1) 14) - 1)) t347 t348 t349 t350 _ A36.out).mono ?_
          rintro e w41 ⟨rfl, hb⟩
          refine ⟨_, rfl, ?_⟩
          have n0_ := Aside0.mk (Kd.R_below z9_46 hb)
          have n1_ := Aside0.mk (blk_below (g := gb334) (o := .cells #[.int .i64 t321, .int .i64 t322, .int .i64 t323, .int .i64 t324, .int .i64 t325, .int .i64 t326, .int .i64 t327, .int .i64 t328, .int .i64 t329, .int .i64 t330, .int .i64 t331, .int .i64 t332, .int .i64 t333] 44 (0, 0)) z9_42 hb)
          have n2_ := Aside0.mk (blk_below (g := gb344) (o := .cells #[.int .i64 t340, .int .i64 t341, .int .i64 t342, .int .i64 t343] 27 (0, 0)) z9_44 hb)
          have n3_ := Aside0.mk (below_step z9_43 hb)
          clear HO337; clear BK334; clear BK344; clear HB; have HO337 := n0_; have BK334 := n1_; have BK344 := n2_; have HB := n3_; clear n0_ n1_ n2_ n3_; (try clear hb); (try clear hb2); (try clear hk); (try clear hi)
          refine hK.out _ _ ⟨(blk_cell BK334.out 0).trans rfl, (blk_cell BK334.out 1).trans rfl, (blk_cell BK334.out 2).trans rfl, (blk_cell BK334.out 3).trans rfl, (blk_cell BK334.out 4).trans rfl, (blk_cell BK334.out 5).trans rfl, (blk_cell BK334.out 6).trans rfl, (blk_cell BK334.out 7).trans rfl, (blk_cell BK334.out 8).trans rfl, (blk_cell BK334.out 9).trans rfl, (blk_cell BK334.out 10).trans rfl, (blk_cell BK334.out 11).trans rfl, (blk_cell BK334.out 12).trans rfl, (blk_cell BK344.out 0).trans rfl, (blk_cell BK344.out 1).trans rfl, (blk_cell BK344.out 2).trans rfl, (blk_cell BK344.out 3).trans rfl⟩ (fun hHeld => ?_)
          clear hK K
          refine norm_ (a' := ?_) ?_ ?_
          rotate_left
          ·show Act.put _ (some 65) _ = _
           simp only [Act.put, List.setIfInBounds_toArray, List.set_cons_zero, List.set_cons_succ, i64_w, i32_w]
           rfl
          refine pure_ (i := 35) (N := some 66) (v := ?_) (a' := ?_) y9_91 rfl rfl (any_of HT_.out (by kernel_rfl)) (fun _ _ _ h => h) (Or.inl ⟨by rfl, ?_⟩) ?_ ?_; rotate_left
          ·intro w'
           go_simp; with_reducible rfl
          rotate_left
          ·exact x9_put
          refine pure_ (i := 36) (N := some 67) (v := ?_) (a' := ?_) y9_92 rfl rfl (any_of HT_.out (by kernel_rfl)) (fun _ _ _ h => h) (Or.inl ⟨by rfl, ?_⟩) ?_ ?_; rotate_left
          ·intro w'
           go_simp; with_reducible rfl
          rotate_left
          ·exact x9_put
          refine done_ (done_of HT_.out (by kernel_rfl)) ?_
          try go_wp2
          go_meet
          case rel => exact ⟨_, ((!(t340 == t347) || (!(t341 == t348) || (!(t342 == t349) || (!(t343 == t350)))))), (by first | rfl | (simp; done) | (simp [*]; done)), H', ⟨by first | omega | exact Nat.le_refl _⟩, ⟨by (with_reducible repeat (first | refine blk_drewN ?_ _ | refine blk_drew ?_ | refine blk_alloc ?_ _)); exact BK334.out⟩, ⟨by (with_reducible repeat (first | refine blk_drewN ?_ _ | refine blk_drew ?_ | refine blk_alloc ?_ _)); exact BK344.out⟩, ⟨by repeat (first | (with_reducible first | exact HB.out | apply below_alloc | apply pw_below_drewN | apply below_drew1 | refine below_set ?_ GE334.out | refine below_set ?_ GE344.out) | exact HB.out)⟩⟩
         ·replace c35 := Bool.eq_false_iff.mpr c35
          subst c35
          have H1 : (laws_FnPaints.j0 k (wrap64 ((Int.tmod (rd t335 0) 14) - 1)) (wrap64 ((Int.tmod (rd t335 1) 14) - 1)) true t321 t322 t323 t324 t325 t326 t327 t328 t329 t330 t331 t332 t333 t340 t341 t342 t343) = some r := by rw [if_neg (show ¬ (false = true) by decide)] at H; exact H
          clear H; have H := H1; clear H1
          have H' := Aside0.mk H
          clear H
          try go_wp2
          have n0_ : Aside0 (Kd.R (Kd.int .i64) 3 ((((w17.setCell ⟨gb344, 0, none⟩ (.int .i64 t340)).setCell ⟨gb344, 1, none⟩ (.int .i64 t341)).setCell ⟨gb344, 2, none⟩ (.int .i64 t342)).setCell ⟨gb344, 3, none⟩ (.int .i64 t343)) w.heap.size (fun _ => True) (.slice (some ad338) t335.length co14) t335) := ⟨by (with_reducible repeat (first | apply Kd.R_alloc | apply Kd.R_drewN | apply Kd.R_drew)); exact Kd.R_mono (Kd.R_far (p := ⟨gb344, 3, none⟩) (Kd.R_far (p := ⟨gb344, 2, none⟩) (Kd.R_far (p := ⟨gb344, 1, none⟩) (Kd.R_far (p := ⟨gb344, 0, none⟩) (Kd.R_types HO337.out BK344.out (by decide)) (fun _ hk => hk.2) (.int .i64 t340)) (fun _ hk => hk.2) (.int .i64 t341)) (fun _ hk => hk.2) (.int .i64 t342)) (fun _ hk => hk.2) (.int .i64 t343)) (fun _ hk => trivial)⟩
          have n1_ : Aside0 (((((w17.setCell ⟨gb344, 0, none⟩ (.int .i64 t340)).setCell ⟨gb344, 1, none⟩ (.int .i64 t341)).setCell ⟨gb344, 2, none⟩ (.int .i64 t342)).setCell ⟨gb344, 3, none⟩ (.int .i64 t343)).heap[gb334]? = some (.cells #[.int .i64 t321, .int .i64 t322, .int .i64 t323, .int .i64 t324, .int .i64 t325, .int .i64 t326, .int .i64 t327, .int .i64 t328, .int .i64 t329, .int .i64 t330, .int .i64 t331, .int .i64 t332, .int .i64 t333] 44 (0, 0))) := ⟨by (with_reducible repeat (first | refine blk_drewN ?_ _ | refine blk_drew ?_ | refine blk_alloc ?_ _)); refine blk_far ?_ NB334_344.out _; (with_reducible repeat (first | refine blk_drewN ?_ _ | refine blk_drew ?_ | refine blk_alloc ?_ _)); refine blk_far ?_ NB334_344.out _; (with_reducible repeat (first | refine blk_drewN ?_ _ | refine blk_drew ?_ | refine blk_alloc ?_ _)); refine blk_far ?_ NB334_344.out _; (with_reducible repeat (first | refine blk_drewN ?_ _ | refine blk_drew ?_ | refine blk_alloc ?_ _)); refine blk_far ?_ NB334_344.out _; (with_reducible repeat (first | refine blk_drewN ?_ _ | refine blk_drew ?_ | refine blk_alloc ?_ _)); exact BK334.out⟩
          have n2_ : Aside0 (((((w17.setCell ⟨gb344, 0, none⟩ (.int .i64 t340)).setCell ⟨gb344, 1, none⟩ (.int .i64 t341)).setCell ⟨gb344, 2, none⟩ (.int .i64 t342)).setCell ⟨gb344, 3, none⟩ (.int .i64 t343)).heap[gb344]? = some (.cells #[.int .i64 t340, .int .i64 t341, .int .i64 t342, .int .i64 t343] 27 (0, 0))) := ⟨by (with_reducible repeat (first | refine blk_drewN ?_ _ | refine blk_drew ?_ | refine blk_alloc ?_ _)); refine blk_put (cs := #[.int .i64 t340, .int .i64 t341, .int .i64 t342, .int .i64 0]) ?_ 3 _ rfl; (with_reducible repeat (first | refine blk_drewN ?_ _ | refine blk_drew ?_ | refine blk_alloc ?_ _)); refine blk_put (cs := #[.int .i64 t340, .int .i64 t341, .int .i64 0, .int .i64 0]) ?_ 2 _ rfl; (with_reducible repeat (first | refine blk_drewN ?_ _ | refine blk_drew ?_ | refine blk_alloc ?_ _)); refine blk_put (cs := #[.int .i64 t340, .int .i64 0, .int .i64 0, .int .i64 0]) ?_ 1 _ rfl; (with_reducible repeat (first | refine blk_drewN ?_ _ | refine blk_drew ?_ | refine blk_alloc ?_ _)); refine blk_put (cs := #[.int .i64 0, .int .i64 0, .int .i64 0, .int .i64 0]) ?_ 0 _ rfl; (with_reducible repeat (first | refine blk_drewN ?_ _ | refine blk_drew ?_ | refine blk_alloc ?_ _)); exact BK344.out⟩
          have n3_ : Aside0 (Below w.heap.size w ((((w17.setCell ⟨gb344, 0, none⟩ (.int .i64 t340)).setCell ⟨gb344, 1, none⟩ (.int .i64 t341)).setCell ⟨gb344, 2, none⟩ (.int .i64 t342)).setCell ⟨gb344, 3, none⟩ (.int .i64 t343))) := ⟨by repeat (first | (with_reducible first | exact HB.out | apply below_alloc | apply pw_below_drewN | apply below_drew1 | refine below_set ?_ GE334.out | refine below_set ?_ GE344.out) | exact HB.out)⟩
          (try clear HO337); (try clear BK334); (try clear BK344); (try clear HB)
          generalize ((((w17.setCell ⟨gb344, 0, none⟩ (.int .i64 t340)).setCell ⟨gb344, 1, none⟩ (.int .i64 t341)).setCell ⟨gb344, 2, none⟩ (.int .i64 t342)).setCell ⟨gb344, 3, none⟩ (.int .i64 t343)) = w42 at n0_ n1_ n2_ n3_ ⊢
          have HO337 := n0_; have BK334 := n1_; have BK344 := n2_; have HB := n3_; clear n0_ n1_ n2_ n3_
          have n0_ := Aside0.mk (Kd.R_drew HO337.out)
          have n1_ := Aside0.mk (blk_drew BK334.out)
          have n2_ := Aside0.mk (blk_drew BK344.out)
          have n3_ := Aside0.mk (below_drew1 HB.out)
          clear HO337; clear BK334; clear BK344; clear HB; have HO337 := n0_; have BK334 := n1_; have BK344 := n2_; have HB := n3_; clear n0_ n1_ n2_ n3_
          refine start_ (n := 37) (S := fun w' => w'.cell? ⟨gb334, 0, none⟩ = some (.int .i64 t321) ∧ w'.cell? ⟨gb334, 1, none⟩ = some (.int .i64 t322) ∧ w'.cell? ⟨gb334, 2, none⟩ = some (.int .i64 t323) ∧ w'.cell? ⟨gb334, 3, none⟩ = some (.int .i64 t324) ∧ w'.cell? ⟨gb334, 4, none⟩ = some (.int .i64 t325) ∧ w'.cell? ⟨gb334, 5, none⟩ = some (.int .i64 t326) ∧ w'.cell? ⟨gb334, 6, none⟩ = some (.int .i64 t327) ∧ w'.cell? ⟨gb334, 7, none⟩ = some (.int .i64 t328) ∧ w'.cell? ⟨gb334, 8, none⟩ = some (.int .i64 t329) ∧ w'.cell? ⟨gb334, 9, none⟩ = some (.int .i64 t330) ∧ w'.cell? ⟨gb334, 10, none⟩ = some (.int .i64 t331) ∧ w'.cell? ⟨gb334, 11, none⟩ = some (.int .i64 t332) ∧ w'.cell? ⟨gb334, 12, none⟩ = some (.int .i64 t333) ∧ w'.cell? ⟨gb344, 0, none⟩ = some (.int .i64 t340) ∧ w'.cell? ⟨gb344, 1, none⟩ = some (.int .i64 t341) ∧ w'.cell? ⟨gb344, 2, none⟩ = some (.int .i64 t342) ∧ w'.cell? ⟨gb344, 3, none⟩ = some (.int .i64 t343)) (ds := []) y9_0 (by kernel_rfl) rfl rfl ⟨(blk_cell BK334.out 0).trans rfl, (blk_cell BK334.out 1).trans rfl, (blk_cell BK334.out 2).trans rfl, (blk_cell BK334.out 3).trans rfl, (blk_cell BK334.out 4).trans rfl, (blk_cell BK334.out 5).trans rfl, (blk_cell BK334.out 6).trans rfl, (blk_cell BK334.out 7).trans rfl, (blk_cell BK334.out 8).trans rfl, (blk_cell BK334.out 9).trans rfl, (blk_cell BK334.out 10).trans rfl, (blk_cell BK334.out 11).trans rfl, (blk_cell BK334.out 12).trans rfl, (blk_cell BK344.out 0).trans rfl, (blk_cell BK344.out 1).trans rfl, (blk_cell BK344.out 2).trans rfl, (blk_cell BK344.out 3).trans rfl⟩ (fun hHeld => ?_); refine with_tabW laws_FnPaints.tab8 laws_FnPaints.bits8 (fun HT_ HW_ => ?_)
          generalize w42.drew = w43 at HO337 BK334 BK344 HB hHeld ⊢
          refine take_ (i := 0) (N := some 31) (v := ?_) (a' := ?_) y9_8 rfl rfl (take_ofW HT_.out HW_.out (by kernel_rfl)) (fun _ _ _ h => h) (Or.inl ⟨by rfl, ?_⟩) hHeld ?_ ?_
          rotate_left
          ·rintro w' ⟨s0, s1, s2, s3, s4, s5, s6, s7, s8, s9, s10, s11, s12, s13, s14, s15, s16⟩
           go_simp; with_reducible rfl
          rotate_left
          ·exact x9_put
          refine one_ (i := 1) (N := some 32) y9_10 rfl rfl (one_of HT_.out (by kernel_rfl)) (by decide) (fun K hK => ?_)
          refine goes_ Try.func59 (by kernel_rfl) rfl #[.agg #[.int .i64 t321, .int .i64 t322, .int .i64 t323, .int .i64 t324, .int .i64 t325, .int .i64 t326, .int .i64 t327, .int .i64 t328, .int .i64 t329, .int .i64 t330, .int .i64 t331, .int .i64 t332, .int .i64 t333]] (by rfl) rfl rfl z9_41 ?_
          with_reducible refine (impl_PaintOk.calls t321 t322 t323 t324 t325 t326 t327 t328 t329 t330 t331 t332 t333 true _ A20.out).mono ?_
          rintro e w44 ⟨rfl, hb⟩
          refine ⟨_, rfl, ?_⟩
          have n0_ := Aside0.mk (Kd.R_below z9_46 hb)
          have n1_ := Aside0.mk (blk_below (g := gb334) (o := .cells #[.int .i64 t321, .int .i64 t322, .int .i64 t323, .int .i64 t324, .int .i64 t325, .int .i64 t326, .int .i64 t327, .int .i64 t328, .int .i64 t329, .int .i64 t330, .int .i64 t331, .int .i64 t332, .int .i64 t333] 44 (0, 0)) z9_42 hb)
          have n2_ := Aside0.mk (blk_below (g := gb344) (o := .cells #[.int .i64 t340, .int .i64 t341, .int .i64 t342, .int .i64 t343] 27 (0, 0)) z9_44 hb)
          have n3_ := Aside0.mk (below_step z9_43 hb)
          clear HO337; clear BK334; clear BK344; clear HB; have HO337 := n0_; have BK334 := n1_; have BK344 := n2_; have HB := n3_; clear n0_ n1_ n2_ n3_; (try clear hb); (try clear hb2); (try clear hk); (try clear hi)
          refine hK.out _ _ ⟨(blk_cell BK334.out 0).trans rfl, (blk_cell BK334.out 1).trans rfl, (blk_cell BK334.out 2).trans rfl, (blk_cell BK334.out 3).trans rfl, (blk_cell BK334.out 4).trans rfl, (blk_cell BK334.out 5).trans rfl, (blk_cell BK334.out 6).trans rfl, (blk_cell BK334.out 7).trans rfl, (blk_cell BK334.out 8).trans rfl, (blk_cell BK334.out 9).trans rfl, (blk_cell BK334.out 10).trans rfl, (blk_cell BK334.out 11).trans rfl, (blk_cell BK334.out 12).trans rfl, (blk_cell BK344.out 0).trans rfl, (blk_cell BK344.out 1).trans rfl, (blk_cell BK344.out 2).trans rfl, (blk_cell BK344.out 3).trans rfl⟩ (fun hHeld => ?_)
          clear hK K
          refine norm_ (a' := ?_) ?_ ?_
          rotate_left
          ·show Act.put _ (some 32) _ = _
           simp only [Act.put, List.setIfInBounds_toArray, List.set_cons_zero, List.set_cons_succ, i64_w, i32_w]
           rfl
          refine pure_ (i := 2) (N := some 33) (v := ?_) (a' := ?_) y9_15 rfl rfl (any_of HT_.out (by kernel_rfl)) (fun _ _ _ h => h) (Or.inl ⟨by rfl, ?_⟩) ?_ ?_; rotate_left
          ·intro w'
           go_simp; with_reducible rfl
          rotate_left
          ·exact x9_put
          refine pure_ (i := 3) (N := some 34) (v := ?_) (a' := ?_) y9_18 rfl rfl (any_of HT_.out (by kernel_rfl)) (fun _ _ _ h => h) (Or.inl ⟨by rfl, ?_⟩) ?_ ?_; rotate_left
          ·intro w'
           go_simp; with_reducible rfl
          rotate_left
          ·exact x9_put
          refine pure_ (i := 4) (N := some 35) (v := ?_) (a' := ?_) y9_21 rfl rfl (any_of HT_.out (by kernel_rfl)) (fun _ _ _ h => h) (Or.inl ⟨by rfl, ?_⟩) ?_ ?_; rotate_left
          ·intro w'
           go_simp; with_reducible rfl
          rotate_left
          ·exact x9_put
          refine pure_ (i := 6) (N := some 37) (v := ?_) (a' := ?_) y9_24 rfl rfl (any_of HT_.out (by kernel_rfl)) (fun _ _ _ h => h) (Or.inl ⟨by rfl, ?_⟩) ?_ ?_; rotate_left
          ·intro w'
           go_simp; with_reducible rfl
          rotate_left
          ·exact x9_put
          refine take_ (i := 5) (N := some 36) (v := ?_) (a' := ?_) y9_29 rfl rfl (take_ofW HT_.out HW_.out (by kernel_rfl)) (fun _ _ _ h => h) (Or.inl ⟨by rfl, ?_⟩) hHeld ?_ ?_
          rotate_left
          ·rintro w' ⟨s0, s1, s2, s3, s4, s5, s6, s7, s8, s9, s10, s11, s12, s13, s14, s15, s16⟩
           go_simp; with_reducible rfl
          rotate_left
          ·exact x9_put
          refine take_ (i := 7) (N := some 38) (v := ?_) (a' := ?_) y9_34 rfl rfl (take_ofW HT_.out HW_.out (by kernel_rfl)) (fun _ _ _ h => h) (Or.inl ⟨by rfl, ?_⟩) hHeld ?_ ?_
          rotate_left
          ·rintro w' ⟨s0, s1, s2, s3, s4, s5, s6, s7, s8, s9, s10, s11, s12, s13, s14, s15, s16⟩
           go_simp; with_reducible rfl
          rotate_left
          ·exact x9_put
          refine pure_ (i := 8) (N := some 39) (v := ?_) (a' := ?_) y9_38 rfl rfl (any_of HT_.out (by kernel_rfl)) (fun _ _ _ h => h) (Or.inl ⟨by rfl, ?_⟩) ?_ ?_; rotate_left
          ·intro w'
           go_simp; with_reducible rfl
          rotate_left
          ·exact x9_put
          refine pure_ (i := 9) (N := some 40) (v := ?_) (a' := ?_) y9_40 rfl rfl (any_of HT_.out (by kernel_rfl)) (fun _ _ _ h => h) (Or.inl ⟨by rfl, ?_⟩) ?_ ?_; rotate_left
          ·intro w'
           go_simp; with_reducible rfl
          rotate_left
          ·exact x9_put
          refine pure_ (i := 10) (N := some 41) (v := ?_) (a' := ?_) y9_41 rfl rfl (any_of HT_.out (by kernel_rfl)) (fun _ _ _ h => h) (Or.inl ⟨by rfl, ?_⟩) ?_ ?_; rotate_left
          ·intro w'
           go_simp; with_reducible rfl
          rotate_left
          ·exact x9_put
          refine pure_ (i := 11) (N := some 42) (v := ?_) (a' := ?_) y9_43 rfl rfl (any_of HT_.out (by kernel_rfl)) (fun _ _ _ h => h) (Or.inl ⟨by rfl, ?_⟩) ?_ ?_; rotate_left
          ·intro w'
           go_simp; with_reducible rfl
          rotate_left
          ·exact x9_put
          refine pure_ (i := 13) (N := some 44) (v := ?_) (a' := ?_) y9_45 rfl rfl (any_of HT_.out (by kernel_rfl)) (fun _ _ _ h => h) (Or.inl ⟨by rfl, ?_⟩) ?_ ?_; rotate_left
          ·intro w'
           go_simp; with_reducible rfl
          rotate_left
          ·exact x9_put
          refine take_ (i := 12) (N := some 43) (v := ?_) (a' := ?_) y9_48 rfl rfl (take_ofW HT_.out HW_.out (by kernel_rfl)) (fun _ _ _ h => h) (Or.inl ⟨by rfl, ?_⟩) hHeld ?_ ?_
          rotate_left
          ·rintro w' ⟨s0, s1, s2, s3, s4, s5, s6, s7, s8, s9, s10, s11, s12, s13, s14, s15, s16⟩
           go_simp; with_reducible rfl
          rotate_left
          ·exact x9_put
          refine take_ (i := 14) (N := some 45) (v := ?_) (a' := ?_) y9_50 rfl rfl (take_ofW HT_.out HW_.out (by kernel_rfl)) (fun _ _ _ h => h) (Or.inl ⟨by rfl, ?_⟩) hHeld ?_ ?_
          rotate_left
          ·rintro w' ⟨s0, s1, s2, s3, s4, s5, s6, s7, s8, s9, s10, s11, s12, s13, s14, s15, s16⟩
           go_simp; with_reducible rfl
          rotate_left
          ·exact x9_put
          refine pure_ (i := 15) (N := some 46) (v := ?_) (a' := ?_) y9_53 rfl rfl (any_of HT_.out (by kernel_rfl)) (fun _ _ _ h => h) (Or.inl ⟨by rfl, ?_⟩) ?_ ?_; rotate_left
          ·intro w'
           go_simp; with_reducible rfl
          rotate_left
          ·exact x9_put
          refine pure_ (i := 16) (N := some 47) (v := ?_) (a' := ?_) y9_56 rfl rfl (any_of HT_.out (by kernel_rfl)) (fun _ _ _ h => h) (Or.inl ⟨by rfl, ?_⟩) ?_ ?_; rotate_left
          ·intro w'
           go_simp; with_reducible rfl
          rotate_left
          ·exact x9_put
          refine pure_ (i := 17) (N := some 48) (v := ?_) (a' := ?_) y9_57 rfl rfl (any_of HT_.out (by kernel_rfl)) (fun _ _ _ h => h) (Or.inl ⟨by rfl, ?_⟩) ?_ ?_; rotate_left
          ·intro w'
           go_simp; with_reducible rfl
          rotate_left
          ·exact x9_put
          refine pure_ (i := 18) (N := some 49) (v := ?_) (a' := ?_) y9_58 rfl rfl (any_of HT_.out (by kernel_rfl)) (fun _ _ _ h => h) (Or.inl ⟨by rfl, ?_⟩) ?_ ?_; rotate_left
          ·intro w'
           go_simp; with_reducible rfl
          rotate_left
          ·exact x9_put
          refine pure_ (i := 20) (N := some 51) (v := ?_) (a' := ?_) y9_60 rfl rfl (any_of HT_.out (by kernel_rfl)) (fun _ _ _ h => h) (Or.inl ⟨by rfl, ?_⟩) ?_ ?_; rotate_left
          ·intro w'
           go_simp; with_reducible rfl
          rotate_left
          ·exact x9_put
          refine take_ (i := 19) (N := some 50) (v := ?_) (a' := ?_) y9_63 rfl rfl (take_ofW HT_.out HW_.out (by kernel_rfl)) (fun _ _ _ h => h) (Or.inl ⟨by rfl, ?_⟩) hHeld ?_ ?_
          rotate_left
          ·rintro w' ⟨s0, s1, s2, s3, s4, s5, s6, s7, s8, s9, s10, s11, s12, s13, s14, s15, s16⟩
           go_simp; with_reducible rfl
          rotate_left
          ·exact x9_put
          refine take_ (i := 21) (N := some 52) (v := ?_) (a' := ?_) y9_65 rfl rfl (take_ofW HT_.out HW_.out (by kernel_rfl)) (fun _ _ _ h => h) (Or.inl ⟨by rfl, ?_⟩) hHeld ?_ ?_
          rotate_left
          ·rintro w' ⟨s0, s1, s2, s3, s4, s5, s6, s7, s8, s9, s10, s11, s12, s13, s14, s15, s16⟩
           go_simp; with_reducible rfl
          rotate_left
          ·exact x9_put
          refine pure_ (i := 22) (N := some 53) (v := ?_) (a' := ?_) y9_67 rfl rfl (any_of HT_.out (by kernel_rfl)) (fun _ _ _ h => h) (Or.inl ⟨by rfl, ?_⟩) ?_ ?_; rotate_left
          ·intro w'
           go_simp; with_reducible rfl
          rotate_left
          ·exact x9_put
          refine pure_ (i := 23) (N := some 54) (v := ?_) (a' := ?_) y9_70 rfl rfl (any_of HT_.out (by kernel_rfl)) (fun _ _ _ h => h) (Or.inl ⟨by rfl, ?_⟩) ?_ ?_; rotate_left
          ·intro w'
           go_simp; with_reducible rfl
          rotate_left
          ·exact x9_put
          refine pure_ (i := 24) (N := some 55) (v := ?_) (a' := ?_) y9_73 rfl rfl (any_of HT_.out (by kernel_rfl)) (fun _ _ _ h => h) (Or.inl ⟨by rfl, ?_⟩) ?_ ?_; rotate_left
          ·intro w'
           go_simp; with_reducible rfl
          rotate_left
          ·exact x9_put
          refine take_ (i := 25) (N := some 56) (v := ?_) (a' := ?_) y9_74 rfl rfl (take_ofW HT_.out HW_.out (by kernel_rfl)) (fun _ _ _ h => h) (Or.inl ⟨by rfl, ?_⟩) hHeld ?_ ?_
          rotate_left
          ·rintro w' ⟨s0, s1, s2, s3, s4, s5, s6, s7, s8, s9, s10, s11, s12, s13, s14, s15, s16⟩
           go_simp; with_reducible rfl
          rotate_left
          ·exact x9_put
          refine one_ (i := 26) (N := some 57) y9_75 rfl rfl (one_of HT_.out (by kernel_rfl)) (by decide) (fun K hK => ?_)
          refine goes_ Try.func60 (by kernel_rfl) rfl #[.agg #[.int .i64 t340, .int .i64 t341, .int .i64 t342, .int .i64 t343]] (by rfl) rfl rfl z9_41 ?_
          with_reducible refine (impl_ColorOk.calls t340 t341 t342 t343 false _ A34.out).mono ?_
          rintro e w45 ⟨rfl, hb⟩
          refine ⟨_, rfl, ?_⟩
          have n0_ := Aside0.mk (Kd.R_below z9_46 hb)
          have n1_ := Aside0.mk (blk_below (g := gb334) (o := .cells #[.int .i64 t321, .int .i64 t322, .int .i64 t323, .int .i64 t324, .int .i64 t325, .int .i64 t326, .int .i64 t327, .int .i64 t328, .int .i64 t329, .int .i64 t330, .int .i64 t331, .int .i64 t332, .int .i64 t333] 44 (0, 0)) z9_42 hb)
          have n2_ := Aside0.mk (blk_below (g := gb344) (o := .cells #[.int .i64 t340, .int .i64 t341, .int .i64 t342, .int .i64 t343] 27 (0, 0)) z9_44 hb)
          have n3_ := Aside0.mk (below_step z9_43 hb)
          clear HO337; clear BK334; clear BK344; clear HB; have HO337 := n0_; have BK334 := n1_; have BK344 := n2_; have HB := n3_; clear n0_ n1_ n2_ n3_; (try clear hb); (try clear hb2); (try clear hk); (try clear hi)
          refine hK.out _ _ ⟨(blk_cell BK334.out 0).trans rfl, (blk_cell BK334.out 1).trans rfl, (blk_cell BK334.out 2).trans rfl, (blk_cell BK334.out 3).trans rfl, (blk_cell BK334.out 4).trans rfl, (blk_cell BK334.out 5).trans rfl, (blk_cell BK334.out 6).trans rfl, (blk_cell BK334.out 7).trans rfl, (blk_cell BK334.out 8).trans rfl, (blk_cell BK334.out 9).trans rfl, (blk_cell BK334.out 10).trans rfl, (blk_cell BK334.out 11).trans rfl, (blk_cell BK334.out 12).trans rfl, (blk_cell BK344.out 0).trans rfl, (blk_cell BK344.out 1).trans rfl, (blk_cell BK344.out 2).trans rfl, (blk_cell BK344.out 3).trans rfl⟩ (fun hHeld => ?_)
          clear hK K
          refine norm_ (a' := ?_) ?_ ?_
          rotate_left
          ·show Act.put _ (some 57) _ = _
           simp only [Act.put, List.setIfInBounds_toArray, List.set_cons_zero, List.set_cons_succ, i64_w, i32_w]
           rfl
          refine pure_ (i := 27) (N := some 58) (v := ?_) (a' := ?_) y9_77 rfl rfl (any_of HT_.out (by kernel_rfl)) (fun _ _ _ h => h) (Or.inl ⟨by rfl, ?_⟩) ?_ ?_; rotate_left
          ·intro w'
           go_simp; with_reducible rfl
          rotate_left
          ·exact x9_put
          refine pure_ (i := 28) (N := some 59) (v := ?_) (a' := ?_) y9_79 rfl rfl (any_of HT_.out (by kernel_rfl)) (fun _ _ _ h => h) (Or.inl ⟨by rfl, ?_⟩) ?_ ?_; rotate_left
          ·intro w'
           go_simp; with_reducible rfl
          rotate_left
          ·exact x9_put
          refine pure_ (i := 29) (N := some 60) (v := ?_) (a' := ?_) y9_81 rfl rfl (any_of HT_.out (by kernel_rfl)) (fun _ _ _ h => h) (Or.inl ⟨by rfl, ?_⟩) ?_ ?_; rotate_left
          ·intro w'
           go_simp; with_reducible rfl
          rotate_left
          ·exact x9_put
          refine pure_ (i := 30) (N := some 61) (v := undef) (a' := ?_) y9_85 rfl rfl (any_of HT_.out (by kernel_rfl)) (fun _ _ _ h => h) (Or.inr ⟨by rfl, rfl⟩) ?_ ?_; rotate_left
          ·exact x9_put
          refine pure_ (i := 31) (N := some 62) (v := undef) (a' := ?_) y9_87 rfl rfl (any_of HT_.out (by kernel_rfl)) (fun _ _ _ h => h) (Or.inr ⟨by rfl, rfl⟩) ?_ ?_; rotate_left
          ·exact x9_put
          refine pure_ (i := 32) (N := some 63) (v := undef) (a' := ?_) y9_88 rfl rfl (any_of HT_.out (by kernel_rfl)) (fun _ _ _ h => h) (Or.inr ⟨by rfl, rfl⟩) ?_ ?_; rotate_left
          ·exact x9_put
          refine pure_ (i := 33) (N := some 64) (v := undef) (a' := ?_) y9_89 rfl rfl (any_of HT_.out (by kernel_rfl)) (fun _ _ _ h => h) (Or.inr ⟨by rfl, rfl⟩) ?_ ?_; rotate_left
          ·exact x9_put
          refine pure_ (i := 34) (N := some 65) (v := undef) (a' := ?_) y9_90 rfl rfl (any_of HT_.out (by kernel_rfl)) (fun _ _ _ h => h) (Or.inr ⟨by rfl, rfl⟩) ?_ ?_; rotate_left
          ·exact x9_put
          refine pure_ (i := 35) (N := some 66) (v := undef) (a' := ?_) y9_91 rfl rfl (any_of HT_.out (by kernel_rfl)) (fun _ _ _ h => h) (Or.inr ⟨by rfl, rfl⟩) ?_ ?_; rotate_left
          ·exact x9_put
          refine pure_ (i := 36) (N := some 67) (v := ?_) (a' := ?_) y9_92 rfl rfl (any_of HT_.out (by kernel_rfl)) (fun _ _ _ h => h) (Or.inl ⟨by rfl, ?_⟩) ?_ ?_; rotate_left
          ·intro w'
           go_simp; with_reducible rfl
          rotate_left
          ·exact x9_put
          refine done_ (done_of HT_.out (by kernel_rfl)) ?_
          try go_wp2
          go_meet
          case rel => exact ⟨_, (true), (by first | rfl | (simp; done) | (simp [*]; done)), H', ⟨by first | omega | exact Nat.le_refl _⟩, ⟨by (with_reducible repeat (first | refine blk_drewN ?_ _ | refine blk_drew ?_ | refine blk_alloc ?_ _)); exact BK334.out⟩, ⟨by (with_reducible repeat (first | refine blk_drewN ?_ _ | refine blk_drew ?_ | refine blk_alloc ?_ _)); exact BK344.out⟩, ⟨by repeat (first | (with_reducible first | exact HB.out | apply below_alloc | apply pw_below_drewN | apply below_drew1 | refine below_set ?_ GE334.out | refine below_set ?_ GE344.out) | exact HB.out)⟩⟩
     ·replace c21 := Bool.eq_false_iff.mpr c21
      subst c21
      have H1 : (laws_FnPaints.j0 k (wrap64 ((Int.tmod (rd t335 0) 14) - 1)) (wrap64 ((Int.tmod (rd t335 1) 14) - 1)) true t321 t322 t323 t324 t325 t326 t327 t328 t329 t330 t331 t332 t333 t340 t341 t342 t343) = some r := by rw [if_neg (show ¬ (false = true) by decide)] at H; exact H
      clear H; have H := H1; clear H1
      have H' := Aside0.mk H
      clear H
      try go_wp2
      have n0_ : Aside0 (Kd.R (Kd.int .i64) 3 ((((w17.setCell ⟨gb344, 0, none⟩ (.int .i64 t340)).setCell ⟨gb344, 1, none⟩ (.int .i64 t341)).setCell ⟨gb344, 2, none⟩ (.int .i64 t342)).setCell ⟨gb344, 3, none⟩ (.int .i64 t343)) w.heap.size (fun _ => True) (.slice (some ad338) t335.length co14) t335) := ⟨by (with_reducible repeat (first | apply Kd.R_alloc | apply Kd.R_drewN | apply Kd.R_drew)); exact Kd.R_mono (Kd.R_far (p := ⟨gb344, 3, none⟩) (Kd.R_far (p := ⟨gb344, 2, none⟩) (Kd.R_far (p := ⟨gb344, 1, none⟩) (Kd.R_far (p := ⟨gb344, 0, none⟩) (Kd.R_types HO337.out BK344.out (by decide)) (fun _ hk => hk.2) (.int .i64 t340)) (fun _ hk => hk.2) (.int .i64 t341)) (fun _ hk => hk.2) (.int .i64 t342)) (fun _ hk => hk.2) (.int .i64 t343)) (fun _ hk => trivial)⟩
      have n1_ : Aside0 (((((w17.setCell ⟨gb344, 0, none⟩ (.int .i64 t340)).setCell ⟨gb344, 1, none⟩ (.int .i64 t341)).setCell ⟨gb344, 2, none⟩ (.int .i64 t342)).setCell ⟨gb344, 3, none⟩ (.int .i64 t343)).heap[gb334]? = some (.cells #[.int .i64 t321, .int .i64 t322, .int .i64 t323, .int .i64 t324, .int .i64 t325, .int .i64 t326, .int .i64 t327, .int .i64 t328, .int .i64 t329, .int .i64 t330, .int .i64 t331, .int .i64 t332, .int .i64 t333] 44 (0, 0))) := ⟨by (with_reducible repeat (first | refine blk_drewN ?_ _ | refine blk_drew ?_ | refine blk_alloc ?_ _)); refine blk_far ?_ NB334_344.out _; (with_reducible repeat (first | refine blk_drewN ?_ _ | refine blk_drew ?_ | refine blk_alloc ?_ _)); refine blk_far ?_ NB334_344.out _; (with_reducible repeat (first | refine blk_drewN ?_ _ | refine blk_drew ?_ | refine blk_alloc ?_ _)); refine blk_far ?_ NB334_344.out _; (with_reducible repeat (first | refine blk_drewN ?_ _ | refine blk_drew ?_ | refine blk_alloc ?_ _)); refine blk_far ?_ NB334_344.out _; (with_reducible repeat (first | refine blk_drewN ?_ _ | refine blk_drew ?_ | refine blk_alloc ?_ _)); exact BK334.out⟩
      have n2_ : Aside0 (((((w17.setCell ⟨gb344, 0, none⟩ (.int .i64 t340)).setCell ⟨gb344, 1, none⟩ (.int .i64 t341)).setCell ⟨gb344, 2, none⟩ (.int .i64 t342)).setCell ⟨gb344, 3, none⟩ (.int .i64 t343)).heap[gb344]? = some (.cells #[.int .i64 t340, .int .i64 t341, .int .i64 t342, .int .i64 t343] 27 (0, 0))) := ⟨by (with_reducible repeat (first | refine blk_drewN ?_ _ | refine blk_drew ?_ | refine blk_alloc ?_ _)); refine blk_put (cs := #[.int .i64 t340, .int .i64 t341, .int .i64 t342, .int .i64 0]) ?_ 3 _ rfl; (with_reducible repeat (first | refine blk_drewN ?_ _ | refine blk_drew ?_ | refine blk_alloc ?_ _)); refine blk_put (cs := #[.int .i64 t340, .int .i64 t341, .int .i64 0, .int .i64 0]) ?_ 2 _ rfl; (with_reducible repeat (first | refine blk_drewN ?_ _ | refine blk_drew ?_ | refine blk_alloc ?_ _)); refine blk_put (cs := #[.int .i64 t340, .int .i64 0, .int .i64 0, .int .i64 0]) ?_ 1 _ rfl; (with_reducible repeat (first | refine blk_drewN ?_ _ | refine blk_drew ?_ | refine blk_alloc ?_ _)); refine blk_put (cs := #[.int .i64 0, .int .i64 0, .int .i64 0, .int .i64 0]) ?_ 0 _ rfl; (with_reducible repeat (first | refine blk_drewN ?_ _ | refine blk_drew ?_ | refine blk_alloc ?_ _)); exact BK344.out⟩
      have n3_ : Aside0 (Below w.heap.size w ((((w17.setCell ⟨gb344, 0, none⟩ (.int .i64 t340)).setCell ⟨gb344, 1, none⟩ (.int .i64 t341)).setCell ⟨gb344, 2, none⟩ (.int .i64 t342)).setCell ⟨gb344, 3, none⟩ (.int .i64 t343))) := ⟨by repeat (first | (with_reducible first | exact HB.out | apply below_alloc | apply pw_below_drewN | apply below_drew1 | refine below_set ?_ GE334.out | refine below_set ?_ GE344.out) | exact HB.out)⟩
      (try clear HO337); (try clear BK334); (try clear BK344); (try clear HB)
      generalize ((((w17.setCell ⟨gb344, 0, none⟩ (.int .i64 t340)).setCell ⟨gb344, 1, none⟩ (.int .i64 t341)).setCell ⟨gb344, 2, none⟩ (.int .i64 t342)).setCell ⟨gb344, 3, none⟩ (.int .i64 t343)) = w46 at n0_ n1_ n2_ n3_ ⊢
      have HO337 := n0_; have BK334 := n1_; have BK344 := n2_; have HB := n3_; clear n0_ n1_ n2_ n3_
      have n0_ := Aside0.mk (Kd.R_drew HO337.out)
      have n1_ := Aside0.mk (blk_drew BK334.out)
      have n2_ := Aside0.mk (blk_drew BK344.out)
      have n3_ := Aside0.mk (below_drew1 HB.out)
      clear HO337; clear BK334; clear BK344; clear HB; have HO337 := n0_; have BK334 := n1_; have BK344 := n2_; have HB := n3_; clear n0_ n1_ n2_ n3_
      refine start_ (n := 37) (S := fun w' => w'.cell? ⟨gb334, 0, none⟩ = some (.int .i64 t321) ∧ w'.cell? ⟨gb334, 1, none⟩ = some (.int .i64 t322) ∧ w'.cell? ⟨gb334, 2, none⟩ = some (.int .i64 t323) ∧ w'.cell? ⟨gb334, 3, none⟩ = some (.int .i64 t324) ∧ w'.cell? ⟨gb334, 4, none⟩ = some (.int .i64 t325) ∧ w'.cell? ⟨gb334, 5, none⟩ = some (.int .i64 t326) ∧ w'.cell? ⟨gb334, 6, none⟩ = some (.int .i64 t327) ∧ w'.cell? ⟨gb334, 7, none⟩ = some (.int .i64 t328) ∧ w'.cell? ⟨gb334, 8, none⟩ = some (.int .i64 t329) ∧ w'.cell? ⟨gb334, 9, none⟩ = some (.int .i64 t330) ∧ w'.cell? ⟨gb334, 10, none⟩ = some (.int .i64 t331) ∧ w'.cell? ⟨gb334, 11, none⟩ = some (.int .i64 t332) ∧ w'.cell? ⟨gb334, 12, none⟩ = some (.int .i64 t333)) (ds := []) y9_0 (by kernel_rfl) rfl rfl ⟨(blk_cell BK334.out 0).trans rfl, (blk_cell BK334.out 1).trans rfl, (blk_cell BK334.out 2).trans rfl, (blk_cell BK334.out 3).trans rfl, (blk_cell BK334.out 4).trans rfl, (blk_cell BK334.out 5).trans rfl, (blk_cell BK334.out 6).trans rfl, (blk_cell BK334.out 7).trans rfl, (blk_cell BK334.out 8).trans rfl, (blk_cell BK334.out 9).trans rfl, (blk_cell BK334.out 10).trans rfl, (blk_cell BK334.out 11).trans rfl, (blk_cell BK334.out 12).trans rfl⟩ (fun hHeld => ?_); refine with_tabW laws_FnPaints.tab8 laws_FnPaints.bits8 (fun HT_ HW_ => ?_)
      generalize w46.drew = w47 at HO337 BK334 BK344 HB hHeld ⊢
      refine take_ (i := 0) (N := some 31) (v := ?_) (a' := ?_) y9_8 rfl rfl (take_ofW HT_.out HW_.out (by kernel_rfl)) (fun _ _ _ h => h) (Or.inl ⟨by rfl, ?_⟩) hHeld ?_ ?_
      rotate_left
      ·rintro w' ⟨s0, s1, s2, s3, s4, s5, s6, s7, s8, s9, s10, s11, s12⟩
       go_simp; with_reducible rfl
      rotate_left
      ·exact x9_put
      refine one_ (i := 1) (N := some 32) y9_10 rfl rfl (one_of HT_.out (by kernel_rfl)) (by decide) (fun K hK => ?_)
      refine goes_ Try.func59 (by kernel_rfl) rfl #[.agg #[.int .i64 t321, .int .i64 t322, .int .i64 t323, .int .i64 t324, .int .i64 t325, .int .i64 t326, .int .i64 t327, .int .i64 t328, .int .i64 t329, .int .i64 t330, .int .i64 t331, .int .i64 t332, .int .i64 t333]] (by rfl) rfl rfl z9_41 ?_
      with_reducible refine (impl_PaintOk.calls t321 t322 t323 t324 t325 t326 t327 t328 t329 t330 t331 t332 t333 false _ A20.out).mono ?_
      rintro e w48 ⟨rfl, hb⟩
      refine ⟨_, rfl, ?_⟩
      have n0_ := Aside0.mk (Kd.R_below z9_46 hb)
      have n1_ := Aside0.mk (blk_below (g := gb334) (o := .cells #[.int .i64 t321, .int .i64 t322, .int .i64 t323, .int .i64 t324, .int .i64 t325, .int .i64 t326, .int .i64 t327, .int .i64 t328, .int .i64 t329, .int .i64 t330, .int .i64 t331, .int .i64 t332, .int .i64 t333] 44 (0, 0)) z9_42 hb)
      have n2_ := Aside0.mk (blk_below (g := gb344) (o := .cells #[.int .i64 t340, .int .i64 t341, .int .i64 t342, .int .i64 t343] 27 (0, 0)) z9_44 hb)
      have n3_ := Aside0.mk (below_step z9_43 hb)
      clear HO337; clear BK334; clear BK344; clear HB; have HO337 := n0_; have BK334 := n1_; have BK344 := n2_; have HB := n3_; clear n0_ n1_ n2_ n3_; (try clear hb); (try clear hb2); (try clear hk); (try clear hi)
      refine hK.out _ _ ⟨(blk_cell BK334.out 0).trans rfl, (blk_cell BK334.out 1).trans rfl, (blk_cell BK334.out 2).trans rfl, (blk_cell BK334.out 3).trans rfl, (blk_cell BK334.out 4).trans rfl, (blk_cell BK334.out 5).trans rfl, (blk_cell BK334.out 6).trans rfl, (blk_cell BK334.out 7).trans rfl, (blk_cell BK334.out 8).trans rfl, (blk_cell BK334.out 9).trans rfl, (blk_cell BK334.out 10).trans rfl, (blk_cell BK334.out 11).trans rfl, (blk_cell BK334.out 12).trans rfl⟩ (fun hHeld => ?_)
      clear hK K
      refine norm_ (a' := ?_) ?_ ?_
      rotate_left
      ·show Act.put _ (some 32) _ = _
       simp only [Act.put, List.setIfInBounds_toArray, List.set_cons_zero, List.set_cons_succ, i64_w, i32_w]
       rfl
      refine pure_ (i := 2) (N := some 33) (v := ?_) (a' := ?_) y9_15 rfl rfl (any_of HT_.out (by kernel_rfl)) (fun _ _ _ h => h) (Or.inl ⟨by rfl, ?_⟩) ?_ ?_; rotate_left
      ·intro w'
       go_simp; with_reducible rfl
      rotate_left
      ·exact x9_put
      refine pure_ (i := 3) (N := some 34) (v := ?_) (a' := ?_) y9_18 rfl rfl (any_of HT_.out (by kernel_rfl)) (fun _ _ _ h => h) (Or.inl ⟨by rfl, ?_⟩) ?_ ?_; rotate_left
      ·intro w'
       go_simp; with_reducible rfl
      rotate_left
      ·exact x9_put
      refine pure_ (i := 4) (N := some 35) (v := undef) (a' := ?_) y9_21 rfl rfl (any_of HT_.out (by kernel_rfl)) (fun _ _ _ h => h) (Or.inr ⟨by rfl, rfl⟩) ?_ ?_; rotate_left
      ·exact x9_put
      refine pure_ (i := 5) (N := some 36) (v := undef) (a' := ?_) #[true, true, true, true, true, true, false, false, false, false, false, false, false, false, false, false, false, false, false, false, false, false, false, false, false, false, false, false, false, false, false, false, false, false, false, false, false] rfl rfl (any_of HT_.out (by kernel_rfl)) (fun _ _ _ h => h) (Or.inr ⟨by rfl, rfl⟩) ?_ ?_; rotate_left
      ·exact x9_put
      refine pure_ (i := 6) (N := some 37) (v := undef) (a' := ?_) y9_29 rfl rfl (any_of HT_.out (by kernel_rfl)) (fun _ _ _ h => h) (Or.inr ⟨by rfl, rfl⟩) ?_ ?_; rotate_left
      ·exact x9_put
      refine pure_ (i := 7) (N := some 38) (v := undef) (a' := ?_) y9_34 rfl rfl (any_of HT_.out (by kernel_rfl)) (fun _ _ _ h => h) (Or.inr ⟨by rfl, rfl⟩) ?_ ?_; rotate_left
      ·exact x9_put
      refine pure_ (i := 8) (N := some 39) (v := undef) (a' := ?_) y9_38 rfl rfl (any_of HT_.out (by kernel_rfl)) (fun _ _ _ h => h) (Or.inr ⟨by rfl, rfl⟩) ?_ ?_; rotate_left
      ·exact x9_put
      refine pure_ (i := 9) (N := some 40) (v := ?_) (a' := ?_) y9_40 rfl rfl (any_of HT_.out (by kernel_rfl)) (fun _ _ _ h => h) (Or.inl ⟨by rfl, ?_⟩) ?_ ?_; rotate_left
      ·intro w'
       go_simp; with_reducible rfl
      rotate_left
      ·exact x9_put
      refine pure_ (i := 10) (N := some 41) (v := ?_) (a' := ?_) y9_41 rfl rfl (any_of HT_.out (by kernel_rfl)) (fun _ _ _ h => h) (Or.inl ⟨by rfl, ?_⟩) ?_ ?_; rotate_left
      ·intro w'
       go_simp; with_reducible rfl
      rotate_left
      ·exact x9_put
      refine pure_ (i := 11) (N := some 42) (v := undef) (a' := ?_) y9_43 rfl rfl (any_of HT_.out (by kernel_rfl)) (fun _ _ _ h => h) (Or.inr ⟨by rfl, rfl⟩) ?_ ?_; rotate_left
      ·exact x9_put
      refine pure_ (i := 12) (N := some 43) (v := undef) (a' := ?_) y9_46 rfl rfl (any_of HT_.out (by kernel_rfl)) (fun _ _ _ h => h) (Or.inr ⟨by rfl, rfl⟩) ?_ ?_; rotate_left
      ·exact x9_put
      refine pure_ (i := 13) (N := some 44) (v := undef) (a' := ?_) y9_48 rfl rfl (any_of HT_.out (by kernel_rfl)) (fun _ _ _ h => h) (Or.inr ⟨by rfl, rfl⟩) ?_ ?_; rotate_left
      ·exact x9_put
      refine pure_ (i := 14) (N := some 45) (v := undef) (a' := ?_) y9_50 rfl rfl (any_of HT_.out (by kernel_rfl)) (fun _ _ _ h => h) (Or.inr ⟨by rfl, rfl⟩) ?_ ?_; rotate_left
      ·exact x9_put
      refine pure_ (i := 15) (N := some 46) (v := undef) (a' := ?_) y9_53 rfl rfl (any_of HT_.out (by kernel_rfl)) (fun _ _ _ h => h) (Or.inr ⟨by rfl, rfl⟩) ?_ ?_; rotate_left
      ·exact x9_put
      refine pure_ (i := 16) (N := some 47) (v := ?_) (a' := ?_) y9_56 rfl rfl (any_of HT_.out (by kernel_rfl)) (fun _ _ _ h => h) (Or.inl ⟨by rfl, ?_⟩) ?_ ?_; rotate_left
      ·intro w'
       go_simp; with_reducible rfl
      rotate_left
      ·exact x9_put
      refine pure_ (i := 17) (N := some 48) (v := ?_) (a' := ?_) y9_57 rfl rfl (any_of HT_.out (by kernel_rfl)) (fun _ _ _ h => h) (Or.inl ⟨by rfl, ?_⟩) ?_ ?_; rotate_left
      ·intro w'
       go_simp; with_reducible rfl
      rotate_left
      ·exact x9_put
      refine pure_ (i := 18) (N := some 49) (v := undef) (a' := ?_) y9_58 rfl rfl (any_of HT_.out (by kernel_rfl)) (fun _ _ _ h => h) (Or.inr ⟨by rfl, rfl⟩) ?_ ?_; rotate_left
      ·exact x9_put
      refine pure_ (i := 19) (N := some 50) (v := undef) (a' := ?_) y9_61 rfl rfl (any_of HT_.out (by kernel_rfl)) (fun _ _ _ h => h) (Or.inr ⟨by rfl, rfl⟩) ?_ ?_; rotate_left
      ·exact x9_put
      refine pure_ (i := 20) (N := some 51) (v := undef) (a' := ?_) y9_63 rfl rfl (any_of HT_.out (by kernel_rfl)) (fun _ _ _ h => h) (Or.inr ⟨by rfl, rfl⟩) ?_ ?_; rotate_left
      ·exact x9_put
      refine pure_ (i := 21) (N := some 52) (v := undef) (a' := ?_) y9_65 rfl rfl (any_of HT_.out (by kernel_rfl)) (fun _ _ _ h => h) (Or.inr ⟨by rfl, rfl⟩) ?_ ?_; rotate_left
      ·exact x9_put
      refine pure_ (i := 22) (N := some 53) (v := undef) (a' := ?_) y9_67 rfl rfl (any_of HT_.out (by kernel_rfl)) (fun _ _ _ h => h) (Or.inr ⟨by rfl, rfl⟩) ?_ ?_; rotate_left
      ·exact x9_put
      refine pure_ (i := 23) (N := some 54) (v := ?_) (a' := ?_) y9_70 rfl rfl (any_of HT_.out (by kernel_rfl)) (fun _ _ _ h => h) (Or.inl ⟨by rfl, ?_⟩) ?_ ?_; rotate_left
      ·intro w'
       go_simp; with_reducible rfl
      rotate_left
      ·exact x9_put
      refine pure_ (i := 24) (N := some 55) (v := ?_) (a' := ?_) y9_73 rfl rfl (any_of HT_.out (by kernel_rfl)) (fun _ _ _ h => h) (Or.inl ⟨by rfl, ?_⟩) ?_ ?_; rotate_left
      ·intro w'
       go_simp; with_reducible rfl
      rotate_left
      ·exact x9_put
      refine pure_ (i := 25) (N := some 56) (v := undef) (a' := ?_) y9_74 rfl rfl (any_of HT_.out (by kernel_rfl)) (fun _ _ _ h => h) (Or.inr ⟨by rfl, rfl⟩) ?_ ?_; rotate_left
      ·exact x9_put
      refine pure_ (i := 26) (N := some 57) (v := undef) (a' := ?_) y9_75 rfl rfl (any_of HT_.out (by kernel_rfl)) (fun _ _ _ h => h) (Or.inr ⟨by rfl, rfl⟩) ?_ ?_; rotate_left
      ·exact x9_put
      refine pure_ (i := 27) (N := some 58) (v := undef) (a' := ?_) y9_77 rfl rfl (any_of HT_.out (by kernel_rfl)) (fun _ _ _ h => h) (Or.inr ⟨by rfl, rfl⟩) ?_ ?_; rotate_left
      ·exact x9_put
      refine pure_ (i := 28) (N := some 59) (v := ?_) (a' := ?_) y9_79 rfl rfl (any_of HT_.out (by kernel_rfl)) (fun _ _ _ h => h) (Or.inl ⟨by rfl, ?_⟩) ?_ ?_; rotate_left
      ·intro w'
       go_simp; with_reducible rfl
      rotate_left
      ·exact x9_put
      refine pure_ (i := 29) (N := some 60) (v := ?_) (a' := ?_) y9_81 rfl rfl (any_of HT_.out (by kernel_rfl)) (fun _ _ _ h => h) (Or.inl ⟨by rfl, ?_⟩) ?_ ?_; rotate_left
      ·intro w'
       go_simp; with_reducible rfl
      rotate_left
      ·exact x9_put
      refine pure_ (i := 30) (N := some 61) (v := undef) (a' := ?_) y9_85 rfl rfl (any_of HT_.out (by kernel_rfl)) (fun _ _ _ h => h) (Or.inr ⟨by rfl, rfl⟩) ?_ ?_; rotate_left
      ·exact x9_put
      refine pure_ (i := 31) (N := some 62) (v := undef) (a' := ?_) y9_87 rfl rfl (any_of HT_.out (by kernel_rfl)) (fun _ _ _ h => h) (Or.inr ⟨by rfl, rfl⟩) ?_ ?_; rotate_left
      ·exact x9_put
      refine pure_ (i := 32) (N := some 63) (v := undef) (a' := ?_) y9_88 rfl rfl (any_of HT_.out (by kernel_rfl)) (fun _ _ _ h => h) (Or.inr ⟨by rfl, rfl⟩) ?_ ?_; rotate_left
      ·exact x9_put
      refine pure_ (i := 33) (N := some 64) (v := undef) (a' := ?_) y9_89 rfl rfl (any_of HT_.out (by kernel_rfl)) (fun _ _ _ h => h) (Or.inr ⟨by rfl, rfl⟩) ?_ ?_; rotate_left
      ·exact x9_put
      refine pure_ (i := 34) (N := some 65) (v := undef) (a' := ?_) y9_90 rfl rfl (any_of HT_.out (by kernel_rfl)) (fun _ _ _ h => h) (Or.inr ⟨by rfl, rfl⟩) ?_ ?_; rotate_left
      ·exact x9_put
      refine pure_ (i := 35) (N := some 66) (v := undef) (a' := ?_) y9_91 rfl rfl (any_of HT_.out (by kernel_rfl)) (fun _ _ _ h => h) (Or.inr ⟨by rfl, rfl⟩) ?_ ?_; rotate_left
      ·exact x9_put
      refine pure_ (i := 36) (N := some 67) (v := ?_) (a' := ?_) y9_92 rfl rfl (any_of HT_.out (by kernel_rfl)) (fun _ _ _ h => h) (Or.inl ⟨by rfl, ?_⟩) ?_ ?_; rotate_left
      ·intro w'
       go_simp; with_reducible rfl
      rotate_left
      ·exact x9_put
      refine done_ (done_of HT_.out (by kernel_rfl)) ?_
      try go_wp2
      go_meet
      case rel => exact ⟨_, (true), (by first | rfl | (simp; done) | (simp [*]; done)), H', ⟨by first | omega | exact Nat.le_refl _⟩, ⟨by (with_reducible repeat (first | refine blk_drewN ?_ _ | refine blk_drew ?_ | refine blk_alloc ?_ _)); exact BK334.out⟩, ⟨by (with_reducible repeat (first | refine blk_drewN ?_ _ | refine blk_drew ?_ | refine blk_alloc ?_ _)); exact BK344.out⟩, ⟨by repeat (first | (with_reducible first | exact HB.out | apply below_alloc | apply pw_below_drewN | apply below_drew1 | refine below_set ?_ GE334.out | refine below_set ?_ GE344.out) | exact HB.out)⟩⟩
    case rest =>
     clear HC9; try clear c2
     try clear p2
     try clear c5
     try clear c6
     try clear p6
     try clear c21
     obtain ⟨kq, x67_8, rfl, HA, HJ8, BK334, BK344, HB⟩ := hcut
     cases kq with
     | zero => exact absurd HA.out (by simp [laws_FnPaints.j0])
     | succ kj8 =>
      have H := HA.out; clear HA
      simp only [laws_FnPaints.j0] at H
      by_cases c49 : x67_8 = true
      ·subst c49
       have H1 : (some false) = some r := by rw [if_pos rfl] at H; exact H
       clear H; have H := H1; clear H1
       obtain rfl := Option.some.inj H
       exact absurd hT Bool.false_ne_true
      ·replace c49 := Bool.eq_false_iff.mpr c49
       subst c49
       have H1 : ((impl_PartOf.f t321 t322 t323 t324 t325 t326 t327 t328 t329 t330 t331 t332 t333 (wrap64 ((Int.tmod (rd t335 0) 14) - 1)) (wrap64 ((Int.tmod (rd t335 1) 14) - 1))).bind fun t351 => (if t321 = 1 then ((impl_Laid.f t322 t323 t324 t325).bind fun bt352 => (if (t340 == bt352.1 && (t341 == bt352.2.1 && (t342 == bt352.2.2.1 && (t343 == bt352.2.2.2)))) = true then (some (t351 == 0)) else (some false))) else (laws_FnPaints.l0 kj8 t351 0 t321 t322 t323 t324 t325 t326 t327 t328 t329 t330 t331 t332 t333 2 t322 t323 t324 t325 t326 t327 t328 t329 128 0 2688 0))) = some r := by rw [if_neg (show ¬ (false = true) by decide)] at H; exact H
       clear H; have H := H1; clear H1
       replace H := Option.bind_eq_some_iff.mp H
       obtain ⟨t351, A500, H⟩ := H
       replace H : (if t321 = 1 then ((impl_Laid.f t322 t323 t324 t325).bind fun bt352 => (if (t340 == bt352.1 && (t341 == bt352.2.1 && (t342 == bt352.2.2.1 && (t343 == bt352.2.2.2)))) = true then (some (t351 == 0)) else (some false))) else (laws_FnPaints.l0 kj8 t351 0 t321 t322 t323 t324 t325 t326 t327 t328 t329 t330 t331 t332 t333 2 t322 t323 t324 t325 t326 t327 t328 t329 128 0 2688 0)) = some r := H
       have A50 := Aside0.mk A500
       clear A500
       by_cases c51 : t321 = 1
       ·rw [if_pos c51] at H
        have c51b0 : (t321 == 1) = true := beq_iff_eq.mpr c51
        have c51b1 : (t321 != 1) = false := bne_eq_false_iff_eq.mpr c51
        clear c51
        replace H := Option.bind_eq_some_iff.mp H
        obtain ⟨⟨t352, t353, t354, t355⟩, A520, H⟩ := H
        replace H : (if (t340 == t352 && (t341 == t353 && (t342 == t354 && (t343 == t355)))) = true then (some (t351 == 0)) else (some false)) = some r := H
        have A52 := Aside0.mk A520
        clear A520
        by_cases c53 : (t340 == t352 && (t341 == t353 && (t342 == t354 && (t343 == t355)))) = true
        ·rw [if_pos c53] at H
         have c53b0 : (t340 == t352 && (t341 == t353 && (t342 == t354 && (t343 == t355)))) = true := c53
         (try (have c53b1 : decide (t340 = t352 && (t341 == t353 && (t342 == t354 && (t343 == t355)))) = true := by simpa using c53))
         (try (have c53b2 : (t340 == t352 && (t341 == t353 && (t342 == t354 && (t343 == t355)))) = true := by simpa using c53))
         clear c53
         obtain rfl := Option.some.inj H
         simp only [Option.some.injEq, Prod.mk.injEq] at H
         obtain ⟨rfl⟩ := H
         have hnb54 := NB334_344.out; have hnc54 := NB344_334.out
         have hcz55_0 : wc.cell? ⟨gb334, 0, none⟩ = some (.int .i64 t321) := (blk_cell BK334.out 0).trans rfl
         have hcz55_1 : wc.cell? ⟨gb334, 1, none⟩ = some (.int .i64 t322) := (blk_cell BK334.out 1).trans rfl
         have hcz55_2 : wc.cell? ⟨gb334, 2, none⟩ = some (.int .i64 t323) := (blk_cell BK334.out 2).trans rfl
         have hcz55_3 : wc.cell? ⟨gb334, 3, none⟩ = some (.int .i64 t324) := (blk_cell BK334.out 3).trans rfl
         have hcz55_4 : wc.cell? ⟨gb334, 4, none⟩ = some (.int .i64 t325) := (blk_cell BK334.out 4).trans rfl
         have hcz55_5 : wc.cell? ⟨gb334, 5, none⟩ = some (.int .i64 t326) := (blk_cell BK334.out 5).trans rfl
         have hcz55_6 : wc.cell? ⟨gb334, 6, none⟩ = some (.int .i64 t327) := (blk_cell BK334.out 6).trans rfl
         have hcz55_7 : wc.cell? ⟨gb334, 7, none⟩ = some (.int .i64 t328) := (blk_cell BK334.out 7).trans rfl
         have hcz55_8 : wc.cell? ⟨gb334, 8, none⟩ = some (.int .i64 t329) := (blk_cell BK334.out 8).trans rfl
         have hcz55_9 : wc.cell? ⟨gb334, 9, none⟩ = some (.int .i64 t330) := (blk_cell BK334.out 9).trans rfl
         have hcz55_10 : wc.cell? ⟨gb334, 10, none⟩ = some (.int .i64 t331) := (blk_cell BK334.out 10).trans rfl
         have hcz55_11 : wc.cell? ⟨gb334, 11, none⟩ = some (.int .i64 t332) := (blk_cell BK334.out 11).trans rfl
         have hcz55_12 : wc.cell? ⟨gb334, 12, none⟩ = some (.int .i64 t333) := (blk_cell BK334.out 12).trans rfl
         have hfz55_0 := blk_frozen BK334.out 0
         have hfz55_1 := blk_frozen BK334.out 1
         have hfz55_2 := blk_frozen BK334.out 2
         have hfz55_3 := blk_frozen BK334.out 3
         have hfz55_4 := blk_frozen BK334.out 4
         have hfz55_5 := blk_frozen BK334.out 5
         have hfz55_6 := blk_frozen BK334.out 6
         have hfz55_7 := blk_frozen BK334.out 7
         have hfz55_8 := blk_frozen BK334.out 8
         have hfz55_9 := blk_frozen BK334.out 9
         have hfz55_10 := blk_frozen BK334.out 10
         have hfz55_11 := blk_frozen BK334.out 11
         have hfz55_12 := blk_frozen BK334.out 12
         try go_wp2_with (first | ((with_reducible refine gate_callee (f := 23) rfl ?_); refine goesL_ (some 71) rfl rfl Try.func23 (by kernel_rfl) rfl #[.agg #[.int .i64 t321, .int .i64 t322, .int .i64 t323, .int .i64 t324, .int .i64 t325, .int .i64 t326, .int .i64 t327, .int .i64 t328, .int .i64 t329, .int .i64 t330, .int .i64 t331, .int .i64 t332, .int .i64 t333], .int .i64 (wrap64 ((Int.tmod (rd t335 0) 14) - 1)), .int .i64 (wrap64 ((Int.tmod (rd t335 1) 14) - 1))] rfl z9_41 ?_; (with_reducible refine (impl_PartOf.calls t321 t322 t323 t324 t325 t326 t327 t328 t329 t330 t331 t332 t333 (wrap64 ((Int.tmod (rd t335 0) 14) - 1)) (wrap64 ((Int.tmod (rd t335 1) 14) - 1)) t351 _ A50.out).mono ?_); rintro e w56 ⟨rfl, hb⟩; refine ⟨_, rfl, ?_⟩; have n0_ := Aside0.mk (blk_below (g := gb334) (o := .cells #[.int .i64 t321, .int .i64 t322, .int .i64 t323, .int .i64 t324, .int .i64 t325, .int .i64 t326, .int .i64 t327, .int .i64 t328, .int .i64 t329, .int .i64 t330, .int .i64 t331, .int .i64 t332, .int .i64 t333] 44 (0, 0)) z9_42 hb); have n1_ := Aside0.mk (blk_below (g := gb344) (o := .cells #[.int .i64 t340, .int .i64 t341, .int .i64 t342, .int .i64 t343] 27 (0, 0)) z9_44 hb); have n2_ := Aside0.mk (below_step z9_43 hb); clear BK334; clear BK344; clear HB; have BK334 := n0_; have BK344 := n1_; have HB := n2_; clear n0_ n1_ n2_; (try clear hb); (try clear hb2); (try clear hk); (try clear hi); have hcz57_0 : w56.cell? ⟨gb334, 0, none⟩ = some (.int .i64 t321) := (blk_cell BK334.out 0).trans rfl; have hcz57_1 : w56.cell? ⟨gb334, 1, none⟩ = some (.int .i64 t322) := (blk_cell BK334.out 1).trans rfl; have hcz57_2 : w56.cell? ⟨gb334, 2, none⟩ = some (.int .i64 t323) := (blk_cell BK334.out 2).trans rfl; have hcz57_3 : w56.cell? ⟨gb334, 3, none⟩ = some (.int .i64 t324) := (blk_cell BK334.out 3).trans rfl; have hcz57_4 : w56.cell? ⟨gb334, 4, none⟩ = some (.int .i64 t325) := (blk_cell BK334.out 4).trans rfl; have hcz57_5 : w56.cell? ⟨gb334, 5, none⟩ = some (.int .i64 t326) := (blk_cell BK334.out 5).trans rfl; have hcz57_6 : w56.cell? ⟨gb334, 6, none⟩ = some (.int .i64 t327) := (blk_cell BK334.out 6).trans rfl; have hcz57_7 : w56.cell? ⟨gb334, 7, none⟩ = some (.int .i64 t328) := (blk_cell BK334.out 7).trans rfl; have hcz57_8 : w56.cell? ⟨gb334, 8, none⟩ = some (.int .i64 t329) := (blk_cell BK334.out 8).trans rfl; have hcz57_9 : w56.cell? ⟨gb334, 9, none⟩ = some (.int .i64 t330) := (blk_cell BK334.out 9).trans rfl; have hcz57_10 : w56.cell? ⟨gb334, 10, none⟩ = some (.int .i64 t331) := (blk_cell BK334.out 10).trans rfl; have hcz57_11 : w56.cell? ⟨gb334, 11, none⟩ = some (.int .i64 t332) := (blk_cell BK334.out 11).trans rfl; have hcz57_12 : w56.cell? ⟨gb334, 12, none⟩ = some (.int .i64 t333) := (blk_cell BK334.out 12).trans rfl; have hfz57_0 := blk_frozen BK334.out 0; have hfz57_1 := blk_frozen BK334.out 1; have hfz57_2 := blk_frozen BK334.out 2; have hfz57_3 := blk_frozen BK334.out 3; have hfz57_4 := blk_frozen BK334.out 4; have hfz57_5 := blk_frozen BK334.out 5; have hfz57_6 := blk_frozen BK334.out 6; have hfz57_7 := blk_frozen BK334.out 7; have hfz57_8 := blk_frozen BK334.out 8; have hfz57_9 := blk_frozen BK334.out 9; have hfz57_10 := blk_frozen BK334.out 10; have hfz57_11 := blk_frozen BK334.out 11; have hfz57_12 := blk_frozen BK334.out 12))
         have n0_ := Aside0.mk (blk_drew BK334.out)
         have n1_ := Aside0.mk (blk_drew BK344.out)
         have n2_ := Aside0.mk (below_drew1 HB.out)
         clear BK334; clear BK344; clear HB; have BK334 := n0_; have BK344 := n1_; have HB := n2_; clear n0_ n1_ n2_
         refine start_ (n := 10) (S := fun w' => w'.cell? ⟨gb344, 0, none⟩ = some (.int .i64 t340) ∧ w'.cell? ⟨gb344, 1, none⟩ = some (.int .i64 t341) ∧ w'.cell? ⟨gb344, 2, none⟩ = some (.int .i64 t342) ∧ w'.cell? ⟨gb344, 3, none⟩ = some (.int .i64 t343) ∧ w'.cell? ⟨gb334, 0, none⟩ = some (.int .i64 t321) ∧ w'.cell? ⟨gb334, 1, none⟩ = some (.int .i64 t322) ∧ w'.cell? ⟨gb334, 2, none⟩ = some (.int .i64 t323) ∧ w'.cell? ⟨gb334, 3, none⟩ = some (.int .i64 t324) ∧ w'.cell? ⟨gb334, 4, none⟩ = some (.int .i64 t325) ∧ w'.cell? ⟨gb334, 5, none⟩ = some (.int .i64 t326) ∧ w'.cell? ⟨gb334, 6, none⟩ = some (.int .i64 t327) ∧ w'.cell? ⟨gb334, 7, none⟩ = some (.int .i64 t328) ∧ w'.cell? ⟨gb334, 8, none⟩ = some (.int .i64 t329) ∧ w'.cell? ⟨gb334, 9, none⟩ = some (.int .i64 t330) ∧ w'.cell? ⟨gb334, 10, none⟩ = some (.int .i64 t331) ∧ w'.cell? ⟨gb334, 11, none⟩ = some (.int .i64 t332) ∧ w'.cell? ⟨gb334, 12, none⟩ = some (.int .i64 t333)) (ds := []) #[false, false, false, false, false, false, false, false, false, false] (by kernel_rfl) rfl rfl ⟨(blk_cell BK344.out 0).trans rfl, (blk_cell BK344.out 1).trans rfl, (blk_cell BK344.out 2).trans rfl, (blk_cell BK344.out 3).trans rfl, (blk_cell BK334.out 0).trans rfl, (blk_cell BK334.out 1).trans rfl, (blk_cell BK334.out 2).trans rfl, (blk_cell BK334.out 3).trans rfl, (blk_cell BK334.out 4).trans rfl, (blk_cell BK334.out 5).trans rfl, (blk_cell BK334.out 6).trans rfl, (blk_cell BK334.out 7).trans rfl, (blk_cell BK334.out 8).trans rfl, (blk_cell BK334.out 9).trans rfl, (blk_cell BK334.out 10).trans rfl, (blk_cell BK334.out 11).trans rfl, (blk_cell BK334.out 12).trans rfl⟩ (fun hHeld => ?_); refine with_tabW laws_FnPaints.tab12 laws_FnPaints.bits12 (fun HT_ HW_ => ?_)
         generalize w56.drew = w58 at BK334 BK344 HB hHeld ⊢
         refine pure_ (i := 1) (N := some 76) (v := ?_) (a' := ?_) #[false, true, false, false, false, false, false, false, false, false] rfl rfl (any_of HT_.out (by kernel_rfl)) (fun _ _ _ h => h) (Or.inl ⟨by rfl, ?_⟩) ?_ ?_; rotate_left
         ·intro w'
          go_simp; with_reducible rfl
         rotate_left
         ·exact x9_put
         refine take_ (i := 0) (N := some 75) (v := ?_) (a' := ?_) #[true, true, false, false, false, false, false, false, false, false] rfl rfl (take_ofW HT_.out HW_.out (by kernel_rfl)) (fun _ _ _ h => h) (Or.inl ⟨by rfl, ?_⟩) hHeld ?_ ?_
         rotate_left
         ·rintro w' ⟨s0, s1, s2, s3, s4, s5, s6, s7, s8, s9, s10, s11, s12, s13, s14, s15, s16⟩
          go_simp; with_reducible rfl
         rotate_left
         ·exact x9_put
         refine take_ (i := 2) (N := some 77) (v := ?_) (a' := ?_) #[true, true, true, false, false, false, false, false, false, false] rfl rfl (take_ofW HT_.out HW_.out (by kernel_rfl)) (fun _ _ _ h => h) (Or.inl ⟨by rfl, ?_⟩) hHeld ?_ ?_
         rotate_left
         ·rintro w' ⟨s0, s1, s2, s3, s4, s5, s6, s7, s8, s9, s10, s11, s12, s13, s14, s15, s16⟩
          go_simp; with_reducible rfl
         rotate_left
         ·exact x9_put
         refine one_ (i := 3) (N := some 78) #[true, true, true, true, false, false, false, false, false, false] rfl rfl (one_of HT_.out (by kernel_rfl)) (by decide) (fun K hK => ?_)
         refine goes_ Try.func61 (by kernel_rfl) rfl #[.agg #[.int .i64 t322, .int .i64 t323, .int .i64 t324, .int .i64 t325]] (by rfl) rfl rfl z9_41 ?_
         with_reducible refine (impl_Laid.calls t322 t323 t324 t325 t352 t353 t354 t355 _ A52.out).mono ?_
         rintro e w59 ⟨rfl, hb⟩
         refine ⟨_, rfl, ?_⟩
         have n0_ := Aside0.mk (blk_below (g := gb334) (o := .cells #[.int .i64 t321, .int .i64 t322, .int .i64 t323, .int .i64 t324, .int .i64 t325, .int .i64 t326, .int .i64 t327, .int .i64 t328, .int .i64 t329, .int .i64 t330, .int .i64 t331, .int .i64 t332, .int .i64 t333] 44 (0, 0)) z9_42 hb)
         have n1_ := Aside0.mk (blk_below (g := gb344) (o := .cells #[.int .i64 t340, .int .i64 t341, .int .i64 t342, .int .i64 t343] 27 (0, 0)) z9_44 hb)
         have n2_ := Aside0.mk (below_step z9_43 hb)
         clear BK334; clear BK344; clear HB; have BK334 := n0_; have BK344 := n1_; have HB := n2_; clear n0_ n1_ n2_; (try clear hb); (try clear hb2); (try clear hk); (try clear hi)
         refine hK.out _ _ ⟨(blk_cell BK344.out 0).trans rfl, (blk_cell BK344.out 1).trans rfl, (blk_cell BK344.out 2).trans rfl, (blk_cell BK344.out 3).trans rfl, (blk_cell BK334.out 0).trans rfl, (blk_cell BK334.out 1).trans rfl, (blk_cell BK334.out 2).trans rfl, (blk_cell BK334.out 3).trans rfl, (blk_cell BK334.out 4).trans rfl, (blk_cell BK334.out 5).trans rfl, (blk_cell BK334.out 6).trans rfl, (blk_cell BK334.out 7).trans rfl, (blk_cell BK334.out 8).trans rfl, (blk_cell BK334.out 9).trans rfl, (blk_cell BK334.out 10).trans rfl, (blk_cell BK334.out 11).trans rfl, (blk_cell BK334.out 12).trans rfl⟩ (fun hHeld => ?_)
         clear hK K
         refine norm_ (a' := ?_) ?_ ?_
         rotate_left
         ·show Act.put _ (some 78) _ = _
          simp only [Act.put, List.setIfInBounds_toArray, List.set_cons_zero, List.set_cons_succ, i64_w, i32_w]
          rfl
         refine pure_ (i := 4) (N := some 79) (v := ?_) (a' := ?_) #[true, true, true, true, true, false, false, false, false, false] rfl rfl (any_of HT_.out (by kernel_rfl)) (fun _ _ _ h => h) (Or.inl ⟨by rfl, ?_⟩) ?_ ?_; rotate_left
         ·intro w'
          go_simp; with_reducible rfl
         rotate_left
         ·exact x9_put
         refine pure_ (i := 5) (N := some 80) (v := ?_) (a' := ?_) #[true, true, true, true, true, true, false, false, false, false] rfl rfl (any_of HT_.out (by kernel_rfl)) (fun _ _ _ h => h) (Or.inl ⟨by rfl, ?_⟩) ?_ ?_; rotate_left
         ·intro w'
          go_simp; with_reducible rfl
         rotate_left
         ·exact x9_put
         refine pure_ (i := 6) (N := some 81) (v := ?_) (a' := ?_) #[true, true, true, true, true, true, true, false, false, false] rfl rfl (any_of HT_.out (by kernel_rfl)) (fun _ _ _ h => h) (Or.inl ⟨by rfl, ?_⟩) ?_ ?_; rotate_left
         ·intro w'
          go_simp; with_reducible rfl
         rotate_left
         ·exact x9_put
         refine pure_ (i := 7) (N := some 82) (v := ?_) (a' := ?_) #[true, true, true, true, true, true, true, true, false, false] rfl rfl (any_of HT_.out (by kernel_rfl)) (fun _ _ _ h => h) (Or.inl ⟨by rfl, ?_⟩) ?_ ?_; rotate_left
         ·intro w'
          go_simp; with_reducible rfl
         rotate_left
         ·exact x9_put
         refine pure_ (i := 8) (N := some 83) (v := ?_) (a' := ?_) #[true, true, true, true, true, true, true, true, true, false] rfl rfl (any_of HT_.out (by kernel_rfl)) (fun _ _ _ h => h) (Or.inl ⟨by rfl, ?_⟩) ?_ ?_; rotate_left
         ·intro w'
          go_simp; with_reducible rfl
         rotate_left
         ·exact x9_put
         refine pure_ (i := 9) (N := some 2) (v := ?_) (a' := ?_) #[true, true, true, true, true, true, true, true, true, true] rfl rfl (any_of HT_.out (by kernel_rfl)) (fun _ _ _ h => h) (Or.inl ⟨by rfl, ?_⟩) ?_ ?_; rotate_left
         ·intro w'
          go_simp; with_reducible rfl
         rotate_left
         ·exact x9_put
         refine done_ (done_of HT_.out (by kernel_rfl)) ?_
         try go_wp2
         go_ret
         exact ⟨by first | rfl | (simp [errW_none, errW_some] <;> rfl) | (simp [*, errW_none, errW_some] <;> rfl), by repeat (first | (with_reducible first | exact HB.out | apply below_alloc | apply pw_below_drewN | apply below_drew1 | refine below_set ?_ GE334.out | refine below_set ?_ GE344.out) | exact HB.out)⟩
        ·rw [if_neg c53] at H
         have c53b0 : (t340 == t352 && (t341 == t353 && (t342 == t354 && (t343 == t355)))) = false := by simpa using c53
         (try (have c53b1 : decide (t340 = t352 && (t341 == t353 && (t342 == t354 && (t343 == t355)))) = false := by simpa using c53))
         (try (have c53b2 : (t340 == t352 && (t341 == t353 && (t342 == t354 && (t343 == t355)))) = false := by simpa using c53))
         (try (have c53b3 : ¬ (t340 = t352 && (t341 == t353 && (t342 == t354 && (t343 == t355)))) := by simpa using c53))
         clear c53
         obtain rfl := Option.some.inj H
         exact absurd hT Bool.false_ne_true
       ·rw [if_neg c51] at H
        have c51b0 : (t321 == 1) = false := beq_eq_false_iff_ne.mpr c51
        have c51b1 : (t321 != 1) = true := bne_iff_ne.mpr c51
        have H' := Aside0.mk H
        clear H; have hnb60 := NB334_344.out; have hnc60 := NB344_334.out
        have hcz61_0 : wc.cell? ⟨gb334, 0, none⟩ = some (.int .i64 t321) := (blk_cell BK334.out 0).trans rfl
        have hcz61_1 : wc.cell? ⟨gb334, 1, none⟩ = some (.int .i64 t322) := (blk_cell BK334.out 1).trans rfl
        have hcz61_2 : wc.cell? ⟨gb334, 2, none⟩ = some (.int .i64 t323) := (blk_cell BK334.out 2).trans rfl
        have hcz61_3 : wc.cell? ⟨gb334, 3, none⟩ = some (.int .i64 t324) := (blk_cell BK334.out 3).trans rfl
        have hcz61_4 : wc.cell? ⟨gb334, 4, none⟩ = some (.int .i64 t325) := (blk_cell BK334.out 4).trans rfl
        have hcz61_5 : wc.cell? ⟨gb334, 5, none⟩ = some (.int .i64 t326) := (blk_cell BK334.out 5).trans rfl
        have hcz61_6 : wc.cell? ⟨gb334, 6, none⟩ = some (.int .i64 t327) := (blk_cell BK334.out 6).trans rfl
        have hcz61_7 : wc.cell? ⟨gb334, 7, none⟩ = some (.int .i64 t328) := (blk_cell BK334.out 7).trans rfl
        have hcz61_8 : wc.cell? ⟨gb334, 8, none⟩ = some (.int .i64 t329) := (blk_cell BK334.out 8).trans rfl
        have hcz61_9 : wc.cell? ⟨gb334, 9, none⟩ = some (.int .i64 t330) := (blk_cell BK334.out 9).trans rfl
        have hcz61_10 : wc.cell? ⟨gb334, 10, none⟩ = some (.int .i64 t331) := (blk_cell BK334.out 10).trans rfl
        have hcz61_11 : wc.cell? ⟨gb334, 11, none⟩ = some (.int .i64 t332) := (blk_cell BK334.out 11).trans rfl
        have hcz61_12 : wc.cell? ⟨gb334, 12, none⟩ = some (.int .i64 t333) := (blk_cell BK334.out 12).trans rfl
        have hfz61_0 := blk_frozen BK334.out 0
        have hfz61_1 := blk_frozen BK334.out 1
        have hfz61_2 := blk_frozen BK334.out 2
        have hfz61_3 := blk_frozen BK334.out 3
        have hfz61_4 := blk_frozen BK334.out 4
        have hfz61_5 := blk_frozen BK334.out 5
        have hfz61_6 := blk_frozen BK334.out 6
        have hfz61_7 := blk_frozen BK334.out 7
        have hfz61_8 := blk_frozen BK334.out 8
        have hfz61_9 := blk_frozen BK334.out 9
        have hfz61_10 := blk_frozen BK334.out 10
        have hfz61_11 := blk_frozen BK334.out 11
        have hfz61_12 := blk_frozen BK334.out 12
        go_wp2_with (first | ((with_reducible refine gate_callee (f := 23) rfl ?_); refine goesL_ (some 71) rfl rfl Try.func23 (by kernel_rfl) rfl #[.agg #[.int .i64 t321, .int .i64 t322, .int .i64 t323, .int .i64 t324, .int .i64 t325, .int .i64 t326, .int .i64 t327, .int .i64 t328, .int .i64 t329, .int .i64 t330, .int .i64 t331, .int .i64 t332, .int .i64 t333], .int .i64 (wrap64 ((Int.tmod (rd t335 0) 14) - 1)), .int .i64 (wrap64 ((Int.tmod (rd t335 1) 14) - 1))] rfl z9_41 ?_; (with_reducible refine (impl_PartOf.calls t321 t322 t323 t324 t325 t326 t327 t328 t329 t330 t331 t332 t333 (wrap64 ((Int.tmod (rd t335 0) 14) - 1)) (wrap64 ((Int.tmod (rd t335 1) 14) - 1)) t351 _ A50.out).mono ?_); rintro e w62 ⟨rfl, hb⟩; refine ⟨_, rfl, ?_⟩; have n0_ := Aside0.mk (blk_below (g := gb334) (o := .cells #[.int .i64 t321, .int .i64 t322, .int .i64 t323, .int .i64 t324, .int .i64 t325, .int .i64 t326, .int .i64 t327, .int .i64 t328, .int .i64 t329, .int .i64 t330, .int .i64 t331, .int .i64 t332, .int .i64 t333] 44 (0, 0)) z9_42 hb); have n1_ := Aside0.mk (blk_below (g := gb344) (o := .cells #[.int .i64 t340, .int .i64 t341, .int .i64 t342, .int .i64 t343] 27 (0, 0)) z9_44 hb); have n2_ := Aside0.mk (below_step z9_43 hb); clear BK334; clear BK344; clear HB; have BK334 := n0_; have BK344 := n1_; have HB := n2_; clear n0_ n1_ n2_; (try clear hb); (try clear hb2); (try clear hk); (try clear hi); have hcz63_0 : w62.cell? ⟨gb334, 0, none⟩ = some (.int .i64 t321) := (blk_cell BK334.out 0).trans rfl; have hcz63_1 : w62.cell? ⟨gb334, 1, none⟩ = some (.int .i64 t322) := (blk_cell BK334.out 1).trans rfl; have hcz63_2 : w62.cell? ⟨gb334, 2, none⟩ = some (.int .i64 t323) := (blk_cell BK334.out 2).trans rfl; have hcz63_3 : w62.cell? ⟨gb334, 3, none⟩ = some (.int .i64 t324) := (blk_cell BK334.out 3).trans rfl; have hcz63_4 : w62.cell? ⟨gb334, 4, none⟩ = some (.int .i64 t325) := (blk_cell BK334.out 4).trans rfl; have hcz63_5 : w62.cell? ⟨gb334, 5, none⟩ = some (.int .i64 t326) := (blk_cell BK334.out 5).trans rfl; have hcz63_6 : w62.cell? ⟨gb334, 6, none⟩ = some (.int .i64 t327) := (blk_cell BK334.out 6).trans rfl; have hcz63_7 : w62.cell? ⟨gb334, 7, none⟩ = some (.int .i64 t328) := (blk_cell BK334.out 7).trans rfl; have hcz63_8 : w62.cell? ⟨gb334, 8, none⟩ = some (.int .i64 t329) := (blk_cell BK334.out 8).trans rfl; have hcz63_9 : w62.cell? ⟨gb334, 9, none⟩ = some (.int .i64 t330) := (blk_cell BK334.out 9).trans rfl; have hcz63_10 : w62.cell? ⟨gb334, 10, none⟩ = some (.int .i64 t331) := (blk_cell BK334.out 10).trans rfl; have hcz63_11 : w62.cell? ⟨gb334, 11, none⟩ = some (.int .i64 t332) := (blk_cell BK334.out 11).trans rfl; have hcz63_12 : w62.cell? ⟨gb334, 12, none⟩ = some (.int .i64 t333) := (blk_cell BK334.out 12).trans rfl; have hfz63_0 := blk_frozen BK334.out 0; have hfz63_1 := blk_frozen BK334.out 1; have hfz63_2 := blk_frozen BK334.out 2; have hfz63_3 := blk_frozen BK334.out 3; have hfz63_4 := blk_frozen BK334.out 4; have hfz63_5 := blk_frozen BK334.out 5; have hfz63_6 := blk_frozen BK334.out 6; have hfz63_7 := blk_frozen BK334.out 7; have hfz63_8 := blk_frozen BK334.out 8; have hfz63_9 := blk_frozen BK334.out 9; have hfz63_10 := blk_frozen BK334.out 10; have hfz63_11 := blk_frozen BK334.out 11; have hfz63_12 := blk_frozen BK334.out 12) | ((with_reducible refine gate_dst (N := 9) rfl ?_); refine box_event ?hg (N := 9) ?hd (cs := #[.int .i64 0, .int .i64 0, .int .i64 0, .int .i64 0, .int .i64 0, .int .i64 0, .int .i64 0, .int .i64 0, .int .i64 0, .int .i64 0, .int .i64 0, .int .i64 0, .int .i64 0]) (t := 44) ?hr ?_; (case hd => rfl); (case hg => rfl); (case hr => first | (go_simp; done) | (go_simp; rfl)); intro gb356 hg w64 hbox hb; have n0_ := Aside0.mk (blk_below (g := gb334) (o := .cells #[.int .i64 t321, .int .i64 t322, .int .i64 t323, .int .i64 t324, .int .i64 t325, .int .i64 t326, .int .i64 t327, .int .i64 t328, .int .i64 t329, .int .i64 t330, .int .i64 t331, .int .i64 t332, .int .i64 t333] 44 (0, 0)) z9_42 hb); have n1_ := Aside0.mk (blk_below (g := gb344) (o := .cells #[.int .i64 t340, .int .i64 t341, .int .i64 t342, .int .i64 t343] 27 (0, 0)) z9_44 hb); have n2_ := Aside0.mk (below_step z9_43 hb); have n3_ := Aside0.mk (hbox); have n4_ := Aside0.mk ((by rw [hg]; exact (below_size z9_43) : w.heap.size ≤ gb356)); have n5_ := Aside0.mk ((by rw [hg]; exact (below_size z9_43) : w.heap.size ≤ gb356)); have n6_ := Aside0.mk ((by rw [hg]; exact Nat.ne_of_lt (blk_lt (g := gb334) (o := .cells #[.int .i64 t321, .int .i64 t322, .int .i64 t323, .int .i64 t324, .int .i64 t325, .int .i64 t326, .int .i64 t327, .int .i64 t328, .int .i64 t329, .int .i64 t330, .int .i64 t331, .int .i64 t332, .int .i64 t333] 44 (0, 0)) z9_42) : gb334 ≠ gb356)); have n7_ := Aside0.mk ((by rw [hg]; exact Nat.ne_of_gt (blk_lt (g := gb334) (o := .cells #[.int .i64 t321, .int .i64 t322, .int .i64 t323, .int .i64 t324, .int .i64 t325, .int .i64 t326, .int .i64 t327, .int .i64 t328, .int .i64 t329, .int .i64 t330, .int .i64 t331, .int .i64 t332, .int .i64 t333] 44 (0, 0)) z9_42) : gb356 ≠ gb334)); have n8_ := Aside0.mk ((by rw [hg]; exact Nat.ne_of_lt (blk_lt (g := gb344) (o := .cells #[.int .i64 t340, .int .i64 t341, .int .i64 t342, .int .i64 t343] 27 (0, 0)) z9_44) : gb344 ≠ gb356)); have n9_ := Aside0.mk ((by rw [hg]; exact Nat.ne_of_gt (blk_lt (g := gb344) (o := .cells #[.int .i64 t340, .int .i64 t341, .int .i64 t342, .int .i64 t343] 27 (0, 0)) z9_44) : gb356 ≠ gb344)); clear BK334; clear BK344; clear HB; have BK334 := n0_; have BK344 := n1_; have HB := n2_; have BK356 := n3_; have GW356 := n4_; have GE356 := n5_; have NB334_356 := n6_; have NB356_334 := n7_; have NB344_356 := n8_; have NB356_344 := n9_; clear n0_ n1_ n2_ n3_ n4_ n5_ n6_ n7_ n8_ n9_; clear hb hbox hg; have hnb65 := NB356_334.out; have hnc65 := NB334_356.out; have hnb66 := NB356_344.out; have hnc66 := NB344_356.out; have hcz67_0 : w64.cell? ⟨gb356, 0, none⟩ = some (.int .i64 0) := (blk_cell BK356.out 0).trans rfl; have hcz67_1 : w64.cell? ⟨gb356, 1, none⟩ = some (.int .i64 0) := (blk_cell BK356.out 1).trans rfl; have hcz67_2 : w64.cell? ⟨gb356, 2, none⟩ = some (.int .i64 0) := (blk_cell BK356.out 2).trans rfl; have hcz67_3 : w64.cell? ⟨gb356, 3, none⟩ = some (.int .i64 0) := (blk_cell BK356.out 3).trans rfl; have hcz67_4 : w64.cell? ⟨gb356, 4, none⟩ = some (.int .i64 0) := (blk_cell BK356.out 4).trans rfl; have hcz67_5 : w64.cell? ⟨gb356, 5, none⟩ = some (.int .i64 0) := (blk_cell BK356.out 5).trans rfl; have hcz67_6 : w64.cell? ⟨gb356, 6, none⟩ = some (.int .i64 0) := (blk_cell BK356.out 6).trans rfl; have hcz67_7 : w64.cell? ⟨gb356, 7, none⟩ = some (.int .i64 0) := (blk_cell BK356.out 7).trans rfl; have hcz67_8 : w64.cell? ⟨gb356, 8, none⟩ = some (.int .i64 0) := (blk_cell BK356.out 8).trans rfl; have hcz67_9 : w64.cell? ⟨gb356, 9, none⟩ = some (.int .i64 0) := (blk_cell BK356.out 9).trans rfl; have hcz67_10 : w64.cell? ⟨gb356, 10, none⟩ = some (.int .i64 0) := (blk_cell BK356.out 10).trans rfl; have hcz67_11 : w64.cell? ⟨gb356, 11, none⟩ = some (.int .i64 0) := (blk_cell BK356.out 11).trans rfl; have hcz67_12 : w64.cell? ⟨gb356, 12, none⟩ = some (.int .i64 0) := (blk_cell BK356.out 12).trans rfl; have hfz67_0 := blk_frozen BK356.out 0; have hfz67_1 := blk_frozen BK356.out 1; have hfz67_2 := blk_frozen BK356.out 2; have hfz67_3 := blk_frozen BK356.out 3; have hfz67_4 := blk_frozen BK356.out 4; have hfz67_5 := blk_frozen BK356.out 5; have hfz67_6 := blk_frozen BK356.out 6; have hfz67_7 := blk_frozen BK356.out 7; have hfz67_8 := blk_frozen BK356.out 8; have hfz67_9 := blk_frozen BK356.out 9; have hfz67_10 := blk_frozen BK356.out 10; have hfz67_11 := blk_frozen BK356.out 11; have hfz67_12 := blk_frozen BK356.out 12))
        go_loopg [10] kj8 (fun kq v10 w' => ∃ (x10_2 : Int), v10 = .int .i64 x10_2 ∧ Aside0 (laws_FnPaints.l0 kq t351 x10_2 t321 t322 t323 t324 t325 t326 t327 t328 t329 t330 t331 t332 t333 2 t322 t323 t324 t325 t326 t327 t328 t329 128 0 2688 0 = some r) ∧ Aside0 (kq ≤ kj8) ∧ Aside0 (w'.heap[gb334]? = some (.cells #[.int .i64 t321, .int .i64 t322, .int .i64 t323, .int .i64 t324, .int .i64 t325, .int .i64 t326, .int .i64 t327, .int .i64 t328, .int .i64 t329, .int .i64 t330, .int .i64 t331, .int .i64 t332, .int .i64 t333] 44 (0, 0))) ∧ Aside0 (w'.heap[gb344]? = some (.cells #[.int .i64 t340, .int .i64 t341, .int .i64 t342, .int .i64 t343] 27 (0, 0))) ∧ Aside0 (w'.heap[gb356]? = some (.cells #[.int .i64 2, .int .i64 t322, .int .i64 t323, .int .i64 t324, .int .i64 t325, .int .i64 t326, .int .i64 t327, .int .i64 t328, .int .i64 t329, .int .i64 128, .int .i64 0, .int .i64 2688, .int .i64 0] 44 (0, 0))) ∧ Aside0 (Below w.heap.size w w'))
        case atStart => exact ⟨(0), (by first | rfl | (simp; done) | (simp [*]; done)), H', ⟨Nat.le_refl _⟩, ⟨by (with_reducible repeat (first | refine blk_drewN ?_ _ | refine blk_drew ?_ | refine blk_alloc ?_ _)); refine blk_far ?_ NB334_356.out _; (with_reducible repeat (first | refine blk_drewN ?_ _ | refine blk_drew ?_ | refine blk_alloc ?_ _)); refine blk_far ?_ NB334_356.out _; (with_reducible repeat (first | refine blk_drewN ?_ _ | refine blk_drew ?_ | refine blk_alloc ?_ _)); refine blk_far ?_ NB334_356.out _; (with_reducible repeat (first | refine blk_drewN ?_ _ | refine blk_drew ?_ | refine blk_alloc ?_ _)); refine blk_far ?_ NB334_356.out _; (with_reducible repeat (first | refine blk_drewN ?_ _ | refine blk_drew ?_ | refine blk_alloc ?_ _)); refine blk_far ?_ NB334_356.out _; (with_reducible repeat (first | refine blk_drewN ?_ _ | refine blk_drew ?_ | refine blk_alloc ?_ _)); refine blk_far ?_ NB334_356.out _; (with_reducible repeat (first | refine blk_drewN ?_ _ | refine blk_drew ?_ | refine blk_alloc ?_ _)); refine blk_far ?_ NB334_356.out _; (with_reducible repeat (first | refine blk_drewN ?_ _ | refine blk_drew ?_ | refine blk_alloc ?_ _)); refine blk_far ?_ NB334_356.out _; (with_reducible repeat (first | refine blk_drewN ?_ _ | refine blk_drew ?_ | refine blk_alloc ?_ _)); refine blk_far ?_ NB334_356.out _; (with_reducible repeat (first | refine blk_drewN ?_ _ | refine blk_drew ?_ | refine blk_alloc ?_ _)); refine blk_far ?_ NB334_356.out _; (with_reducible repeat (first | refine blk_drewN ?_ _ | refine blk_drew ?_ | refine blk_alloc ?_ _)); refine blk_far ?_ NB334_356.out _; (with_reducible repeat (first | refine blk_drewN ?_ _ | refine blk_drew ?_ | refine blk_alloc ?_ _)); refine blk_far ?_ NB334_356.out _; (with_reducible repeat (first | refine blk_drewN ?_ _ | refine blk_drew ?_ | refine blk_alloc ?_ _)); refine blk_far ?_ NB334_356.out _; (with_reducible repeat (first | refine blk_drewN ?_ _ | refine blk_drew ?_ | refine blk_alloc ?_ _)); exact BK334.out⟩, ⟨by (with_reducible repeat (first | refine blk_drewN ?_ _ | refine blk_drew ?_ | refine blk_alloc ?_ _)); refine blk_far ?_ NB344_356.out _; (with_reducible repeat (first | refine blk_drewN ?_ _ | refine blk_drew ?_ | refine blk_alloc ?_ _)); refine blk_far ?_ NB344_356.out _; (with_reducible repeat (first | refine blk_drewN ?_ _ | refine blk_drew ?_ | refine blk_alloc ?_ _)); refine blk_far ?_ NB344_356.out _; (with_reducible repeat (first | refine blk_drewN ?_ _ | refine blk_drew ?_ | refine blk_alloc ?_ _)); refine blk_far ?_ NB344_356.out _; (with_reducible repeat (first | refine blk_drewN ?_ _ | refine blk_drew ?_ | refine blk_alloc ?_ _)); refine blk_far ?_ NB344_356.out _; (with_reducible repeat (first | refine blk_drewN ?_ _ | refine blk_drew ?_ | refine blk_alloc ?_ _)); refine blk_far ?_ NB344_356.out _; (with_reducible repeat (first | refine blk_drewN ?_ _ | refine blk_drew ?_ | refine blk_alloc ?_ _)); refine blk_far ?_ NB344_356.out _; (with_reducible repeat (first | refine blk_drewN ?_ _ | refine blk_drew ?_ | refine blk_alloc ?_ _)); refine blk_far ?_ NB344_356.out _; (with_reducible repeat (first | refine blk_drewN ?_ _ | refine blk_drew ?_ | refine blk_alloc ?_ _)); refine blk_far ?_ NB344_356.out _; (with_reducible repeat (first | refine blk_drewN ?_ _ | refine blk_drew ?_ | refine blk_alloc ?_ _)); refine blk_far ?_ NB344_356.out _; (with_reducible repeat (first | refine blk_drewN ?_ _ | refine blk_drew ?_ | refine blk_alloc ?_ _)); refine blk_far ?_ NB344_356.out _; (with_reducible repeat (first | refine blk_drewN ?_ _ | refine blk_drew ?_ | refine blk_alloc ?_ _)); refine blk_far ?_ NB344_356.out _; (with_reducible repeat (first | refine blk_drewN ?_ _ | refine blk_drew ?_ | refine blk_alloc ?_ _)); refine blk_far ?_ NB344_356.out _; (with_reducible repeat (first | refine blk_drewN ?_ _ | refine blk_drew ?_ | refine blk_alloc ?_ _)); exact BK344.out⟩, ⟨by (with_reducible repeat (first | refine blk_drewN ?_ _ | refine blk_drew ?_ | refine blk_alloc ?_ _)); refine blk_put (cs := #[.int .i64 2, .int .i64 t322, .int .i64 t323, .int .i64 t324, .int .i64 t325, .int .i64 t326, .int .i64 t327, .int .i64 t328, .int .i64 t329, .int .i64 128, .int .i64 0, .int .i64 2688, .int .i64 0]) ?_ 12 _ rfl; (with_reducible repeat (first | refine blk_drewN ?_ _ | refine blk_drew ?_ | refine blk_alloc ?_ _)); refine blk_put (cs := #[.int .i64 2, .int .i64 t322, .int .i64 t323, .int .i64 t324, .int .i64 t325, .int .i64 t326, .int .i64 t327, .int .i64 t328, .int .i64 t329, .int .i64 128, .int .i64 0, .int .i64 0, .int .i64 0]) ?_ 11 _ rfl; (with_reducible repeat (first | refine blk_drewN ?_ _ | refine blk_drew ?_ | refine blk_alloc ?_ _)); refine blk_put (cs := #[.int .i64 2, .int .i64 t322, .int .i64 t323, .int .i64 t324, .int .i64 t325, .int .i64 t326, .int .i64 t327, .int .i64 t328, .int .i64 t329, .int .i64 128, .int .i64 0, .int .i64 0, .int .i64 0]) ?_ 10 _ rfl; (with_reducible repeat (first | refine blk_drewN ?_ _ | refine blk_drew ?_ | refine blk_alloc ?_ _)); refine blk_put (cs := #[.int .i64 2, .int .i64 t322, .int .i64 t323, .int .i64 t324, .int .i64 t325, .int .i64 t326, .int .i64 t327, .int .i64 t328, .int .i64 t329, .int .i64 0, .int .i64 0, .int .i64 0, .int .i64 0]) ?_ 9 _ rfl; (with_reducible repeat (first | refine blk_drewN ?_ _ | refine blk_drew ?_ | refine blk_alloc ?_ _)); refine blk_put (cs := #[.int .i64 2, .int .i64 t322, .int .i64 t323, .int .i64 t324, .int .i64 t325, .int .i64 t326, .int .i64 t327, .int .i64 t328, .int .i64 0, .int .i64 0, .int .i64 0, .int .i64 0, .int .i64 0]) ?_ 8 _ rfl; (with_reducible repeat (first | refine blk_drewN ?_ _ | refine blk_drew ?_ | refine blk_alloc ?_ _)); refine blk_put (cs := #[.int .i64 2, .int .i64 t322, .int .i64 t323, .int .i64 t324, .int .i64 t325, .int .i64 t326, .int .i64 t327, .int .i64 0, .int .i64 0, .int .i64 0, .int .i64 0, .int .i64 0, .int .i64 0]) ?_ 7 _ rfl; (with_reducible repeat (first | refine blk_drewN ?_ _ | refine blk_drew ?_ | refine blk_alloc ?_ _)); refine blk_put (cs := #[.int .i64 2, .int .i64 t322, .int .i64 t323, .int .i64 t324, .int .i64 t325, .int .i64 t326, .int .i64 0, .int .i64 0, .int .i64 0, .int .i64 0, .int .i64 0, .int .i64 0, .int .i64 0]) ?_ 6 _ rfl; (with_reducible repeat (first | refine blk_drewN ?_ _ | refine blk_drew ?_ | refine blk_alloc ?_ _)); refine blk_put (cs := #[.int .i64 2, .int .i64 t322, .int .i64 t323, .int .i64 t324, .int .i64 t325, .int .i64 0, .int .i64 0, .int .i64 0, .int .i64 0, .int .i64 0, .int .i64 0, .int .i64 0, .int .i64 0]) ?_ 5 _ rfl; (with_reducible repeat (first | refine blk_drewN ?_ _ | refine blk_drew ?_ | refine blk_alloc ?_ _)); refine blk_put (cs := #[.int .i64 2, .int .i64 t322, .int .i64 t323, .int .i64 t324, .int .i64 0, .int .i64 0, .int .i64 0, .int .i64 0, .int .i64 0, .int .i64 0, .int .i64 0, .int .i64 0, .int .i64 0]) ?_ 4 _ rfl; (with_reducible repeat (first | refine blk_drewN ?_ _ | refine blk_drew ?_ | refine blk_alloc ?_ _)); refine blk_put (cs := #[.int .i64 2, .int .i64 t322, .int .i64 t323, .int .i64 0, .int .i64 0, .int .i64 0, .int .i64 0, .int .i64 0, .int .i64 0, .int .i64 0, .int .i64 0, .int .i64 0, .int .i64 0]) ?_ 3 _ rfl; (with_reducible repeat (first | refine blk_drewN ?_ _ | refine blk_drew ?_ | refine blk_alloc ?_ _)); refine blk_put (cs := #[.int .i64 2, .int .i64 t322, .int .i64 0, .int .i64 0, .int .i64 0, .int .i64 0, .int .i64 0, .int .i64 0, .int .i64 0, .int .i64 0, .int .i64 0, .int .i64 0, .int .i64 0]) ?_ 2 _ rfl; (with_reducible repeat (first | refine blk_drewN ?_ _ | refine blk_drew ?_ | refine blk_alloc ?_ _)); refine blk_put (cs := #[.int .i64 2, .int .i64 0, .int .i64 0, .int .i64 0, .int .i64 0, .int .i64 0, .int .i64 0, .int .i64 0, .int .i64 0, .int .i64 0, .int .i64 0, .int .i64 0, .int .i64 0]) ?_ 1 _ rfl; (with_reducible repeat (first | refine blk_drewN ?_ _ | refine blk_drew ?_ | refine blk_alloc ?_ _)); refine blk_put (cs := #[.int .i64 0, .int .i64 0, .int .i64 0, .int .i64 0, .int .i64 0, .int .i64 0, .int .i64 0, .int .i64 0, .int .i64 0, .int .i64 0, .int .i64 0, .int .i64 0, .int .i64 0]) ?_ 0 _ rfl; (with_reducible repeat (first | refine blk_drewN ?_ _ | refine blk_drew ?_ | refine blk_alloc ?_ _)); exact BK356.out⟩, ⟨by repeat (first | (with_reducible first | exact HB.out | apply below_alloc | apply pw_below_drewN | apply below_drew1 | refine below_set ?_ GE334.out | refine below_set ?_ GE344.out | refine below_set ?_ GE356.out) | exact HB.out)⟩⟩
        case round =>
         clear H'
         try clear c2
         try clear p2
         try clear c4
         try clear c5
         try clear c6
         try clear p6
         try clear c21
         try clear c23
         try clear c49
         try clear c51
         try clear c51b0
         try clear c51b1
         try clear c53
         try clear c53b0
         try clear c53b1
         try clear c53b2
         try clear c54
         try clear c59
         try clear c60
         try clear c61
         try clear p64
         try clear c65
         try clear c66
         try clear hcz55_0
         try clear hcz55_1
         try clear hcz55_10
         try clear hcz55_11
         try clear hcz55_12
         try clear hcz55_2
         try clear hcz55_3
         try clear hcz55_4
         try clear hcz55_5
         try clear hcz55_6
         try clear hcz55_7
         try clear hcz55_8
         try clear hcz55_9
         try clear hcz57_0
         try clear hcz57_1
         try clear hcz57_10
         try clear hcz57_11
         try clear hcz57_12
         try clear hcz57_2
         try clear hcz57_3
         try clear hcz57_4
         try clear hcz57_5
         try clear hcz57_6
         try clear hcz57_7
         try clear hcz57_8
         try clear hcz57_9
         try clear hcz61_0
         try clear hcz61_1
         try clear hcz61_10
         try clear hcz61_11
         try clear hcz61_12
         try clear hcz61_2
         try clear hcz61_3
         try clear hcz61_4
         try clear hcz61_5
         try clear hcz61_6
         try clear hcz61_7
         try clear hcz61_8
         try clear hcz61_9
         try clear hcz63_0
         try clear hcz63_1
         try clear hcz63_10
         try clear hcz63_11
         try clear hcz63_12
         try clear hcz63_2
         try clear hcz63_3
         try clear hcz63_4
         try clear hcz63_5
         try clear hcz63_6
         try clear hcz63_7
         try clear hcz63_8
         try clear hcz63_9
         try clear hcz67_0
         try clear hcz67_1
         try clear hcz67_10
         try clear hcz67_11
         try clear hcz67_12
         try clear hcz67_2
         try clear hcz67_3
         try clear hcz67_4
         try clear hcz67_5
         try clear hcz67_6
         try clear hcz67_7
         try clear hcz67_8
         try clear hcz67_9
         try clear hfz55_0
         try clear hfz55_1
         try clear hfz55_10
         try clear hfz55_11
         try clear hfz55_12
         try clear hfz55_2
         try clear hfz55_3
         try clear hfz55_4
         try clear hfz55_5
         try clear hfz55_6
         try clear hfz55_7
         try clear hfz55_8
         try clear hfz55_9
         try clear hfz57_0
         try clear hfz57_1
         try clear hfz57_10
         try clear hfz57_11
         try clear hfz57_12
         try clear hfz57_2
         try clear hfz57_3
         try clear hfz57_4
         try clear hfz57_5
         try clear hfz57_6
         try clear hfz57_7
         try clear hfz57_8
         try clear hfz57_9
         try clear hfz61_0
         try clear hfz61_1
         try clear hfz61_10
         try clear hfz61_11
         try clear hfz61_12
         try clear hfz61_2
         try clear hfz61_3
         try clear hfz61_4
         try clear hfz61_5
         try clear hfz61_6
         try clear hfz61_7
         try clear hfz61_8
         try clear hfz61_9
         try clear hfz63_0
         try clear hfz63_1
         try clear hfz63_10
         try clear hfz63_11
         try clear hfz63_12
         try clear hfz63_2
         try clear hfz63_3
         try clear hfz63_4
         try clear hfz63_5
         try clear hfz63_6
         try clear hfz63_7
         try clear hfz63_8
         try clear hfz63_9
         try clear hfz67_0
         try clear hfz67_1
         try clear hfz67_10
         try clear hfz67_11
         try clear hfz67_12
         try clear hfz67_2
         try clear hfz67_3
         try clear hfz67_4
         try clear hfz67_5
         try clear hfz67_6
         try clear hfz67_7
         try clear hfz67_8
         try clear hfz67_9
         try clear p2
         try clear p6
         obtain ⟨x10_2, rfl, HA, HK2, BK334, BK344, BK356, HB⟩ := hrel
         cases gk with
         | zero => exact absurd HA.out (by simp [laws_FnPaints.l0])
         | succ k2 =>
          have H := HA.out; clear HA
          simp only [laws_FnPaints.l0] at H
          by_cases c68 : x10_2 < 10
          ·rw [if_pos c68] at H
           have c68b0 : decide (x10_2 < 10) = true := decide_eq_true c68
           clear c68
           replace H := Option.bind_eq_some_iff.mp H
           obtain ⟨t357, A690, H⟩ := H
           replace H : ((impl_PartOf.f 2 t322 t323 t324 t325 t326 t327 t328 t329 128 0 2688 0 (wrap64 (x10_2 + 1)) 3).bind fun t358 => (if t357 > t358 then (some false) else (laws_FnPaints.l0 k2 t351 (wrap64 (x10_2 + 1)) t321 t322 t323 t324 t325 t326 t327 t328 t329 t330 t331 t332 t333 2 t322 t323 t324 t325 t326 t327 t328 t329 128 0 2688 0))) = some r := H
           have A69 := Aside0.mk A690
           clear A690
           replace H := Option.bind_eq_some_iff.mp H
           obtain ⟨t358, A700, H⟩ := H
           replace H : (if t357 > t358 then (some false) else (laws_FnPaints.l0 k2 t351 (wrap64 (x10_2 + 1)) t321 t322 t323 t324 t325 t326 t327 t328 t329 t330 t331 t332 t333 2 t322 t323 t324 t325 t326 t327 t328 t329 128 0 2688 0)) = some r := H
           have A70 := Aside0.mk A700
           clear A700
           by_cases c71 : t357 > t358
           ·rw [if_pos c71] at H
            have c71b0 : decide (t358 < t357) = true := decide_eq_true c71
            clear c71
            obtain rfl := Option.some.inj H
            exact absurd hT Bool.false_ne_true
           ·rw [if_neg c71] at H
            have c71b0 : decide (t358 < t357) = false := decide_eq_false c71
            clear c71
            have H' := Aside0.mk H
            clear H
            try go_wp2
            have n0_ := Aside0.mk (blk_drew BK334.out)
            have n1_ := Aside0.mk (blk_drew BK344.out)
            have n2_ := Aside0.mk (blk_drew BK356.out)
            have n3_ := Aside0.mk (below_drew1 HB.out)
            clear BK334; clear BK344; clear BK356; clear HB; have BK334 := n0_; have BK344 := n1_; have BK356 := n2_; have HB := n3_; clear n0_ n1_ n2_ n3_
            refine start_ (n := 8) (S := fun w' => w'.cell? ⟨gb356, 0, none⟩ = some (.int .i64 2) ∧ w'.cell? ⟨gb356, 1, none⟩ = some (.int .i64 t322) ∧ w'.cell? ⟨gb356, 2, none⟩ = some (.int .i64 t323) ∧ w'.cell? ⟨gb356, 3, none⟩ = some (.int .i64 t324) ∧ w'.cell? ⟨gb356, 4, none⟩ = some (.int .i64 t325) ∧ w'.cell? ⟨gb356, 5, none⟩ = some (.int .i64 t326) ∧ w'.cell? ⟨gb356, 6, none⟩ = some (.int .i64 t327) ∧ w'.cell? ⟨gb356, 7, none⟩ = some (.int .i64 t328) ∧ w'.cell? ⟨gb356, 8, none⟩ = some (.int .i64 t329) ∧ w'.cell? ⟨gb356, 9, none⟩ = some (.int .i64 128) ∧ w'.cell? ⟨gb356, 10, none⟩ = some (.int .i64 0) ∧ w'.cell? ⟨gb356, 11, none⟩ = some (.int .i64 2688) ∧ w'.cell? ⟨gb356, 12, none⟩ = some (.int .i64 0)) (ds := []) #[false, false, false, false, false, false, false, false] (by kernel_rfl) rfl rfl ⟨(blk_cell BK356.out 0).trans rfl, (blk_cell BK356.out 1).trans rfl, (blk_cell BK356.out 2).trans rfl, (blk_cell BK356.out 3).trans rfl, (blk_cell BK356.out 4).trans rfl, (blk_cell BK356.out 5).trans rfl, (blk_cell BK356.out 6).trans rfl, (blk_cell BK356.out 7).trans rfl, (blk_cell BK356.out 8).trans rfl, (blk_cell BK356.out 9).trans rfl, (blk_cell BK356.out 10).trans rfl, (blk_cell BK356.out 11).trans rfl, (blk_cell BK356.out 12).trans rfl⟩ (fun hHeld => ?_); refine with_tabW laws_FnPaints.tab17 laws_FnPaints.bits17 (fun HT_ HW_ => ?_)
            generalize wr.drew = w72 at BK334 BK344 BK356 HB hHeld ⊢
            refine pure_ (i := 1) (N := some 96) (v := ?_) (a' := ?_) #[false, true, false, false, false, false, false, false] rfl rfl (any_of HT_.out (by kernel_rfl)) (fun _ _ _ h => h) (Or.inl ⟨by rfl, ?_⟩) ?_ ?_; rotate_left
            ·intro w'
             go_simp; with_reducible rfl
            rotate_left
            ·exact x9_put
            refine pure_ (i := 4) (N := some 99) (v := ?_) (a' := ?_) #[false, true, false, false, true, false, false, false] rfl rfl (any_of HT_.out (by kernel_rfl)) (fun _ _ _ h => h) (Or.inl ⟨by rfl, ?_⟩) ?_ ?_; rotate_left
            ·intro w'
             go_simp; with_reducible rfl
            rotate_left
            ·exact x9_put
            refine pure_ (i := 5) (N := some 100) (v := ?_) (a' := ?_) #[false, true, false, false, true, true, false, false] rfl rfl (any_of HT_.out (by kernel_rfl)) (fun _ _ _ h => h) (Or.inl ⟨by rfl, ?_⟩) ?_ ?_; rotate_left
            ·intro w'
             go_simp; with_reducible rfl
            rotate_left
            ·exact x9_put
            refine take_ (i := 0) (N := some 95) (v := ?_) (a' := ?_) #[true, true, false, false, true, true, false, false] rfl rfl (take_ofW HT_.out HW_.out (by kernel_rfl)) (fun _ _ _ h => h) (Or.inl ⟨by rfl, ?_⟩) hHeld ?_ ?_
            rotate_left
            ·rintro w' ⟨s0, s1, s2, s3, s4, s5, s6, s7, s8, s9, s10, s11, s12⟩
             go_simp; with_reducible rfl
            rotate_left
            ·exact x9_put
            refine take_ (i := 3) (N := some 98) (v := ?_) (a' := ?_) #[true, true, false, true, true, true, false, false] rfl rfl (take_ofW HT_.out HW_.out (by kernel_rfl)) (fun _ _ _ h => h) (Or.inl ⟨by rfl, ?_⟩) hHeld ?_ ?_
            rotate_left
            ·rintro w' ⟨s0, s1, s2, s3, s4, s5, s6, s7, s8, s9, s10, s11, s12⟩
             go_simp; with_reducible rfl
            rotate_left
            ·exact x9_put
            refine one_ (i := 2) (N := some 97) #[true, true, true, true, true, true, false, false] rfl rfl (one_of HT_.out (by kernel_rfl)) (by decide) (fun K hK => ?_)
            refine goes_ Try.func23 (by kernel_rfl) rfl #[.agg #[.int .i64 2, .int .i64 t322, .int .i64 t323, .int .i64 t324, .int .i64 t325, .int .i64 t326, .int .i64 t327, .int .i64 t328, .int .i64 t329, .int .i64 128, .int .i64 0, .int .i64 2688, .int .i64 0], .int .i64 x10_2, .int .i64 3] (by rfl) rfl rfl z9_41 ?_
            with_reducible refine (impl_PartOf.calls 2 t322 t323 t324 t325 t326 t327 t328 t329 128 0 2688 0 x10_2 3 t357 _ A69.out).mono ?_
            rintro e w73 ⟨rfl, hb⟩
            refine ⟨_, rfl, ?_⟩
            have n0_ := Aside0.mk (blk_below (g := gb334) (o := .cells #[.int .i64 t321, .int .i64 t322, .int .i64 t323, .int .i64 t324, .int .i64 t325, .int .i64 t326, .int .i64 t327, .int .i64 t328, .int .i64 t329, .int .i64 t330, .int .i64 t331, .int .i64 t332, .int .i64 t333] 44 (0, 0)) z9_42 hb)
            have n1_ := Aside0.mk (blk_below (g := gb344) (o := .cells #[.int .i64 t340, .int .i64 t341, .int .i64 t342, .int .i64 t343] 27 (0, 0)) z9_44 hb)
            have n2_ := Aside0.mk (blk_below (g := gb356) (o := .cells #[.int .i64 2, .int .i64 t322, .int .i64 t323, .int .i64 t324, .int .i64 t325, .int .i64 t326, .int .i64 t327, .int .i64 t328, .int .i64 t329, .int .i64 128, .int .i64 0, .int .i64 2688, .int .i64 0] 44 (0, 0)) z9_48 hb)
            have n3_ := Aside0.mk (below_step z9_45 hb)
            clear BK334; clear BK344; clear BK356; clear HB; have BK334 := n0_; have BK344 := n1_; have BK356 := n2_; have HB := n3_; clear n0_ n1_ n2_ n3_; (try clear hb); (try clear hb2); (try clear hk); (try clear hi)
            refine hK.out _ _ ⟨(blk_cell BK356.out 0).trans rfl, (blk_cell BK356.out 1).trans rfl, (blk_cell BK356.out 2).trans rfl, (blk_cell BK356.out 3).trans rfl, (blk_cell BK356.out 4).trans rfl, (blk_cell BK356.out 5).trans rfl, (blk_cell BK356.out 6).trans rfl, (blk_cell BK356.out 7).trans rfl, (blk_cell BK356.out 8).trans rfl, (blk_cell BK356.out 9).trans rfl, (blk_cell BK356.out 10).trans rfl, (blk_cell BK356.out 11).trans rfl, (blk_cell BK356.out 12).trans rfl⟩ (fun hHeld => ?_)
            clear hK K
            refine norm_ (a' := ?_) ?_ ?_
            rotate_left
            ·show Act.put _ (some 97) _ = _
             simp only [Act.put, List.setIfInBounds_toArray, List.set_cons_zero, List.set_cons_succ, i64_w, i32_w]
             rfl
            refine one_ (i := 6) (N := some 101) #[true, true, true, true, true, true, true, false] rfl rfl (one_of HT_.out (by kernel_rfl)) (by decide) (fun K hK => ?_)
            refine goes_ Try.func23 (by kernel_rfl) rfl #[.agg #[.int .i64 2, .int .i64 t322, .int .i64 t323, .int .i64 t324, .int .i64 t325, .int .i64 t326, .int .i64 t327, .int .i64 t328, .int .i64 t329, .int .i64 128, .int .i64 0, .int .i64 2688, .int .i64 0], .int .i64 (wrap64 (x10_2 + 1)), .int .i64 3] (by rfl) rfl rfl z9_41 ?_
            with_reducible refine (impl_PartOf.calls 2 t322 t323 t324 t325 t326 t327 t328 t329 128 0 2688 0 (wrap64 (x10_2 + 1)) 3 t358 _ A70.out).mono ?_
            rintro e w74 ⟨rfl, hb⟩
            refine ⟨_, rfl, ?_⟩
            have n0_ := Aside0.mk (blk_below (g := gb334) (o := .cells #[.int .i64 t321, .int .i64 t322, .int .i64 t323, .int .i64 t324, .int .i64 t325, .int .i64 t326, .int .i64 t327, .int .i64 t328, .int .i64 t329, .int .i64 t330, .int .i64 t331, .int .i64 t332, .int .i64 t333] 44 (0, 0)) z9_42 hb)
            have n1_ := Aside0.mk (blk_below (g := gb344) (o := .cells #[.int .i64 t340, .int .i64 t341, .int .i64 t342, .int .i64 t343] 27 (0, 0)) z9_44 hb)
            have n2_ := Aside0.mk (blk_below (g := gb356) (o := .cells #[.int .i64 2, .int .i64 t322, .int .i64 t323, .int .i64 t324, .int .i64 t325, .int .i64 t326, .int .i64 t327, .int .i64 t328, .int .i64 t329, .int .i64 128, .int .i64 0, .int .i64 2688, .int .i64 0] 44 (0, 0)) z9_48 hb)
            have n3_ := Aside0.mk (below_step z9_45 hb)
            clear BK334; clear BK344; clear BK356; clear HB; have BK334 := n0_; have BK344 := n1_; have BK356 := n2_; have HB := n3_; clear n0_ n1_ n2_ n3_; (try clear hb); (try clear hb2); (try clear hk); (try clear hi)
            refine hK.out _ _ ⟨(blk_cell BK356.out 0).trans rfl, (blk_cell BK356.out 1).trans rfl, (blk_cell BK356.out 2).trans rfl, (blk_cell BK356.out 3).trans rfl, (blk_cell BK356.out 4).trans rfl, (blk_cell BK356.out 5).trans rfl, (blk_cell BK356.out 6).trans rfl, (blk_cell BK356.out 7).trans rfl, (blk_cell BK356.out 8).trans rfl, (blk_cell BK356.out 9).trans rfl, (blk_cell BK356.out 10).trans rfl, (blk_cell BK356.out 11).trans rfl, (blk_cell BK356.out 12).trans rfl⟩ (fun hHeld => ?_)
            clear hK K
            refine norm_ (a' := ?_) ?_ ?_
            rotate_left
            ·show Act.put _ (some 101) _ = _
             simp only [Act.put, List.setIfInBounds_toArray, List.set_cons_zero, List.set_cons_succ, i64_w, i32_w]
             rfl
            refine pure_ (i := 7) (N := some 102) (v := ?_) (a' := ?_) #[true, true, true, true, true, true, true, true] rfl rfl (any_of HT_.out (by kernel_rfl)) (fun _ _ _ h => h) (Or.inl ⟨by rfl, ?_⟩) ?_ ?_; rotate_left
            ·intro w'
             go_simp; with_reducible rfl
            rotate_left
            ·exact x9_put
            refine done_ (done_of HT_.out (by kernel_rfl)) ?_
            try go_wp2
            go_roundg k2
            case measure => have := HJ8.out; have := HK2.out; omega
            case rel => exact ⟨(wrap64 (x10_2 + 1)), (by first | rfl | (simp; done) | (simp [*]; done)), H', ⟨by have := HJ8.out; have := HK2.out; omega⟩, ⟨by (with_reducible repeat (first | refine blk_drewN ?_ _ | refine blk_drew ?_ | refine blk_alloc ?_ _)); exact BK334.out⟩, ⟨by (with_reducible repeat (first | refine blk_drewN ?_ _ | refine blk_drew ?_ | refine blk_alloc ?_ _)); exact BK344.out⟩, ⟨by (with_reducible repeat (first | refine blk_drewN ?_ _ | refine blk_drew ?_ | refine blk_alloc ?_ _)); exact BK356.out⟩, ⟨by repeat (first | (with_reducible first | exact HB.out | apply below_alloc | apply pw_below_drewN | apply below_drew1 | refine below_set ?_ GE334.out | refine below_set ?_ GE344.out | refine below_set ?_ GE356.out) | exact HB.out)⟩⟩
          ·rw [if_neg c68] at H
           have c68b0 : decide (x10_2 < 10) = false := decide_eq_false c68
           clear c68
           by_cases c75 : t351 ≥ 0
           ·rw [if_pos c75] at H
            have c75b0 : decide (0 ≤ t351) = true := decide_eq_true c75
            clear c75
            by_cases c76 : t351 ≤ 256
            ·rw [if_pos c76] at H
             have c76b0 : decide (t351 ≤ 256) = true := decide_eq_true c76
             clear c76
             replace H := Option.bind_eq_some_iff.mp H
             obtain ⟨⟨t359, t360, t361, t362⟩, A770, H⟩ := H
             replace H : ((impl_Laid.f t322 t323 t324 t325).bind fun bt363 => (if (t359 == bt363.1 && (t360 == bt363.2.1 && (t361 == bt363.2.2.1 && (t362 == bt363.2.2.2)))) = true then ((impl_ColorAt.f 2 t322 t323 t324 t325 t326 t327 t328 t329 128 0 2688 0 10 5).bind fun bt367 => ((impl_Laid.f t326 t327 t328 t329).bind fun bt371 => (if (bt367.1 == bt371.1 && (bt367.2.1 == bt371.2.1 && (bt367.2.2.1 == bt371.2.2.1 && (bt367.2.2.2 == bt371.2.2.2)))) = true then ((impl_ColorAt.f 2 t322 t323 t324 t325 t326 t327 t328 t329 128 0 2688 0 (-9) 0).bind fun bt375 => ((impl_Laid.f t322 t323 t324 t325).bind fun bt379 => (some (bt375.1 == bt379.1 && (bt375.2.1 == bt379.2.1 && (bt375.2.2.1 == bt379.2.2.1 && (bt375.2.2.2 == bt379.2.2.2))))))) else (some false)))) else (some false))) = some r := H
             have A77 := Aside0.mk A770
             clear A770
             replace H := Option.bind_eq_some_iff.mp H
             obtain ⟨⟨t363, t364, t365, t366⟩, A780, H⟩ := H
             replace H : (if (t359 == t363 && (t360 == t364 && (t361 == t365 && (t362 == t366)))) = true then ((impl_ColorAt.f 2 t322 t323 t324 t325 t326 t327 t328 t329 128 0 2688 0 10 5).bind fun bt367 => ((impl_Laid.f t326 t327 t328 t329).bind fun bt371 => (if (bt367.1 == bt371.1 && (bt367.2.1 == bt371.2.1 && (bt367.2.2.1 == bt371.2.2.1 && (bt367.2.2.2 == bt371.2.2.2)))) = true then ((impl_ColorAt.f 2 t322 t323 t324 t325 t326 t327 t328 t329 128 0 2688 0 (-9) 0).bind fun bt375 => ((impl_Laid.f t322 t323 t324 t325).bind fun bt379 => (some (bt375.1 == bt379.1 && (bt375.2.1 == bt379.2.1 && (bt375.2.2.1 == bt379.2.2.1 && (bt375.2.2.2 == bt379.2.2.2))))))) else (some false)))) else (some false)) = some r := H
             have A78 := Aside0.mk A780
             clear A780
             by_cases c79 : (t359 == t363 && (t360 == t364 && (t361 == t365 && (t362 == t366)))) = true
             ·rw [if_pos c79] at H
              have c79b0 : (t359 == t363 && (t360 == t364 && (t361 == t365 && (t362 == t366)))) = true := c79
              (try (have c79b1 : decide (t359 = t363 && (t360 == t364 && (t361 == t365 && (t362 == t366)))) = true := by simpa using c79))
              (try (have c79b2 : (t359 == t363 && (t360 == t364 && (t361 == t365 && (t362 == t366)))) = true := by simpa using c79))
              clear c79
              replace H := Option.bind_eq_some_iff.mp H
              obtain ⟨⟨t367, t368, t369, t370⟩, A800, H⟩ := H
              replace H : ((impl_Laid.f t326 t327 t328 t329).bind fun bt371 => (if (t367 == bt371.1 && (t368 == bt371.2.1 && (t369 == bt371.2.2.1 && (t370 == bt371.2.2.2)))) = true then ((impl_ColorAt.f 2 t322 t323 t324 t325 t326 t327 t328 t329 128 0 2688 0 (-9) 0).bind fun bt375 => ((impl_Laid.f t322 t323 t324 t325).bind fun bt379 => (some (bt375.1 == bt379.1 && (bt375.2.1 == bt379.2.1 && (bt375.2.2.1 == bt379.2.2.1 && (bt375.2.2.2 == bt379.2.2.2))))))) else (some false))) = some r := H
              have A80 := Aside0.mk A800
              clear A800
              replace H := Option.bind_eq_some_iff.mp H
              obtain ⟨⟨t371, t372, t373, t374⟩, A810, H⟩ := H
              replace H : (if (t367 == t371 && (t368 == t372 && (t369 == t373 && (t370 == t374)))) = true then ((impl_ColorAt.f 2 t322 t323 t324 t325 t326 t327 t328 t329 128 0 2688 0 (-9) 0).bind fun bt375 => ((impl_Laid.f t322 t323 t324 t325).bind fun bt379 => (some (bt375.1 == bt379.1 && (bt375.2.1 == bt379.2.1 && (bt375.2.2.1 == bt379.2.2.1 && (bt375.2.2.2 == bt379.2.2.2))))))) else (some false)) = some r := H
              have A81 := Aside0.mk A810
              clear A810
              by_cases c82 : (t367 == t371 && (t368 == t372 && (t369 == t373 && (t370 == t374)))) = true
              ·rw [if_pos c82] at H
               have c82b0 : (t367 == t371 && (t368 == t372 && (t369 == t373 && (t370 == t374)))) = true := c82
               (try (have c82b1 : decide (t367 = t371 && (t368 == t372 && (t369 == t373 && (t370 == t374)))) = true := by simpa using c82))
               (try (have c82b2 : (t367 == t371 && (t368 == t372 && (t369 == t373 && (t370 == t374)))) = true := by simpa using c82))
               clear c82
               replace H := Option.bind_eq_some_iff.mp H
               obtain ⟨⟨t375, t376, t377, t378⟩, A830, H⟩ := H
               replace H : ((impl_Laid.f t322 t323 t324 t325).bind fun bt379 => (some (t375 == bt379.1 && (t376 == bt379.2.1 && (t377 == bt379.2.2.1 && (t378 == bt379.2.2.2)))))) = some r := H
               have A83 := Aside0.mk A830
               clear A830
               replace H := Option.bind_eq_some_iff.mp H
               obtain ⟨⟨t379, t380, t381, t382⟩, A840, H⟩ := H
               replace H : (some (t375 == t379 && (t376 == t380 && (t377 == t381 && (t378 == t382))))) = some r := H
               have A84 := Aside0.mk A840
               clear A840
               obtain rfl := Option.some.inj H
               simp only [Option.some.injEq, Prod.mk.injEq] at H
               obtain ⟨rfl⟩ := H
               try go_wp2
               have n0_ := Aside0.mk (blk_drew BK334.out)
               have n1_ := Aside0.mk (blk_drew BK344.out)
               have n2_ := Aside0.mk (blk_drew BK356.out)
               have n3_ := Aside0.mk (below_drew1 HB.out)
               clear BK334; clear BK344; clear BK356; clear HB; have BK334 := n0_; have BK344 := n1_; have BK356 := n2_; have HB := n3_; clear n0_ n1_ n2_ n3_
               refine start_ (n := 31) (S := fun w' => w'.cell? ⟨gb356, 0, none⟩ = some (.int .i64 2) ∧ w'.cell? ⟨gb356, 1, none⟩ = some (.int .i64 t322) ∧ w'.cell? ⟨gb356, 2, none⟩ = some (.int .i64 t323) ∧ w'.cell? ⟨gb356, 3, none⟩ = some (.int .i64 t324) ∧ w'.cell? ⟨gb356, 4, none⟩ = some (.int .i64 t325) ∧ w'.cell? ⟨gb356, 5, none⟩ = some (.int .i64 t326) ∧ w'.cell? ⟨gb356, 6, none⟩ = some (.int .i64 t327) ∧ w'.cell? ⟨gb356, 7, none⟩ = some (.int .i64 t328) ∧ w'.cell? ⟨gb356, 8, none⟩ = some (.int .i64 t329) ∧ w'.cell? ⟨gb356, 9, none⟩ = some (.int .i64 128) ∧ w'.cell? ⟨gb356, 10, none⟩ = some (.int .i64 0) ∧ w'.cell? ⟨gb356, 11, none⟩ = some (.int .i64 2688) ∧ w'.cell? ⟨gb356, 12, none⟩ = some (.int .i64 0) ∧ w'.cell? ⟨gb334, 0, none⟩ = some (.int .i64 t321) ∧ w'.cell? ⟨gb334, 1, none⟩ = some (.int .i64 t322) ∧ w'.cell? ⟨gb334, 2, none⟩ = some (.int .i64 t323) ∧ w'.cell? ⟨gb334, 3, none⟩ = some (.int .i64 t324) ∧ w'.cell? ⟨gb334, 4, none⟩ = some (.int .i64 t325) ∧ w'.cell? ⟨gb334, 5, none⟩ = some (.int .i64 t326) ∧ w'.cell? ⟨gb334, 6, none⟩ = some (.int .i64 t327) ∧ w'.cell? ⟨gb334, 7, none⟩ = some (.int .i64 t328) ∧ w'.cell? ⟨gb334, 8, none⟩ = some (.int .i64 t329) ∧ w'.cell? ⟨gb334, 9, none⟩ = some (.int .i64 t330) ∧ w'.cell? ⟨gb334, 10, none⟩ = some (.int .i64 t331) ∧ w'.cell? ⟨gb334, 11, none⟩ = some (.int .i64 t332) ∧ w'.cell? ⟨gb334, 12, none⟩ = some (.int .i64 t333)) (ds := []) #[false, false, false, false, false, false, false, false, false, false, false, false, false, false, false, false, false, false, false, false, false, false, false, false, false, false, false, false, false, false, false] (by kernel_rfl) rfl rfl ⟨(blk_cell BK356.out 0).trans rfl, (blk_cell BK356.out 1).trans rfl, (blk_cell BK356.out 2).trans rfl, (blk_cell BK356.out 3).trans rfl, (blk_cell BK356.out 4).trans rfl, (blk_cell BK356.out 5).trans rfl, (blk_cell BK356.out 6).trans rfl, (blk_cell BK356.out 7).trans rfl, (blk_cell BK356.out 8).trans rfl, (blk_cell BK356.out 9).trans rfl, (blk_cell BK356.out 10).trans rfl, (blk_cell BK356.out 11).trans rfl, (blk_cell BK356.out 12).trans rfl, (blk_cell BK334.out 0).trans rfl, (blk_cell BK334.out 1).trans rfl, (blk_cell BK334.out 2).trans rfl, (blk_cell BK334.out 3).trans rfl, (blk_cell BK334.out 4).trans rfl, (blk_cell BK334.out 5).trans rfl, (blk_cell BK334.out 6).trans rfl, (blk_cell BK334.out 7).trans rfl, (blk_cell BK334.out 8).trans rfl, (blk_cell BK334.out 9).trans rfl, (blk_cell BK334.out 10).trans rfl, (blk_cell BK334.out 11).trans rfl, (blk_cell BK334.out 12).trans rfl⟩ (fun hHeld => ?_); refine with_tabW laws_FnPaints.tab19 laws_FnPaints.bits19 (fun HT_ HW_ => ?_)
               generalize wr.drew = w85 at BK334 BK344 BK356 HB hHeld ⊢
               refine pure_ (i := 0) (N := some 103) (v := ?_) (a' := ?_) #[true, false, false, false, false, false, false, false, false, false, false, false, false, false, false, false, false, false, false, false, false, false, false, false, false, false, false, false, false, false, false] rfl rfl (any_of HT_.out (by kernel_rfl)) (fun _ _ _ h => h) (Or.inl ⟨by rfl, ?_⟩) ?_ ?_; rotate_left
               ·intro w'
                go_simp; with_reducible rfl
               rotate_left
               ·exact x9_put
               refine pure_ (i := 1) (N := some 104) (v := ?_) (a' := ?_) #[true, true, false, false, false, false, false, false, false, false, false, false, false, false, false, false, false, false, false, false, false, false, false, false, false, false, false, false, false, false, false] rfl rfl (any_of HT_.out (by kernel_rfl)) (fun _ _ _ h => h) (Or.inl ⟨by rfl, ?_⟩) ?_ ?_; rotate_left
               ·intro w'
                go_simp; with_reducible rfl
               rotate_left
               ·exact x9_put
               refine pure_ (i := 2) (N := some 105) (v := ?_) (a' := ?_) #[true, true, true, false, false, false, false, false, false, false, false, false, false, false, false, false, false, false, false, false, false, false, false, false, false, false, false, false, false, false, false] rfl rfl (any_of HT_.out (by kernel_rfl)) (fun _ _ _ h => h) (Or.inl ⟨by rfl, ?_⟩) ?_ ?_; rotate_left
               ·intro w'
                go_simp; with_reducible rfl
               rotate_left
               ·exact x9_put
               refine pure_ (i := 3) (N := some 106) (v := ?_) (a' := ?_) #[true, true, true, true, false, false, false, false, false, false, false, false, false, false, false, false, false, false, false, false, false, false, false, false, false, false, false, false, false, false, false] rfl rfl (any_of HT_.out (by kernel_rfl)) (fun _ _ _ h => h) (Or.inl ⟨by rfl, ?_⟩) ?_ ?_; rotate_left
               ·intro w'
                go_simp; with_reducible rfl
               rotate_left
               ·exact x9_put
               refine pure_ (i := 4) (N := some 107) (v := ?_) (a' := ?_) #[true, true, true, true, true, false, false, false, false, false, false, false, false, false, false, false, false, false, false, false, false, false, false, false, false, false, false, false, false, false, false] rfl rfl (any_of HT_.out (by kernel_rfl)) (fun _ _ _ h => h) (Or.inl ⟨by rfl, ?_⟩) ?_ ?_; rotate_left
               ·intro w'
                go_simp; with_reducible rfl
               rotate_left
               ·exact x9_put
               refine pure_ (i := 5) (N := some 108) (v := ?_) (a' := ?_) #[true, true, true, true, true, true, false, false, false, false, false, false, false, false, false, false, false, false, false, false, false, false, false, false, false, false, false, false, false, false, false] rfl rfl (any_of HT_.out (by kernel_rfl)) (fun _ _ _ h => h) (Or.inl ⟨by rfl, ?_⟩) ?_ ?_; rotate_left
               ·intro w'
                go_simp; with_reducible rfl
               rotate_left
               ·exact x9_put
               refine pure_ (i := 6) (N := some 109) (v := ?_) (a' := ?_) #[true, true, true, true, true, true, true, false, false, false, false, false, false, false, false, false, false, false, false, false, false, false, false, false, false, false, false, false, false, false, false] rfl rfl (any_of HT_.out (by kernel_rfl)) (fun _ _ _ h => h) (Or.inl ⟨by rfl, ?_⟩) ?_ ?_; rotate_left
               ·intro w'
                go_simp; with_reducible rfl
               rotate_left
               ·exact x9_put
               refine pure_ (i := 9) (N := some 112) (v := ?_) (a' := ?_) #[true, true, true, true, true, true, true, false, false, true, false, false, false, false, false, false, false, false, false, false, false, false, false, false, false, false, false, false, false, false, false] rfl rfl (any_of HT_.out (by kernel_rfl)) (fun _ _ _ h => h) (Or.inl ⟨by rfl, ?_⟩) ?_ ?_; rotate_left
               ·intro w'
                go_simp; with_reducible rfl
               rotate_left
               ·exact x9_put
               refine take_ (i := 7) (N := some 110) (v := ?_) (a' := ?_) #[true, true, true, true, true, true, true, true, false, true, false, false, false, false, false, false, false, false, false, false, false, false, false, false, false, false, false, false, false, false, false] rfl rfl (take_ofW HT_.out HW_.out (by kernel_rfl)) (fun _ _ _ h => h) (Or.inl ⟨by rfl, ?_⟩) hHeld ?_ ?_
               rotate_left
               ·rintro w' ⟨s0, s1, s2, s3, s4, s5, s6, s7, s8, s9, s10, s11, s12, s13, s14, s15, s16, s17, s18, s19, s20, s21, s22, s23, s24, s25⟩
                go_simp; with_reducible rfl
               rotate_left
               ·exact x9_put
               refine take_ (i := 10) (N := some 113) (v := ?_) (a' := ?_) #[true, true, true, true, true, true, true, true, false, true, true, false, false, false, false, false, false, false, false, false, false, false, false, false, false, false, false, false, false, false, false] rfl rfl (take_ofW HT_.out HW_.out (by kernel_rfl)) (fun _ _ _ h => h) (Or.inl ⟨by rfl, ?_⟩) hHeld ?_ ?_
               rotate_left
               ·rintro w' ⟨s0, s1, s2, s3, s4, s5, s6, s7, s8, s9, s10, s11, s12, s13, s14, s15, s16, s17, s18, s19, s20, s21, s22, s23, s24, s25⟩
                go_simp; with_reducible rfl
               rotate_left
               ·exact x9_put
               refine one_ (i := 8) (N := some 111) #[true, true, true, true, true, true, true, true, true, true, true, false, false, false, false, false, false, false, false, false, false, false, false, false, false, false, false, false, false, false, false] rfl rfl (one_of HT_.out (by kernel_rfl)) (by decide) (fun K hK => ?_)
               refine goes_ Try.func53 (by kernel_rfl) rfl #[.agg #[.int .i64 2, .int .i64 t322, .int .i64 t323, .int .i64 t324, .int .i64 t325, .int .i64 t326, .int .i64 t327, .int .i64 t328, .int .i64 t329, .int .i64 128, .int .i64 0, .int .i64 2688, .int .i64 0], .int .i64 0, .int .i64 5] (by rfl) rfl rfl z9_41 ?_
               with_reducible refine (impl_ColorAt.calls 2 t322 t323 t324 t325 t326 t327 t328 t329 128 0 2688 0 0 5 t359 t360 t361 t362 _ A77.out).mono ?_
               rintro e w86 ⟨rfl, hb⟩
               refine ⟨_, rfl, ?_⟩
               have n0_ := Aside0.mk (blk_below (g := gb334) (o := .cells #[.int .i64 t321, .int .i64 t322, .int .i64 t323, .int .i64 t324, .int .i64 t325, .int .i64 t326, .int .i64 t327, .int .i64 t328, .int .i64 t329, .int .i64 t330, .int .i64 t331, .int .i64 t332, .int .i64 t333] 44 (0, 0)) z9_42 hb)
               have n1_ := Aside0.mk (blk_below (g := gb344) (o := .cells #[.int .i64 t340, .int .i64 t341, .int .i64 t342, .int .i64 t343] 27 (0, 0)) z9_44 hb)
               have n2_ := Aside0.mk (blk_below (g := gb356) (o := .cells #[.int .i64 2, .int .i64 t322, .int .i64 t323, .int .i64 t324, .int .i64 t325, .int .i64 t326, .int .i64 t327, .int .i64 t328, .int .i64 t329, .int .i64 128, .int .i64 0, .int .i64 2688, .int .i64 0] 44 (0, 0)) z9_48 hb)
               have n3_ := Aside0.mk (below_step z9_45 hb)
               clear BK334; clear BK344; clear BK356; clear HB; have BK334 := n0_; have BK344 := n1_; have BK356 := n2_; have HB := n3_; clear n0_ n1_ n2_ n3_; (try clear hb); (try clear hb2); (try clear hk); (try clear hi)
               refine hK.out _ _ ⟨(blk_cell BK356.out 0).trans rfl, (blk_cell BK356.out 1).trans rfl, (blk_cell BK356.out 2).trans rfl, (blk_cell BK356.out 3).trans rfl, (blk_cell BK356.out 4).trans rfl, (blk_cell BK356.out 5).trans rfl, (blk_cell BK356.out 6).trans rfl, (blk_cell BK356.out 7).trans rfl, (blk_cell BK356.out 8).trans rfl, (blk_cell BK356.out 9).trans rfl, (blk_cell BK356.out 10).trans rfl, (blk_cell BK356.out 11).trans rfl, (blk_cell BK356.out 12).trans rfl, (blk_cell BK334.out 0).trans rfl, (blk_cell BK334.out 1).trans rfl, (blk_cell BK334.out 2).trans rfl, (blk_cell BK334.out 3).trans rfl, (blk_cell BK334.out 4).trans rfl, (blk_cell BK334.out 5).trans rfl, (blk_cell BK334.out 6).trans rfl, (blk_cell BK334.out 7).trans rfl, (blk_cell BK334.out 8).trans rfl, (blk_cell BK334.out 9).trans rfl, (blk_cell BK334.out 10).trans rfl, (blk_cell BK334.out 11).trans rfl, (blk_cell BK334.out 12).trans rfl⟩ (fun hHeld => ?_)
               clear hK K
               refine norm_ (a' := ?_) ?_ ?_
               rotate_left
               ·show Act.put _ (some 111) _ = _
                simp only [Act.put, List.setIfInBounds_toArray, List.set_cons_zero, List.set_cons_succ, i64_w, i32_w]
                rfl
               refine one_ (i := 11) (N := some 114) #[true, true, true, true, true, true, true, true, true, true, true, true, false, false, false, false, false, false, false, false, false, false, false, false, false, false, false, false, false, false, false] rfl rfl (one_of HT_.out (by kernel_rfl)) (by decide) (fun K hK => ?_)
               refine goes_ Try.func61 (by kernel_rfl) rfl #[.agg #[.int .i64 t322, .int .i64 t323, .int .i64 t324, .int .i64 t325]] (by rfl) rfl rfl z9_41 ?_
               with_reducible refine (impl_Laid.calls t322 t323 t324 t325 t363 t364 t365 t366 _ A78.out).mono ?_
               rintro e w87 ⟨rfl, hb⟩
               refine ⟨_, rfl, ?_⟩
               have n0_ := Aside0.mk (blk_below (g := gb334) (o := .cells #[.int .i64 t321, .int .i64 t322, .int .i64 t323, .int .i64 t324, .int .i64 t325, .int .i64 t326, .int .i64 t327, .int .i64 t328, .int .i64 t329, .int .i64 t330, .int .i64 t331, .int .i64 t332, .int .i64 t333] 44 (0, 0)) z9_42 hb)
               have n1_ := Aside0.mk (blk_below (g := gb344) (o := .cells #[.int .i64 t340, .int .i64 t341, .int .i64 t342, .int .i64 t343] 27 (0, 0)) z9_44 hb)
               have n2_ := Aside0.mk (blk_below (g := gb356) (o := .cells #[.int .i64 2, .int .i64 t322, .int .i64 t323, .int .i64 t324, .int .i64 t325, .int .i64 t326, .int .i64 t327, .int .i64 t328, .int .i64 t329, .int .i64 128, .int .i64 0, .int .i64 2688, .int .i64 0] 44 (0, 0)) z9_48 hb)
               have n3_ := Aside0.mk (below_step z9_45 hb)
               clear BK334; clear BK344; clear BK356; clear HB; have BK334 := n0_; have BK344 := n1_; have BK356 := n2_; have HB := n3_; clear n0_ n1_ n2_ n3_; (try clear hb); (try clear hb2); (try clear hk); (try clear hi)
               refine hK.out _ _ ⟨(blk_cell BK356.out 0).trans rfl, (blk_cell BK356.out 1).trans rfl, (blk_cell BK356.out 2).trans rfl, (blk_cell BK356.out 3).trans rfl, (blk_cell BK356.out 4).trans rfl, (blk_cell BK356.out 5).trans rfl, (blk_cell BK356.out 6).trans rfl, (blk_cell BK356.out 7).trans rfl, (blk_cell BK356.out 8).trans rfl, (blk_cell BK356.out 9).trans rfl, (blk_cell BK356.out 10).trans rfl, (blk_cell BK356.out 11).trans rfl, (blk_cell BK356.out 12).trans rfl, (blk_cell BK334.out 0).trans rfl, (blk_cell BK334.out 1).trans rfl, (blk_cell BK334.out 2).trans rfl, (blk_cell BK334.out 3).trans rfl, (blk_cell BK334.out 4).trans rfl, (blk_cell BK334.out 5).trans rfl, (blk_cell BK334.out 6).trans rfl, (blk_cell BK334.out 7).trans rfl, (blk_cell BK334.out 8).trans rfl, (blk_cell BK334.out 9).trans rfl, (blk_cell BK334.out 10).trans rfl, (blk_cell BK334.out 11).trans rfl, (blk_cell BK334.out 12).trans rfl⟩ (fun hHeld => ?_)
               clear hK K
               refine norm_ (a' := ?_) ?_ ?_
               rotate_left
               ·show Act.put _ (some 114) _ = _
                simp only [Act.put, List.setIfInBounds_toArray, List.set_cons_zero, List.set_cons_succ, i64_w, i32_w]
                rfl
               refine pure_ (i := 12) (N := some 115) (v := ?_) (a' := ?_) #[true, true, true, true, true, true, true, true, true, true, true, true, true, false, false, false, false, false, false, false, false, false, false, false, false, false, false, false, false, false, false] rfl rfl (any_of HT_.out (by kernel_rfl)) (fun _ _ _ h => h) (Or.inl ⟨by rfl, ?_⟩) ?_ ?_; rotate_left
               ·intro w'
                go_simp; with_reducible rfl
               rotate_left
               ·exact x9_put
               refine pure_ (i := 13) (N := some 116) (v := ?_) (a' := ?_) #[true, true, true, true, true, true, true, true, true, true, true, true, true, true, false, false, false, false, false, false, false, false, false, false, false, false, false, false, false, false, false] rfl rfl (any_of HT_.out (by kernel_rfl)) (fun _ _ _ h => h) (Or.inl ⟨by rfl, ?_⟩) ?_ ?_; rotate_left
               ·intro w'
                go_simp; with_reducible rfl
               rotate_left
               ·exact x9_put
               refine pure_ (i := 14) (N := some 117) (v := ?_) (a' := ?_) #[true, true, true, true, true, true, true, true, true, true, true, true, true, true, true, false, false, false, false, false, false, false, false, false, false, false, false, false, false, false, false] rfl rfl (any_of HT_.out (by kernel_rfl)) (fun _ _ _ h => h) (Or.inl ⟨by rfl, ?_⟩) ?_ ?_; rotate_left
               ·intro w'
                go_simp; with_reducible rfl
               rotate_left
               ·exact x9_put
               refine pure_ (i := 17) (N := some 120) (v := ?_) (a' := ?_) #[true, true, true, true, true, true, true, true, true, true, true, true, true, true, true, false, false, true, false, false, false, false, false, false, false, false, false, false, false, false, false] rfl rfl (any_of HT_.out (by kernel_rfl)) (fun _ _ _ h => h) (Or.inl ⟨by rfl, ?_⟩) ?_ ?_; rotate_left
               ·intro w'
                go_simp; with_reducible rfl
               rotate_left
               ·exact x9_put
               refine take_ (i := 15) (N := some 118) (v := ?_) (a' := ?_) #[true, true, true, true, true, true, true, true, true, true, true, true, true, true, true, true, false, true, false, false, false, false, false, false, false, false, false, false, false, false, false] rfl rfl (take_ofW HT_.out HW_.out (by kernel_rfl)) (fun _ _ _ h => h) (Or.inl ⟨by rfl, ?_⟩) hHeld ?_ ?_
               rotate_left
               ·rintro w' ⟨s0, s1, s2, s3, s4, s5, s6, s7, s8, s9, s10, s11, s12, s13, s14, s15, s16, s17, s18, s19, s20, s21, s22, s23, s24, s25⟩
                go_simp; with_reducible rfl
               rotate_left
               ·exact x9_put
               refine take_ (i := 18) (N := some 121) (v := ?_) (a' := ?_) #[true, true, true, true, true, true, true, true, true, true, true, true, true, true, true, true, false, true, true, false, false, false, false, false, false, false, false, false, false, false, false] rfl rfl (take_ofW HT_.out HW_.out (by kernel_rfl)) (fun _ _ _ h => h) (Or.inl ⟨by rfl, ?_⟩) hHeld ?_ ?_
               rotate_left
               ·rintro w' ⟨s0, s1, s2, s3, s4, s5, s6, s7, s8, s9, s10, s11, s12, s13, s14, s15, s16, s17, s18, s19, s20, s21, s22, s23, s24, s25⟩
                go_simp; with_reducible rfl
               rotate_left
               ·exact x9_put
               refine one_ (i := 16) (N := some 119) #[true, true, true, true, true, true, true, true, true, true, true, true, true, true, true, true, true, true, true, false, false, false, false, false, false, false, false, false, false, false, false] rfl rfl (one_of HT_.out (by kernel_rfl)) (by decide) (fun K hK => ?_)
               refine goes_ Try.func53 (by kernel_rfl) rfl #[.agg #[.int .i64 2, .int .i64 t322, .int .i64 t323, .int .i64 t324, .int .i64 t325, .int .i64 t326, .int .i64 t327, .int .i64 t328, .int .i64 t329, .int .i64 128, .int .i64 0, .int .i64 2688, .int .i64 0], .int .i64 10, .int .i64 5] (by rfl) rfl rfl z9_41 ?_
               with_reducible refine (impl_ColorAt.calls 2 t322 t323 t324 t325 t326 t327 t328 t329 128 0 2688 0 10 5 t367 t368 t369 t370 _ A80.out).mono ?_
               rintro e w88 ⟨rfl, hb⟩
               refine ⟨_, rfl, ?_⟩
               have n0_ := Aside0.mk (blk_below (g := gb334) (o := .cells #[.int .i64 t321, .int .i64 t322, .int .i64 t323, .int .i64 t324, .int .i64 t325, .int .i64 t326, .int .i64 t327, .int .i64 t328, .int .i64 t329, .int .i64 t330, .int .i64 t331, .int .i64 t332, .int .i64 t333] 44 (0, 0)) z9_42 hb)
               have n1_ := Aside0.mk (blk_below (g := gb344) (o := .cells #[.int .i64 t340, .int .i64 t341, .int .i64 t342, .int .i64 t343] 27 (0, 0)) z9_44 hb)
               have n2_ := Aside0.mk (blk_below (g := gb356) (o := .cells #[.int .i64 2, .int .i64 t322, .int .i64 t323, .int .i64 t324, .int .i64 t325, .int .i64 t326, .int .i64 t327, .int .i64 t328, .int .i64 t329, .int .i64 128, .int .i64 0, .int .i64 2688, .int .i64 0] 44 (0, 0)) z9_48 hb)
               have n3_ := Aside0.mk (below_step z9_45 hb)
               clear BK334; clear BK344; clear BK356; clear HB; have BK334 := n0_; have BK344 := n1_; have BK356 := n2_; have HB := n3_; clear n0_ n1_ n2_ n3_; (try clear hb); (try clear hb2); (try clear hk); (try clear hi)
               refine hK.out _ _ ⟨(blk_cell BK356.out 0).trans rfl, (blk_cell BK356.out 1).trans rfl, (blk_cell BK356.out 2).trans rfl, (blk_cell BK356.out 3).trans rfl, (blk_cell BK356.out 4).trans rfl, (blk_cell BK356.out 5).trans rfl, (blk_cell BK356.out 6).trans rfl, (blk_cell BK356.out 7).trans rfl, (blk_cell BK356.out 8).trans rfl, (blk_cell BK356.out 9).trans rfl, (blk_cell BK356.out 10).trans rfl, (blk_cell BK356.out 11).trans rfl, (blk_cell BK356.out 12).trans rfl, (blk_cell BK334.out 0).trans rfl, (blk_cell BK334.out 1).trans rfl, (blk_cell BK334.out 2).trans rfl, (blk_cell BK334.out 3).trans rfl, (blk_cell BK334.out 4).trans rfl, (blk_cell BK334.out 5).trans rfl, (blk_cell BK334.out 6).trans rfl, (blk_cell BK334.out 7).trans rfl, (blk_cell BK334.out 8).trans rfl, (blk_cell BK334.out 9).trans rfl, (blk_cell BK334.out 10).trans rfl, (blk_cell BK334.out 11).trans rfl, (blk_cell BK334.out 12).trans rfl⟩ (fun hHeld => ?_)
               clear hK K
               refine norm_ (a' := ?_) ?_ ?_
               rotate_left
               ·show Act.put _ (some 119) _ = _
                simp only [Act.put, List.setIfInBounds_toArray, List.set_cons_zero, List.set_cons_succ, i64_w, i32_w]
                rfl
               refine one_ (i := 19) (N := some 122) #[true, true, true, true, true, true, true, true, true, true, true, true, true, true, true, true, true, true, true, true, false, false, false, false, false, false, false, false, false, false, false] rfl rfl (one_of HT_.out (by kernel_rfl)) (by decide) (fun K hK => ?_)
               refine goes_ Try.func61 (by kernel_rfl) rfl #[.agg #[.int .i64 t326, .int .i64 t327, .int .i64 t328, .int .i64 t329]] (by rfl) rfl rfl z9_41 ?_
               with_reducible refine (impl_Laid.calls t326 t327 t328 t329 t371 t372 t373 t374 _ A81.out).mono ?_
               rintro e w89 ⟨rfl, hb⟩
               refine ⟨_, rfl, ?_⟩
               have n0_ := Aside0.mk (blk_below (g := gb334) (o := .cells #[.int .i64 t321, .int .i64 t322, .int .i64 t323, .int .i64 t324, .int .i64 t325, .int .i64 t326, .int .i64 t327, .int .i64 t328, .int .i64 t329, .int .i64 t330, .int .i64 t331, .int .i64 t332, .int .i64 t333] 44 (0, 0)) z9_42 hb)
               have n1_ := Aside0.mk (blk_below (g := gb344) (o := .cells #[.int .i64 t340, .int .i64 t341, .int .i64 t342, .int .i64 t343] 27 (0, 0)) z9_44 hb)
               have n2_ := Aside0.mk (blk_below (g := gb356) (o := .cells #[.int .i64 2, .int .i64 t322, .int .i64 t323, .int .i64 t324, .int .i64 t325, .int .i64 t326, .int .i64 t327, .int .i64 t328, .int .i64 t329, .int .i64 128, .int .i64 0, .int .i64 2688, .int .i64 0] 44 (0, 0)) z9_48 hb)
               have n3_ := Aside0.mk (below_step z9_45 hb)
               clear BK334; clear BK344; clear BK356; clear HB; have BK334 := n0_; have BK344 := n1_; have BK356 := n2_; have HB := n3_; clear n0_ n1_ n2_ n3_; (try clear hb); (try clear hb2); (try clear hk); (try clear hi)
               refine hK.out _ _ ⟨(blk_cell BK356.out 0).trans rfl, (blk_cell BK356.out 1).trans rfl, (blk_cell BK356.out 2).trans rfl, (blk_cell BK356.out 3).trans rfl, (blk_cell BK356.out 4).trans rfl, (blk_cell BK356.out 5).trans rfl, (blk_cell BK356.out 6).trans rfl, (blk_cell BK356.out 7).trans rfl, (blk_cell BK356.out 8).trans rfl, (blk_cell BK356.out 9).trans rfl, (blk_cell BK356.out 10).trans rfl, (blk_cell BK356.out 11).trans rfl, (blk_cell BK356.out 12).trans rfl, (blk_cell BK334.out 0).trans rfl, (blk_cell BK334.out 1).trans rfl, (blk_cell BK334.out 2).trans rfl, (blk_cell BK334.out 3).trans rfl, (blk_cell BK334.out 4).trans rfl, (blk_cell BK334.out 5).trans rfl, (blk_cell BK334.out 6).trans rfl, (blk_cell BK334.out 7).trans rfl, (blk_cell BK334.out 8).trans rfl, (blk_cell BK334.out 9).trans rfl, (blk_cell BK334.out 10).trans rfl, (blk_cell BK334.out 11).trans rfl, (blk_cell BK334.out 12).trans rfl⟩ (fun hHeld => ?_)
               clear hK K
               refine norm_ (a' := ?_) ?_ ?_
               rotate_left
               ·show Act.put _ (some 122) _ = _
                simp only [Act.put, List.setIfInBounds_toArray, List.set_cons_zero, List.set_cons_succ, i64_w, i32_w]
                rfl
               refine pure_ (i := 20) (N := some 123) (v := ?_) (a' := ?_) #[true, true, true, true, true, true, true, true, true, true, true, true, true, true, true, true, true, true, true, true, true, false, false, false, false, false, false, false, false, false, false] rfl rfl (any_of HT_.out (by kernel_rfl)) (fun _ _ _ h => h) (Or.inl ⟨by rfl, ?_⟩) ?_ ?_; rotate_left
               ·intro w'
                go_simp; with_reducible rfl
               rotate_left
               ·exact x9_put
               refine pure_ (i := 21) (N := some 124) (v := ?_) (a' := ?_) #[true, true, true, true, true, true, true, true, true, true, true, true, true, true, true, true, true, true, true, true, true, true, false, false, false, false, false, false, false, false, false] rfl rfl (any_of HT_.out (by kernel_rfl)) (fun _ _ _ h => h) (Or.inl ⟨by rfl, ?_⟩) ?_ ?_; rotate_left
               ·intro w'
                go_simp; with_reducible rfl
               rotate_left
               ·exact x9_put
               refine pure_ (i := 22) (N := some 125) (v := ?_) (a' := ?_) #[true, true, true, true, true, true, true, true, true, true, true, true, true, true, true, true, true, true, true, true, true, true, true, false, false, false, false, false, false, false, false] rfl rfl (any_of HT_.out (by kernel_rfl)) (fun _ _ _ h => h) (Or.inl ⟨by rfl, ?_⟩) ?_ ?_; rotate_left
               ·intro w'
                go_simp; with_reducible rfl
               rotate_left
               ·exact x9_put
               refine pure_ (i := 25) (N := some 128) (v := ?_) (a' := ?_) #[true, true, true, true, true, true, true, true, true, true, true, true, true, true, true, true, true, true, true, true, true, true, true, false, false, true, false, false, false, false, false] rfl rfl (any_of HT_.out (by kernel_rfl)) (fun _ _ _ h => h) (Or.inl ⟨by rfl, ?_⟩) ?_ ?_; rotate_left
               ·intro w'
                go_simp; with_reducible rfl
               rotate_left
               ·exact x9_put
               refine take_ (i := 23) (N := some 126) (v := ?_) (a' := ?_) #[true, true, true, true, true, true, true, true, true, true, true, true, true, true, true, true, true, true, true, true, true, true, true, true, false, true, false, false, false, false, false] rfl rfl (take_ofW HT_.out HW_.out (by kernel_rfl)) (fun _ _ _ h => h) (Or.inl ⟨by rfl, ?_⟩) hHeld ?_ ?_
               rotate_left
               ·rintro w' ⟨s0, s1, s2, s3, s4, s5, s6, s7, s8, s9, s10, s11, s12, s13, s14, s15, s16, s17, s18, s19, s20, s21, s22, s23, s24, s25⟩
                go_simp; with_reducible rfl
               rotate_left
               ·exact x9_put
               refine take_ (i := 26) (N := some 129) (v := ?_) (a' := ?_) #[true, true, true, true, true, true, true, true, true, true, true, true, true, true, true, true, true, true, true, true, true, true, true, true, false, true, true, false, false, false, false] rfl rfl (take_ofW HT_.out HW_.out (by kernel_rfl)) (fun _ _ _ h => h) (Or.inl ⟨by rfl, ?_⟩) hHeld ?_ ?_
               rotate_left
               ·rintro w' ⟨s0, s1, s2, s3, s4, s5, s6, s7, s8, s9, s10, s11, s12, s13, s14, s15, s16, s17, s18, s19, s20, s21, s22, s23, s24, s25⟩
                go_simp; with_reducible rfl
               rotate_left
               ·exact x9_put
               refine one_ (i := 24) (N := some 127) #[true, true, true, true, true, true, true, true, true, true, true, true, true, true, true, true, true, true, true, true, true, true, true, true, true, true, true, false, false, false, false] rfl rfl (one_of HT_.out (by kernel_rfl)) (by decide) (fun K hK => ?_)
               refine goes_ Try.func53 (by kernel_rfl) rfl #[.agg #[.int .i64 2, .int .i64 t322, .int .i64 t323, .int .i64 t324, .int .i64 t325, .int .i64 t326, .int .i64 t327, .int .i64 t328, .int .i64 t329, .int .i64 128, .int .i64 0, .int .i64 2688, .int .i64 0], .int .i64 (-9), .int .i64 0] (by rfl) rfl rfl z9_41 ?_
               with_reducible refine (impl_ColorAt.calls 2 t322 t323 t324 t325 t326 t327 t328 t329 128 0 2688 0 (-9) 0 t375 t376 t377 t378 _ A83.out).mono ?_
               rintro e w90 ⟨rfl, hb⟩
               refine ⟨_, rfl, ?_⟩
               have n0_ := Aside0.mk (blk_below (g := gb334) (o := .cells #[.int .i64 t321, .int .i64 t322, .int .i64 t323, .int .i64 t324, .int .i64 t325, .int .i64 t326, .int .i64 t327, .int .i64 t328, .int .i64 t329, .int .i64 t330, .int .i64 t331, .int .i64 t332, .int .i64 t333] 44 (0, 0)) z9_42 hb)
               have n1_ := Aside0.mk (blk_below (g := gb344) (o := .cells #[.int .i64 t340, .int .i64 t341, .int .i64 t342, .int .i64 t343] 27 (0, 0)) z9_44 hb)
               have n2_ := Aside0.mk (blk_below (g := gb356) (o := .cells #[.int .i64 2, .int .i64 t322, .int .i64 t323, .int .i64 t324, .int .i64 t325, .int .i64 t326, .int .i64 t327, .int .i64 t328, .int .i64 t329, .int .i64 128, .int .i64 0, .int .i64 2688, .int .i64 0] 44 (0, 0)) z9_48 hb)
               have n3_ := Aside0.mk (below_step z9_45 hb)
               clear BK334; clear BK344; clear BK356; clear HB; have BK334 := n0_; have BK344 := n1_; have BK356 := n2_; have HB := n3_; clear n0_ n1_ n2_ n3_; (try clear hb); (try clear hb2); (try clear hk); (try clear hi)
               refine hK.out _ _ ⟨(blk_cell BK356.out 0).trans rfl, (blk_cell BK356.out 1).trans rfl, (blk_cell BK356.out 2).trans rfl, (blk_cell BK356.out 3).trans rfl, (blk_cell BK356.out 4).trans rfl, (blk_cell BK356.out 5).trans rfl, (blk_cell BK356.out 6).trans rfl, (blk_cell BK356.out 7).trans rfl, (blk_cell BK356.out 8).trans rfl, (blk_cell BK356.out 9).trans rfl, (blk_cell BK356.out 10).trans rfl, (blk_cell BK356.out 11).trans rfl, (blk_cell BK356.out 12).trans rfl, (blk_cell BK334.out 0).trans rfl, (blk_cell BK334.out 1).trans rfl, (blk_cell BK334.out 2).trans rfl, (blk_cell BK334.out 3).trans rfl, (blk_cell BK334.out 4).trans rfl, (blk_cell BK334.out 5).trans rfl, (blk_cell BK334.out 6).trans rfl, (blk_cell BK334.out 7).trans rfl, (blk_cell BK334.out 8).trans rfl, (blk_cell BK334.out 9).trans rfl, (blk_cell BK334.out 10).trans rfl, (blk_cell BK334.out 11).trans rfl, (blk_cell BK334.out 12).trans rfl⟩ (fun hHeld => ?_)
               clear hK K
               refine norm_ (a' := ?_) ?_ ?_
               rotate_left
               ·show Act.put _ (some 127) _ = _
                simp only [Act.put, List.setIfInBounds_toArray, List.set_cons_zero, List.set_cons_succ, i64_w, i32_w]
                rfl
               refine one_ (i := 27) (N := some 130) #[true, true, true, true, true, true, true, true, true, true, true, true, true, true, true, true, true, true, true, true, true, true, true, true, true, true, true, true, false, false, false] rfl rfl (one_of HT_.out (by kernel_rfl)) (by decide) (fun K hK => ?_)
               refine goes_ Try.func61 (by kernel_rfl) rfl #[.agg #[.int .i64 t322, .int .i64 t323, .int .i64 t324, .int .i64 t325]] (by rfl) rfl rfl z9_41 ?_
               with_reducible refine (impl_Laid.calls t322 t323 t324 t325 t379 t380 t381 t382 _ A84.out).mono ?_
               rintro e w91 ⟨rfl, hb⟩
               refine ⟨_, rfl, ?_⟩
               have n0_ := Aside0.mk (blk_below (g := gb334) (o := .cells #[.int .i64 t321, .int .i64 t322, .int .i64 t323, .int .i64 t324, .int .i64 t325, .int .i64 t326, .int .i64 t327, .int .i64 t328, .int .i64 t329, .int .i64 t330, .int .i64 t331, .int .i64 t332, .int .i64 t333] 44 (0, 0)) z9_42 hb)
               have n1_ := Aside0.mk (blk_below (g := gb344) (o := .cells #[.int .i64 t340, .int .i64 t341, .int .i64 t342, .int .i64 t343] 27 (0, 0)) z9_44 hb)
               have n2_ := Aside0.mk (blk_below (g := gb356) (o := .cells #[.int .i64 2, .int .i64 t322, .int .i64 t323, .int .i64 t324, .int .i64 t325, .int .i64 t326, .int .i64 t327, .int .i64 t328, .int .i64 t329, .int .i64 128, .int .i64 0, .int .i64 2688, .int .i64 0] 44 (0, 0)) z9_48 hb)
               have n3_ := Aside0.mk (below_step z9_45 hb)
               clear BK334; clear BK344; clear BK356; clear HB; have BK334 := n0_; have BK344 := n1_; have BK356 := n2_; have HB := n3_; clear n0_ n1_ n2_ n3_; (try clear hb); (try clear hb2); (try clear hk); (try clear hi)
               refine hK.out _ _ ⟨(blk_cell BK356.out 0).trans rfl, (blk_cell BK356.out 1).trans rfl, (blk_cell BK356.out 2).trans rfl, (blk_cell BK356.out 3).trans rfl, (blk_cell BK356.out 4).trans rfl, (blk_cell BK356.out 5).trans rfl, (blk_cell BK356.out 6).trans rfl, (blk_cell BK356.out 7).trans rfl, (blk_cell BK356.out 8).trans rfl, (blk_cell BK356.out 9).trans rfl, (blk_cell BK356.out 10).trans rfl, (blk_cell BK356.out 11).trans rfl, (blk_cell BK356.out 12).trans rfl, (blk_cell BK334.out 0).trans rfl, (blk_cell BK334.out 1).trans rfl, (blk_cell BK334.out 2).trans rfl, (blk_cell BK334.out 3).trans rfl, (blk_cell BK334.out 4).trans rfl, (blk_cell BK334.out 5).trans rfl, (blk_cell BK334.out 6).trans rfl, (blk_cell BK334.out 7).trans rfl, (blk_cell BK334.out 8).trans rfl, (blk_cell BK334.out 9).trans rfl, (blk_cell BK334.out 10).trans rfl, (blk_cell BK334.out 11).trans rfl, (blk_cell BK334.out 12).trans rfl⟩ (fun hHeld => ?_)
               clear hK K
               refine norm_ (a' := ?_) ?_ ?_
               rotate_left
               ·show Act.put _ (some 130) _ = _
                simp only [Act.put, List.setIfInBounds_toArray, List.set_cons_zero, List.set_cons_succ, i64_w, i32_w]
                rfl
               refine pure_ (i := 28) (N := some 131) (v := ?_) (a' := ?_) #[true, true, true, true, true, true, true, true, true, true, true, true, true, true, true, true, true, true, true, true, true, true, true, true, true, true, true, true, true, false, false] rfl rfl (any_of HT_.out (by kernel_rfl)) (fun _ _ _ h => h) (Or.inl ⟨by rfl, ?_⟩) ?_ ?_; rotate_left
               ·intro w'
                go_simp; with_reducible rfl
               rotate_left
               ·exact x9_put
               refine pure_ (i := 29) (N := some 132) (v := ?_) (a' := ?_) #[true, true, true, true, true, true, true, true, true, true, true, true, true, true, true, true, true, true, true, true, true, true, true, true, true, true, true, true, true, true, false] rfl rfl (any_of HT_.out (by kernel_rfl)) (fun _ _ _ h => h) (Or.inl ⟨by rfl, ?_⟩) ?_ ?_; rotate_left
               ·intro w'
                go_simp; with_reducible rfl
               rotate_left
               ·exact x9_put
               refine pure_ (i := 30) (N := some 2) (v := ?_) (a' := ?_) #[true, true, true, true, true, true, true, true, true, true, true, true, true, true, true, true, true, true, true, true, true, true, true, true, true, true, true, true, true, true, true] rfl rfl (any_of HT_.out (by kernel_rfl)) (fun _ _ _ h => h) (Or.inl ⟨by rfl, ?_⟩) ?_ ?_; rotate_left
               ·intro w'
                go_simp; with_reducible rfl
               rotate_left
               ·exact x9_put
               refine done_ (done_of HT_.out (by kernel_rfl)) ?_
               try go_wp2
               go_ret
               exact ⟨by first | rfl | (simp [errW_none, errW_some] <;> rfl) | (simp [*, errW_none, errW_some] <;> rfl), by repeat (first | (with_reducible first | exact HB.out | apply below_alloc | apply pw_below_drewN | apply below_drew1 | refine below_set ?_ GE334.out | refine below_set ?_ GE344.out | refine below_set ?_ GE356.out) | exact HB.out)⟩
              ·rw [if_neg c82] at H
               have c82b0 : (t367 == t371 && (t368 == t372 && (t369 == t373 && (t370 == t374)))) = false := by simpa using c82
               (try (have c82b1 : decide (t367 = t371 && (t368 == t372 && (t369 == t373 && (t370 == t374)))) = false := by simpa using c82))
               (try (have c82b2 : (t367 == t371 && (t368 == t372 && (t369 == t373 && (t370 == t374)))) = false := by simpa using c82))
               (try (have c82b3 : ¬ (t367 = t371 && (t368 == t372 && (t369 == t373 && (t370 == t374)))) := by simpa using c82))
               clear c82
               obtain rfl := Option.some.inj H
               exact absurd hT Bool.false_ne_true
             ·rw [if_neg c79] at H
              have c79b0 : (t359 == t363 && (t360 == t364 && (t361 == t365 && (t362 == t366)))) = false := by simpa using c79
              (try (have c79b1 : decide (t359 = t363 && (t360 == t364 && (t361 == t365 && (t362 == t366)))) = false := by simpa using c79))
              (try (have c79b2 : (t359 == t363 && (t360 == t364 && (t361 == t365 && (t362 == t366)))) = false := by simpa using c79))
              (try (have c79b3 : ¬ (t359 = t363 && (t360 == t364 && (t361 == t365 && (t362 == t366)))) := by simpa using c79))
              clear c79
              obtain rfl := Option.some.inj H
              exact absurd hT Bool.false_ne_true
            ·rw [if_neg c76] at H
             have c76b0 : decide (t351 ≤ 256) = false := decide_eq_false c76
             clear c76
             obtain rfl := Option.some.inj H
             exact absurd hT Bool.false_ne_true
           ·rw [if_neg c75] at H
            have c75b0 : decide (0 ≤ t351) = false := decide_eq_false c75
            clear c75
            obtain rfl := Option.some.inj H
            exact absurd hT Bool.false_ne_true
   ·rw [if_neg c7] at H
    exact absurd H (by simp)
  ·rw [if_neg c6] at H
   exact absurd H (by simp)

/-- THE ONE PURE STATEMENT of laws_FnPaints: yours. -/
def laws_FnPaints.Pure : Prop := ∀ (l0 : List Int), l0.length ≤ maxLen → l0.length * 1 ≤ 140737488351232 → (∀ x ∈ l0, (Lit.int .u8 x).wf = true) → ∃ k, laws_FnPaints.f k l0 = some true
theorem laws_FnPaints.walk (P : laws_FnPaints.Pure) (a0 : Option Addr) (len0 cap0 : Nat) (z0 : List Int) (w : World) (w0 : (a0 = none ∧ len0 = 0 ∧ cap0 = 0 ∧ z0 = []) ∨ ∃ x, a0 = some x ∧ len0 ≤ cap0 ∧ cap0 ≤ maxLen ∧ z0.length = cap0 ∧ (∀ i, i < z0.length → w.cell? (x.add i) = some (.int .u8 (z0.getD i 0))) ∧ ∀ n ∈ z0, (Lit.int .u8 n).wf = true) (y0 : len0 * 1 ≤ 140737488351232) :
  Calls Try.prog 13 #[.slice a0 len0 cap0] w fun e w' => e = .returned (.bool true) ∧ Below w.heap.size w w' := by
 obtain ⟨l0, rfl, hr0, hm0, hw0, hc0⟩ := ReadsInt.ofRowC w0
 obtain ⟨k, h⟩ := P l0 hm0 y0 hw0
 refine (laws_FnPaints.calls k _ _ l0 true w (Kd.C_of_reads (d := (0 : Int)) (h1 := fun _ => rfl) hr0) hc0 rfl h).mono ?_
 rintro e w' ⟨rfl, hd⟩
 exact ⟨rfl, hd⟩

end Go.Proofs.Ytndeonfbolookaa.MFnPaints
