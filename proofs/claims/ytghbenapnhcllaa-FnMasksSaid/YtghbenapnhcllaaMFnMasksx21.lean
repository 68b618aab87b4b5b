/- Functions of the program as Lean functions, and the proof that a call comes to just these: machine text of this session's own program (myprint.py). -/
import Derived.Test.YtghbenapnhcllaaMFnMasksx0
import Derived.Test.YtghbenapnhcllaaMFnMasksx3
import Derived.Test.YtghbenapnhcllaaMFnMasksx4
import Derived.Test.YtghbenapnhcllaaMFnMasksx14
import Derived.Test.YtghbenapnhcllaaMFnMasksx15
import Derived.Test.YtghbenapnhcllaaMFnMasksx16
import Derived.Test.YtghbenapnhcllaaMFnMasksx19
import Derived.Test.YtghbenapnhcllaaMFnMasksx20
namespace Go.Proofs.Ytghbenapnhcllaa.MFnMasks
open Go.RowKit Go.Proofs.YtghbenapnhcllaaW.PrintWords Go.Proofs.YtghbenapnhcllaaW.PrintLast Go.Proofs.YtghbenapnhcllaaW.PrintMore
attribute [local go_sem] max2_int min2_int max_two min_two max_three min_three max_four min_four   -- for this text's walks alone
set_option linter.unusedVariables false
set_option linter.unusedSimpArgs false

attribute [local go_sem high] eqA95
def y21_0 : Array Bool := (bA 69 0)
def y21_6 : Array Bool := (bA 69 1)
def y21_8 : Array Bool := (bA 69 3)
def y21_10 : Array Bool := (bA 69 7)
def y21_16 : Array Bool := (bA 69 15)
def y21_19 : Array Bool := (bA 69 31)
def y21_20 : Array Bool := (bA 69 95)
def y21_21 : Array Bool := (bA 69 127)
def y21_24 : Array Bool := (bA 69 255)
def y21_26 : Array Bool := (bA 69 511)
def y21_27 : Array Bool := (bA 69 1023)
def y21_28 : Array Bool := (bA 69 2047)
def y21_29 : Array Bool := (bA 69 4095)
def y21_30 : Array Bool := (bA 69 8191)
def y21_31 : Array Bool := (bA 69 16383)
def y21_32 : Array Bool := (bA 69 32767)
def y21_33 : Array Bool := (bA 69 65535)
def y21_34 : Array Bool := (bA 69 131071)
def y21_35 : Array Bool := (bA 69 262143)
def y21_36 : Array Bool := (bA 69 524287)
def y21_37 : Array Bool := (bA 69 1572863)
def y21_39 : Array Bool := (bA 69 2097151)
def y21_40 : Array Bool := (bA 69 4194303)
def y21_41 : Array Bool := (bA 69 8388607)
def y21_42 : Array Bool := (bA 69 16777215)
def y21_43 : Array Bool := (bA 69 33554431)
def y21_44 : Array Bool := (bA 69 67108863)
def y21_45 : Array Bool := (bA 69 134217727)
def y21_46 : Array Bool := (bA 69 268435455)
def y21_47 : Array Bool := (bA 69 536870911)
def y21_48 : Array Bool := (bA 69 1610612735)
def y21_50 : Array Bool := (bA 69 2147483647)
def y21_51 : Array Bool := (bA 69 4294967295)
def y21_52 : Array Bool := (bA 69 8589934591)
def y21_53 : Array Bool := (bA 69 17179869183)
def y21_54 : Array Bool := (bA 69 34359738367)
def y21_55 : Array Bool := (bA 69 68719476735)
def y21_56 : Array Bool := (bA 69 137438953471)
def y21_57 : Array Bool := (bA 69 274877906943)
def y21_58 : Array Bool := (bA 69 549755813887)
def y21_59 : Array Bool := (bA 69 1649267441663)
def y21_60 : Array Bool := (bA 69 1099511627775)
def y21_61 : Array Bool := (bA 69 2199023255551)
def y21_62 : Array Bool := (bA 69 4398046511103)
def y21_63 : Array Bool := (bA 69 8796093022207)
def y21_64 : Array Bool := (bA 69 17592186044415)
def y21_65 : Array Bool := (bA 69 35184372088831)
def y21_66 : Array Bool := (bA 69 70368744177663)
def y21_67 : Array Bool := (bA 69 140737488355327)
def y21_68 : Array Bool := (bA 69 281474976710655)
def y21_69 : Array Bool := (bA 69 562949953421311)
def y21_70 : Array Bool := (bA 69 1688849860263935)
def y21_71 : Array Bool := (bA 69 1125899906842623)
def y21_72 : Array Bool := (bA 69 2251799813685247)
def y21_73 : Array Bool := (bA 69 4503599627370495)
def y21_74 : Array Bool := (bA 69 9007199254740991)
def y21_75 : Array Bool := (bA 69 18014398509481983)
def y21_76 : Array Bool := (bA 69 36028797018963967)
def y21_77 : Array Bool := (bA 69 72057594037927935)
def y21_78 : Array Bool := (bA 69 144115188075855871)
def y21_79 : Array Bool := (bA 69 288230376151711743)
def y21_80 : Array Bool := (bA 69 576460752303423487)
def y21_82 : Array Bool := (bA 69 1152921504606846975)
def y21_83 : Array Bool := (bA 69 2305843009213693951)
def y21_84 : Array Bool := (bA 69 4611686018427387903)
def y21_85 : Array Bool := (bA 69 9223372036854775807)
def y21_86 : Array Bool := (bA 69 18446744073709551615)
def y21_87 : Array Bool := (bA 69 36893488147419103231)
def y21_88 : Array Bool := (bA 69 73786976294838206463)
def y21_89 : Array Bool := (bA 69 147573952589676412927)
def y21_90 : Array Bool := (bA 69 295147905179352825855)
def y21_91 : Array Bool := (bA 69 590295810358705651711)
theorem x21_put {P : Prop} (h : P := by simp only [Act.put, List.setIfInBounds_toArray, List.set_cons_zero, List.set_cons_succ, i64_w, i32_w]; rfl) : P := h
theorem z21_73 {P : Prop} (h : P := by repeat (first | (with_reducible first | exact HB.out | apply below_alloc | apply pw_below_drewN | apply below_drew1 | refine below_set ?_ GE593.out | refine below_set ?_ GE594.out | refine below_set ?_ GE606.out | refine below_set ?_ GE622.out | refine below_set ?_ GE631.out | refine below_set ?_ GE640.out) | exact HB.out)) : P := h
theorem z21_74 {P : Prop} (h : P := by rw [hw_]; exact (by (with_reducible repeat (first | refine blk_drewN ?_ _ | refine blk_drew ?_ | refine blk_alloc ?_ _)); refine blk_put (cs := #[.int .i64 ((rd_T95 t595 x8_1).f0), .int .i64 ((rd_T95 t595 x8_1).f1), .int .i64 ((rd_T95 t595 x8_1).f2), .int .i64 0]) ?_ 3 _ rfl; (with_reducible repeat (first | refine blk_drewN ?_ _ | refine blk_drew ?_ | refine blk_alloc ?_ _)); refine blk_put (cs := #[.int .i64 ((rd_T95 t595 x8_1).f0), .int .i64 ((rd_T95 t595 x8_1).f1), .int .i64 0, .int .i64 0]) ?_ 2 _ rfl; (with_reducible repeat (first | refine blk_drewN ?_ _ | refine blk_drew ?_ | refine blk_alloc ?_ _)); refine blk_put (cs := #[.int .i64 ((rd_T95 t595 x8_1).f0), .int .i64 0, .int .i64 0, .int .i64 0]) ?_ 1 _ rfl; (with_reducible repeat (first | refine blk_drewN ?_ _ | refine blk_drew ?_ | refine blk_alloc ?_ _)); refine blk_put (cs := #[.int .i64 0, .int .i64 0, .int .i64 0, .int .i64 0]) ?_ 0 _ rfl; (with_reducible repeat (first | refine blk_drewN ?_ _ | refine blk_drew ?_ | refine blk_alloc ?_ _)); exact BK608.out)) : P := h
theorem z21_75 {P : Prop} (h : P := by repeat (first | (with_reducible first | exact HB.out | apply below_alloc | apply pw_below_drewN | apply below_drew1 | refine below_set ?_ GE593.out | refine below_set ?_ GE594.out | refine below_set ?_ GE606.out | refine below_set ?_ GE608.out) | exact HB.out)) : P := h
theorem z21_76 {P : Prop} (h : P := by rw [hw_]; exact (by (with_reducible repeat (first | refine blk_drewN ?_ _ | refine blk_drew ?_ | refine blk_alloc ?_ _ | refine blk_far ?_ NB593_608.out _)); exact BK593.out)) : P := h
theorem z21_77 {P : Prop} (h : P := by rw [hw_]; exact (by (with_reducible repeat (first | refine blk_drewN ?_ _ | refine blk_drew ?_ | refine blk_alloc ?_ _ | refine blk_far ?_ NB594_608.out _)); exact BK594.out)) : P := h
theorem z21_78 {P : Prop} (h : P := by rw [hw_]; exact (by (with_reducible repeat (first | refine blk_drewN ?_ _ | refine blk_drew ?_ | refine blk_alloc ?_ _ | refine blk_far ?_ NB606_608.out _)); exact BK606.out)) : P := h
theorem z21_79 {P : Prop} (h : P := by repeat (first | (with_reducible first | exact HB.out | apply below_alloc | apply pw_below_drewN | apply below_drew1 | refine below_set ?_ GE593.out | refine below_set ?_ GE594.out | refine below_set ?_ GE606.out) | exact HB.out)) : P := h
theorem z21_80 {P : Prop} (h : P := by rw [hw_]; exact (by (with_reducible repeat (first | apply Kd.R_alloc | apply Kd.R_drewN | apply Kd.R_drew)); exact Kd.R_mono (R_f4 (Kd.R_mono HO_5.out (fun k_ hk => (⟨hk, hk.2⟩ : _ ∧ k_ ≠ gb608))) (fun _ hk => hk.2)) (fun _ hk => hk.1.2))) : P := h
theorem z21_81 {P : Prop} (h : P := by rw [hw_]; exact (by (with_reducible repeat (first | apply Kd.R_alloc | apply Kd.R_drewN | apply Kd.R_drew)); exact Kd.R_mono (R_f4 (Kd.R_types HO_594004.out BK608.out (by decide)) (fun _ hk => hk.2)) (fun _ hk => ⟨hk.1.1, hk.1.2⟩))) : P := h
theorem z21_82 {P : Prop} (h : P := by rw [hw_]; exact (by (with_reducible repeat (first | apply Kd.R_alloc | apply Kd.R_drewN | apply Kd.R_drew)); exact Kd.R_mono (R_f4 (Kd.R_types HO_595004.out BK608.out (by decide)) (fun _ hk => hk.2)) (fun _ hk => ⟨hk.1.1, hk.1.2⟩))) : P := h
theorem z21_83 {P : Prop} (h : P := by rw [hw_]; exact (by (with_reducible repeat (first | apply Kd.R_alloc | apply Kd.R_drewN | apply Kd.R_drew)); exact Kd.R_mono (R_f4 (Kd.R_types HO_607004.out BK608.out (by decide)) (fun _ hk => hk.2)) (fun _ hk => ⟨hk.1.1, hk.1.2⟩))) : P := h
theorem z21_85 {P : Prop} (h : P := by repeat (first | (with_reducible first | exact HB.out | apply below_alloc | apply pw_below_drewN | apply below_drew1 | refine below_set ?_ GE593.out | refine below_set ?_ GE594.out) | exact HB.out)) : P := h
theorem z21_86 {P : Prop} (h : P := by repeat (first | (with_reducible first | exact HB.out | apply below_alloc | apply pw_below_drewN | apply below_drew1 | refine below_set ?_ GE593.out | refine below_set ?_ GE594.out | refine below_set ?_ GE606.out | refine below_set ?_ GE622.out | refine below_set ?_ GE631.out) | exact HB.out)) : P := h
theorem z21_87 {P : Prop} (h : P := by repeat (first | (with_reducible first | exact HB.out | apply below_alloc | apply pw_below_drewN | apply below_drew1 | refine below_set ?_ GE593.out | refine below_set ?_ GE594.out | refine below_set ?_ GE606.out | refine below_set ?_ GE622.out) | exact HB.out)) : P := h
theorem z21_88 {P : Prop} (h : P := by (with_reducible repeat (first | apply Kd.R_alloc | apply Kd.R_drewN | apply Kd.R_drew)); exact (Kd.R_mono (Kd.R_mono (R_f5 (Kd.R_far (p := ⟨gb593, 4, none⟩) (Kd.R_far (p := ⟨gb593, 3, none⟩) (Kd.R_far (p := ⟨gb593, 2, none⟩) (Kd.R_far (p := ⟨gb593, 1, none⟩) (Kd.R_far (p := ⟨gb593, 0, none⟩) (Kd.R_types (Kd.R_types HO585.out BK593.out (by decide)) BK594.out (by decide)) (fun _ hk => hk.1.2) (.int .i64 t579)) (fun _ hk => hk.1.2) (.int .i64 t580)) (fun _ hk => hk.1.2) (.int .i64 t581)) (fun _ hk => hk.1.2) (.int .i64 t582)) (fun _ hk => hk.1.2) (.slice Ao12 t583.length co12)) (fun _ hk => hk.2)) (fun _ h_ => h_.1)) (fun _ h_ => h_.1))) : P := h
theorem z21_90 {P : Prop} (h : P := by (with_reducible repeat (first | apply Kd.R_alloc | apply Kd.R_drewN | apply Kd.R_drew)); exact (Kd.R_mono (R_f5 (Kd.R_types HO_594004.out BK631.out (by decide)) (fun _ hk => hk.2)) (fun _ h_ => h_.1))) : P := h
theorem z21_91 {P : Prop} (h : P := by (with_reducible repeat (first | apply Kd.R_alloc | apply Kd.R_drewN | apply Kd.R_drew)); exact (Kd.R_mono (R_f5 (Kd.R_types HO_595004.out BK631.out (by decide)) (fun _ hk => hk.2)) (fun _ h_ => h_.1))) : P := h
theorem z21_92 {P : Prop} (h : P := by (with_reducible repeat (first | apply Kd.R_alloc | apply Kd.R_drewN | apply Kd.R_drew)); exact (Kd.R_mono (R_f5 (Kd.R_types HO_607004.out BK631.out (by decide)) (fun _ hk => hk.2)) (fun _ h_ => h_.1))) : P := h
theorem z21_93 {P : Prop} (h : P := by (with_reducible repeat (first | apply Kd.R_alloc | apply Kd.R_drewN | apply Kd.R_drew)); exact (Kd.R_mono (R_f5 (Kd.R_types HO621.out BK631.out (by decide)) (fun _ hk => hk.2)) (fun _ h_ => h_.1))) : P := h
theorem z21_94 {P : Prop} (h : P := by (with_reducible repeat (first | apply Kd.R_alloc | apply Kd.R_drewN | apply Kd.R_drew)); exact (Kd.R_mono (R_f5 (Kd.R_types HO629.out BK631.out (by decide)) (fun _ hk => hk.2)) (fun _ h_ => h_.1))) : P := h
theorem z21_95 {P : Prop} (h : P := by (with_reducible repeat (first | apply Kd.R_alloc | apply Kd.R_drewN | apply Kd.R_drew)); exact (Kd.R_mono (R_f5 (Kd.R_types HO629.out BK640.out (by decide)) (fun _ hk => hk.2)) (fun _ h_ => h_.1))) : P := h
theorem z21_96 {P : Prop} (h : P := by (with_reducible repeat (first | apply Kd.R_alloc | apply Kd.R_drewN | apply Kd.R_drew)); exact (Kd.R_mono (R_f5 (Kd.R_types HO621.out BK640.out (by decide)) (fun _ hk => hk.2)) (fun _ h_ => h_.1))) : P := h
theorem z21_97 {P : Prop} (h : P := by (with_reducible repeat (first | apply Kd.R_alloc | apply Kd.R_drewN | apply Kd.R_drew)); exact (Kd.R_mono (R_f5 (Kd.R_types HO_5.out BK640.out (by decide)) (fun _ hk => hk.2)) (fun _ h_ => h_.1))) : P := h
theorem z21_98 {P : Prop} (h : P := by (with_reducible repeat (first | apply Kd.R_alloc | apply Kd.R_drewN | apply Kd.R_drew)); exact (Kd.R_mono (R_f4 (Kd.R_types HO_594004.out BK622.out (by decide)) (fun _ hk => hk.2)) (fun _ h_ => h_.1))) : P := h
theorem z21_99 {P : Prop} (h : P := by (with_reducible repeat (first | apply Kd.R_alloc | apply Kd.R_drewN | apply Kd.R_drew)); exact (Kd.R_mono (R_f4 (Kd.R_types HO_595004.out BK622.out (by decide)) (fun _ hk => hk.2)) (fun _ h_ => h_.1))) : P := h
theorem z21_100 {P : Prop} (h : P := by (with_reducible repeat (first | apply Kd.R_alloc | apply Kd.R_drewN | apply Kd.R_drew)); exact (Kd.R_mono (R_f4 (Kd.R_types HO_607004.out BK622.out (by decide)) (fun _ hk => hk.2)) (fun _ h_ => h_.1))) : P := h
theorem z21_101 {P : Prop} (h : P := by (with_reducible repeat (first | apply Kd.R_alloc | apply Kd.R_drewN | apply Kd.R_drew)); exact (Kd.R_mono (R_f4 (Kd.R_types HO621.out BK622.out (by decide)) (fun _ hk => hk.2)) (fun _ h_ => h_.1))) : P := h
theorem z21_102 {P : Prop} (h : P := by repeat (first | exact (Kd.R_reads' HO_594004.out).2.2 | (with_reducible refine Kd.C_alloc ?_ _) | (with_reducible refine Kd.C_drewN ?_ _) | (with_reducible refine Kd.C_drew ?_))) : P := h
theorem z21_103 {P : Prop} (h : P := by repeat (first | (with_reducible first | exact HB.out | apply below_alloc | apply pw_below_drewN | apply below_drew1 | refine below_set ?_ GE593.out) | exact HB.out)) : P := h
theorem z21_104 {P : Prop} (h : P := by repeat (first | exact HR0.out | (with_reducible refine Kd.C_alloc ?_ _) | (with_reducible refine Kd.C_drewN ?_ _) | (with_reducible refine Kd.C_drew ?_))) : P := h
theorem z21_105 {P : Prop} (h : P := by (with_reducible repeat (first | apply Kd.R_alloc | apply Kd.R_drewN | apply Kd.R_drew)); exact Kd.R_mono HO_594004.out (fun _ hk => ⟨hk.1.1.1, ⟨hk.1.1.2, ⟨hk.1.2, hk.2⟩⟩⟩)) : P := h
theorem z21_106 {P : Prop} (h : P := by (with_reducible repeat (first | apply Kd.R_alloc | apply Kd.R_drewN | apply Kd.R_drew)); exact Kd.R_mono HO_595004.out (fun _ hk => ⟨hk.1.1.1, ⟨hk.1.1.2, ⟨hk.1.2, hk.2⟩⟩⟩)) : P := h
theorem z21_107 {P : Prop} (h : P := by (with_reducible repeat (first | apply Kd.R_alloc | apply Kd.R_drewN | apply Kd.R_drew)); exact Kd.R_mono HO_607004.out (fun _ hk => ⟨hk.1.1.1, ⟨hk.1.1.2, ⟨hk.1.2, hk.2⟩⟩⟩)) : P := h
theorem z21_108 {P : Prop} (h : P := by (with_reducible repeat (first | apply Kd.R_alloc | apply Kd.R_drewN | apply Kd.R_drew)); exact Kd.R_mono HO629.out (fun _ hk => ⟨hk.1.1.1.2, ⟨hk.1.1.2, ⟨hk.1.2, hk.2⟩⟩⟩)) : P := h
theorem z21_109 {P : Prop} (h : P := by (with_reducible repeat (first | apply Kd.R_alloc | apply Kd.R_drewN | apply Kd.R_drew)); exact Kd.R_mono HO638.out (fun _ hk => ⟨hk.1.1.1.2, ⟨hk.1.1.2, ⟨hk.1.2, hk.2⟩⟩⟩)) : P := h
theorem z21_110 {P : Prop} (h : P := by (with_reducible repeat (first | apply Kd.R_alloc | apply Kd.R_drewN | apply Kd.R_drew)); exact Kd.R_mono HO621.out (fun _ hk => hk.2)) : P := h
theorem z21_111 {P : Prop} (h : P := by (with_reducible repeat (first | apply Kd.R_alloc | apply Kd.R_drewN | apply Kd.R_drew)); exact Kd.R_mono HO643.out (fun _ hk => hk.2)) : P := h
/-! ### laws_FnMasks: function 8 -/
mutual
def laws_FnMasks.l0 : Nat → List Int → List (S95) → Bool → Int → Int → Int → Int → Int → List Int → Int → Int → Int → Int → List Int → Option (Bool)
 | 0, _, _, _, _, _, _, _, _, _, _, _, _, _, _ => none
 | k + 1, x0, x5, x7, x8, x594000, x594001, x594002, x594003, x594004, x607000, x607001, x607002, x607003, x607004 => if x8 < (x5.length : Int) then (if 0 ≤ x8 then (if ((rd_T95 x5 x8).f3) = 0 then (laws_FnMasks.j1 k x0 x5 x7 x8 true x594000 x594001 x594002 x594003 x594004 x607000 x607001 x607002 x607003 x607004 ((rd_T95 x5 x8).f0) ((rd_T95 x5 x8).f1) ((rd_T95 x5 x8).f2) ((rd_T95 x5 x8).f3)) else (if ((rd_T95 x5 x8).f1) ≥ ((rd_T95 x5 x8).f2) then (laws_FnMasks.j1 k x0 x5 x7 x8 true x594000 x594001 x594002 x594003 x594004 x607000 x607001 x607002 x607003 x607004 ((rd_T95 x5 x8).f0) ((rd_T95 x5 x8).f1) ((rd_T95 x5 x8).f2) ((rd_T95 x5 x8).f3)) else (if x8 > 0 then (if 0 ≤ (wrap64 (x8 - 1)) then (if (wrap64 (x8 - 1)) < (x5.length : Int) then (if ((rd_T95 x5 (wrap64 (x8 - 1))).f0) > ((rd_T95 x5 x8).f0) then (laws_FnMasks.j1 k x0 x5 x7 x8 true x594000 x594001 x594002 x594003 x594004 x607000 x607001 x607002 x607003 x607004 ((rd_T95 x5 x8).f0) ((rd_T95 x5 x8).f1) ((rd_T95 x5 x8).f2) ((rd_T95 x5 x8).f3)) else (if ((rd_T95 x5 (wrap64 (x8 - 1))).f0) = ((rd_T95 x5 x8).f0) then (if ((rd_T95 x5 (wrap64 (x8 - 1))).f2) > ((rd_T95 x5 x8).f1) then (laws_FnMasks.j1 k x0 x5 x7 x8 true x594000 x594001 x594002 x594003 x594004 x607000 x607001 x607002 x607003 x607004 ((rd_T95 x5 x8).f0) ((rd_T95 x5 x8).f1) ((rd_T95 x5 x8).f2) ((rd_T95 x5 x8).f3)) else (if ((rd_T95 x5 (wrap64 (x8 - 1))).f2) = ((rd_T95 x5 x8).f1) then (laws_FnMasks.j1 k x0 x5 x7 x8 (((rd_T95 x5 (wrap64 (x8 - 1))).f3) == ((rd_T95 x5 x8).f3)) x594000 x594001 x594002 x594003 x594004 x607000 x607001 x607002 x607003 x607004 ((rd_T95 x5 x8).f0) ((rd_T95 x5 x8).f1) ((rd_T95 x5 x8).f2) ((rd_T95 x5 x8).f3)) else (laws_FnMasks.j1 k x0 x5 x7 x8 false x594000 x594001 x594002 x594003 x594004 x607000 x607001 x607002 x607003 x607004 ((rd_T95 x5 x8).f0) ((rd_T95 x5 x8).f1) ((rd_T95 x5 x8).f2) ((rd_T95 x5 x8).f3)))) else (laws_FnMasks.j1 k x0 x5 x7 x8 false x594000 x594001 x594002 x594003 x594004 x607000 x607001 x607002 x607003 x607004 ((rd_T95 x5 x8).f0) ((rd_T95 x5 x8).f1) ((rd_T95 x5 x8).f2) ((rd_T95 x5 x8).f3)))) else (none)) else (none)) else (laws_FnMasks.j1 k x0 x5 x7 x8 false x594000 x594001 x594002 x594003 x594004 x607000 x607001 x607002 x607003 x607004 ((rd_T95 x5 x8).f0) ((rd_T95 x5 x8).f1) ((rd_T95 x5 x8).f2) ((rd_T95 x5 x8).f3))))) else (none)) else ((spec_DrawMaskBy.f k x0).bind fun bt615 => ((impl_MaskBy.f k bt615.1 bt615.2.1 bt615.2.2.1 bt615.2.2.2.1 bt615.2.2.2.2).bind fun bt623 => ((spec_MaskBy.f k bt615.1 bt615.2.1 bt615.2.2.1 bt615.2.2.2.1 bt615.2.2.2.2).bind fun bt632 => ((impl_RunsOf.f k bt623.1 bt623.2.1 bt623.2.2.1 bt623.2.2.2.1 bt623.2.2.2.2.1).bind fun t641 => (if (bt623.2.2.2.2.2 != bt632.2.2.2.2.2) = true then (laws_FnMasks.j3 k x7 bt615.2.2.2.2 bt623.2.2.2.2.2 t641 true x594000 x594001 x594002 x594003 x594004 x607000 x607001 x607002 x607003 x607004) else (if bt623.2.2.2.2.2 = true then (laws_FnMasks.j3 k x7 bt615.2.2.2.2 bt623.2.2.2.2.2 t641 ((t641.length : Int) != (bt615.2.2.2.2.length : Int)) x594000 x594001 x594002 x594003 x594004 x607000 x607001 x607002 x607003 x607004) else (laws_FnMasks.j3 k x7 bt615.2.2.2.2 bt623.2.2.2.2.2 t641 false x594000 x594001 x594002 x594003 x594004 x607000 x607001 x607002 x607003 x607004)))))))
def laws_FnMasks.j1 : Nat → List Int → List (S95) → Bool → Int → Bool → Int → Int → Int → Int → List Int → Int → Int → Int → Int → List Int → Int → Int → Int → Int → Option (Bool)
 | 0, _, _, _, _, _, _, _, _, _, _, _, _, _, _, _, _, _, _, _ => none
 | k + 1, x0, x5, x7, x8, x113, x594000, x594001, x594002, x594003, x594004, x607000, x607001, x607002, x607003, x607004, x609000, x609001, x609002, x609003 => if x113 = true then (some false) else (laws_FnMasks.l1 k x0 x5 x7 x8 x609001 x594000 x594001 x594002 x594003 x594004 x607000 x607001 x607002 x607003 x607004 x609000 x609001 x609002 x609003)
def laws_FnMasks.l1 : Nat → List Int → List (S95) → Bool → Int → Int → Int → Int → Int → Int → List Int → Int → Int → Int → Int → List Int → Int → Int → Int → Int → Option (Bool)
 | 0, _, _, _, _, _, _, _, _, _, _, _, _, _, _, _, _, _, _, _ => none
 | k + 1, x0, x5, x7, x8, x10, x594000, x594001, x594002, x594003, x594004, x607000, x607001, x607002, x607003, x607004, x609000, x609001, x609002, x609003 => if x10 < x609002 then ((impl_BitsAt.f k x594000 x594001 x594002 x594003 x594004 x10 x609000).bind fun t614 => (if t614 = x609003 then (laws_FnMasks.l1 k x0 x5 x7 x8 (wrap64 (x10 + 1)) x594000 x594001 x594002 x594003 x594004 x607000 x607001 x607002 x607003 x607004 x609000 x609001 x609002 x609003) else (some false))) else (laws_FnMasks.l0 k x0 x5 x7 (wrap64 (x8 + 1)) x594000 x594001 x594002 x594003 x594004 x607000 x607001 x607002 x607003 x607004)
def laws_FnMasks.j3 : Nat → Bool → List (S95) → Bool → List (S95) → Bool → Int → Int → Int → Int → List Int → Int → Int → Int → Int → List Int → Option (Bool)
 | 0, _, _, _, _, _, _, _, _, _, _, _, _, _, _, _ => none
 | k + 1, x7, x12, x14, x17, x161, x594000, x594001, x594002, x594003, x594004, x607000, x607001, x607002, x607003, x607004 => if x161 = true then (some false) else (laws_FnMasks.l2 k x7 x12 x14 x17 0 x594000 x594001 x594002 x594003 x594004 x607000 x607001 x607002 x607003 x607004)
def laws_FnMasks.l2 : Nat → Bool → List (S95) → Bool → List (S95) → Int → Int → Int → Int → Int → List Int → Int → Int → Int → Int → List Int → Option (Bool)
 | 0, _, _, _, _, _, _, _, _, _, _, _, _, _, _, _ => none
 | k + 1, x7, x12, x14, x17, x18, x594000, x594001, x594002, x594003, x594004, x607000, x607001, x607002, x607003, x607004 => if x18 < (x12.length : Int) then (laws_FnMasks.j5 k x7 x12 x14 x17 x18 x14 x594000 x594001 x594002 x594003 x594004 x607000 x607001 x607002 x607003 x607004) else (laws_FnMasks.j5 k x7 x12 x14 x17 x18 false x594000 x594001 x594002 x594003 x594004 x607000 x607001 x607002 x607003 x607004)
def laws_FnMasks.j5 : Nat → Bool → List (S95) → Bool → List (S95) → Int → Bool → Int → Int → Int → Int → List Int → Int → Int → Int → Int → List Int → Option (Bool)
 | 0, _, _, _, _, _, _, _, _, _, _, _, _, _, _, _, _ => none
 | k + 1, x7, x12, x14, x17, x18, x168, x594000, x594001, x594002, x594003, x594004, x607000, x607001, x607002, x607003, x607004 => if x168 = true then (if 0 ≤ x18 then (if x18 < (x17.length : Int) then (if x18 < (x12.length : Int) then (if (!(((rd_T95 x17 x18).f0) == ((rd_T95 x12 x18).f0)) || (!(((rd_T95 x17 x18).f1) == ((rd_T95 x12 x18).f1)) || (!(((rd_T95 x17 x18).f2) == ((rd_T95 x12 x18).f2)) || (!(((rd_T95 x17 x18).f3) == ((rd_T95 x12 x18).f3)))))) = true then (some false) else (laws_FnMasks.l2 k x7 x12 x14 x17 (wrap64 (x18 + 1)) x594000 x594001 x594002 x594003 x594004 x607000 x607001 x607002 x607003 x607004)) else (none)) else (none)) else (none)) else (if x7 = true then ((laws_sameMask.f k x607000 x607001 x607002 x607003 x607004 x594000 x594001 x594002 x594003 x594004).bind fun t646 => (if t646 = true then ((impl_MaskOk.f k x594000 x594001 x594002 x594003 x594004).bind fun t647 => (some t647)) else (some false))) else (some false))
end
def laws_FnMasks.f (k : Nat) (l0 : List Int) : Option (Bool) := (laws_big.f l0).bind fun t578 => (if t578 = true then (some true) else ((spec_DrawMasks.f k l0).bind fun bt579 => ((impl_RunsOf.f k bt579.1 bt579.2.1 bt579.2.2.1 bt579.2.2.2.1 bt579.2.2.2.2.1).bind fun t595 => ((impl_MaskBy.f k bt579.1 bt579.2.1 bt579.2.2.1 bt579.2.2.2.1 t595).bind fun bt598 => (laws_FnMasks.l0 k l0 t595 bt598.2.2.2.2.2 0 bt579.1 bt579.2.1 bt579.2.2.1 bt579.2.2.2.1 bt579.2.2.2.2.1 bt598.1 bt598.2.1 bt598.2.2.1 bt598.2.2.2.1 bt598.2.2.2.2.1)))))
theorem laws_FnMasks.mono_l : ∀ k, (∀ y0 y1 y2 y3 y4 y5 y6 y7 y8 y9 y10 y11 y12 y13, LeO (laws_FnMasks.l0 k y0 y1 y2 y3 y4 y5 y6 y7 y8 y9 y10 y11 y12 y13) (laws_FnMasks.l0 (k + 1) y0 y1 y2 y3 y4 y5 y6 y7 y8 y9 y10 y11 y12 y13)) ∧ (∀ y0 y1 y2 y3 y4 y5 y6 y7 y8 y9 y10 y11 y12 y13 y14 y15 y16 y17 y18, LeO (laws_FnMasks.j1 k y0 y1 y2 y3 y4 y5 y6 y7 y8 y9 y10 y11 y12 y13 y14 y15 y16 y17 y18) (laws_FnMasks.j1 (k + 1) y0 y1 y2 y3 y4 y5 y6 y7 y8 y9 y10 y11 y12 y13 y14 y15 y16 y17 y18)) ∧ (∀ y0 y1 y2 y3 y4 y5 y6 y7 y8 y9 y10 y11 y12 y13 y14 y15 y16 y17 y18, LeO (laws_FnMasks.l1 k y0 y1 y2 y3 y4 y5 y6 y7 y8 y9 y10 y11 y12 y13 y14 y15 y16 y17 y18) (laws_FnMasks.l1 (k + 1) y0 y1 y2 y3 y4 y5 y6 y7 y8 y9 y10 y11 y12 y13 y14 y15 y16 y17 y18)) ∧ (∀ y0 y1 y2 y3 y4 y5 y6 y7 y8 y9 y10 y11 y12 y13 y14, LeO (laws_FnMasks.j3 k y0 y1 y2 y3 y4 y5 y6 y7 y8 y9 y10 y11 y12 y13 y14) (laws_FnMasks.j3 (k + 1) y0 y1 y2 y3 y4 y5 y6 y7 y8 y9 y10 y11 y12 y13 y14)) ∧ (∀ y0 y1 y2 y3 y4 y5 y6 y7 y8 y9 y10 y11 y12 y13 y14, LeO (laws_FnMasks.l2 k y0 y1 y2 y3 y4 y5 y6 y7 y8 y9 y10 y11 y12 y13 y14) (laws_FnMasks.l2 (k + 1) y0 y1 y2 y3 y4 y5 y6 y7 y8 y9 y10 y11 y12 y13 y14)) ∧ (∀ y0 y1 y2 y3 y4 y5 y6 y7 y8 y9 y10 y11 y12 y13 y14 y15, LeO (laws_FnMasks.j5 k y0 y1 y2 y3 y4 y5 y6 y7 y8 y9 y10 y11 y12 y13 y14 y15) (laws_FnMasks.j5 (k + 1) y0 y1 y2 y3 y4 y5 y6 y7 y8 y9 y10 y11 y12 y13 y14 y15))
 | 0 => ⟨fun _ _ _ _ _ _ _ _ _ _ _ _ _ _ r h => by simp [laws_FnMasks.l0] at h, fun _ _ _ _ _ _ _ _ _ _ _ _ _ _ _ _ _ _ _ r h => by simp [laws_FnMasks.j1] at h, fun _ _ _ _ _ _ _ _ _ _ _ _ _ _ _ _ _ _ _ r h => by simp [laws_FnMasks.l1] at h, fun _ _ _ _ _ _ _ _ _ _ _ _ _ _ _ r h => by simp [laws_FnMasks.j3] at h, fun _ _ _ _ _ _ _ _ _ _ _ _ _ _ _ r h => by simp [laws_FnMasks.l2] at h, fun _ _ _ _ _ _ _ _ _ _ _ _ _ _ _ _ r h => by simp [laws_FnMasks.j5] at h⟩
 | k + 1 => by
  obtain ⟨ih0, ih1, ih2, ih3, ih4, ih5⟩ := laws_FnMasks.mono_l k
  refine ⟨?_, ?_, ?_, ?_, ?_, ?_⟩
  ·intro y0 y1 y2 y3 y4 y5 y6 y7 y8 y9 y10 y11 y12 y13
   unfold laws_FnMasks.l0
   with_reducible repeat' first | apply ih0 | apply ih1 | apply ih2 | apply ih3 | apply ih4 | apply ih5 | apply impl_BitsAt.mono | apply impl_MaskBy.mono | apply impl_MaskOk.mono | apply impl_RunsOf.mono | apply laws_sameMask.mono | apply spec_DrawMaskBy.mono | apply spec_DrawMasks.mono | apply spec_MaskBy.mono | exact LeO.refl _ | exact LeO.none _ | refine LeO.ite ?_ ?_ | refine LeO.bind ?_ (fun _ => ?_)
  ·intro y0 y1 y2 y3 y4 y5 y6 y7 y8 y9 y10 y11 y12 y13 y14 y15 y16 y17 y18
   unfold laws_FnMasks.j1
   with_reducible repeat' first | apply ih0 | apply ih1 | apply ih2 | apply ih3 | apply ih4 | apply ih5 | apply impl_BitsAt.mono | apply impl_MaskBy.mono | apply impl_MaskOk.mono | apply impl_RunsOf.mono | apply laws_sameMask.mono | apply spec_DrawMaskBy.mono | apply spec_DrawMasks.mono | apply spec_MaskBy.mono | exact LeO.refl _ | exact LeO.none _ | refine LeO.ite ?_ ?_ | refine LeO.bind ?_ (fun _ => ?_)
  ·intro y0 y1 y2 y3 y4 y5 y6 y7 y8 y9 y10 y11 y12 y13 y14 y15 y16 y17 y18
   unfold laws_FnMasks.l1
   with_reducible repeat' first | apply ih0 | apply ih1 | apply ih2 | apply ih3 | apply ih4 | apply ih5 | apply impl_BitsAt.mono | apply impl_MaskBy.mono | apply impl_MaskOk.mono | apply impl_RunsOf.mono | apply laws_sameMask.mono | apply spec_DrawMaskBy.mono | apply spec_DrawMasks.mono | apply spec_MaskBy.mono | exact LeO.refl _ | exact LeO.none _ | refine LeO.ite ?_ ?_ | refine LeO.bind ?_ (fun _ => ?_)
  ·intro y0 y1 y2 y3 y4 y5 y6 y7 y8 y9 y10 y11 y12 y13 y14
   unfold laws_FnMasks.j3
   with_reducible repeat' first | apply ih0 | apply ih1 | apply ih2 | apply ih3 | apply ih4 | apply ih5 | apply impl_BitsAt.mono | apply impl_MaskBy.mono | apply impl_MaskOk.mono | apply impl_RunsOf.mono | apply laws_sameMask.mono | apply spec_DrawMaskBy.mono | apply spec_DrawMasks.mono | apply spec_MaskBy.mono | exact LeO.refl _ | exact LeO.none _ | refine LeO.ite ?_ ?_ | refine LeO.bind ?_ (fun _ => ?_)
  ·intro y0 y1 y2 y3 y4 y5 y6 y7 y8 y9 y10 y11 y12 y13 y14
   unfold laws_FnMasks.l2
   with_reducible repeat' first | apply ih0 | apply ih1 | apply ih2 | apply ih3 | apply ih4 | apply ih5 | apply impl_BitsAt.mono | apply impl_MaskBy.mono | apply impl_MaskOk.mono | apply impl_RunsOf.mono | apply laws_sameMask.mono | apply spec_DrawMaskBy.mono | apply spec_DrawMasks.mono | apply spec_MaskBy.mono | exact LeO.refl _ | exact LeO.none _ | refine LeO.ite ?_ ?_ | refine LeO.bind ?_ (fun _ => ?_)
  ·intro y0 y1 y2 y3 y4 y5 y6 y7 y8 y9 y10 y11 y12 y13 y14 y15
   unfold laws_FnMasks.j5
   with_reducible repeat' first | apply ih0 | apply ih1 | apply ih2 | apply ih3 | apply ih4 | apply ih5 | apply impl_BitsAt.mono | apply impl_MaskBy.mono | apply impl_MaskOk.mono | apply impl_RunsOf.mono | apply laws_sameMask.mono | apply spec_DrawMaskBy.mono | apply spec_DrawMasks.mono | apply spec_MaskBy.mono | exact LeO.refl _ | exact LeO.none _ | refine LeO.ite ?_ ?_ | refine LeO.bind ?_ (fun _ => ?_)
theorem laws_FnMasks.mono : ∀ a0 k, LeO (laws_FnMasks.f k a0) (laws_FnMasks.f (k + 1) a0) := by
 intro a0 k; obtain ⟨ih0, ih1, ih2, ih3, ih4, ih5⟩ := laws_FnMasks.mono_l k
 unfold laws_FnMasks.f
 with_reducible repeat' first | apply ih0 | apply ih1 | apply ih2 | apply ih3 | apply ih4 | apply ih5 | apply impl_BitsAt.mono | apply impl_MaskBy.mono | apply impl_MaskOk.mono | apply impl_RunsOf.mono | apply laws_sameMask.mono | apply spec_DrawMaskBy.mono | apply spec_DrawMasks.mono | apply spec_MaskBy.mono | exact LeO.refl _ | exact LeO.none _ | refine LeO.ite ?_ ?_ | refine LeO.bind ?_ (fun _ => ?_)

def laws_FnMasks.T10 : Bool × List (List Nat × List Nat) := (true, [([], []), ([0], [0]), ([1], [1]), ([2], [2]), ([3], [3]), ([4, 3], [3, 4]), ([3], [3]), ([6, 3], [3, 6]), ([5, 7, 3], [3, 5, 7]), ([3, 8], [3, 8]), ([9, 3], [9]), ([10], [10]), ([11, 10], [10, 11]), ([12, 10, 10], [10, 12]), ([13], [13]), ([13], [13]), ([15, 13], [13, 15]), ([14, 16, 13], [13, 14, 16]), ([17, 13], [13, 17]), ([18, 13], [13, 18]), ([13], [13]), ([20, 13], [13, 20]), ([19, 21, 13], [13, 19, 21]), ([22, 13, 13], [13, 22]), ([23], [23]), ([23], [23]), ([25, 23], [23, 25]), ([24, 26, 23], [23, 24, 26]), ([27, 23], [23, 27]), ([28, 23], [23, 28]), ([23], [23]), ([30, 23], [23, 30]), ([29, 31, 23], [23, 29, 31]), ([32, 23, 23], [23, 32]), ([33], [33]), ([33], [33]), ([35, 33], [33, 35]), ([34, 36, 33], [33, 34, 36]), ([37, 33], [33, 37]), ([38, 33], [33, 38]), ([33], [33]), ([40, 33], [33, 40]), ([39, 41, 33], [33, 39, 41]), ([42, 33, 33], [33, 42]), ([43], [43]), ([43], [43]), ([45, 43], [43, 45]), ([44, 46, 43], [43, 44, 46]), ([47, 43], [43, 47]), ([48, 43], [43, 48]), ([43], [43]), ([50, 43], [43, 50]), ([49, 51, 43], [43, 49, 51]), ([52, 43, 43], [43, 52]), ([53], [53]), ([53], [53]), ([55, 53], [53, 55]), ([54, 56, 53], [53, 54, 56]), ([57, 53], [53, 57]), ([58, 53], [53, 58]), ([53], [53]), ([60, 53], [53, 60]), ([59, 61, 53], [53, 59, 61]), ([53, 62, 43], [43, 53, 62]), ([43, 63, 33], [33, 43, 63]), ([33, 64, 23], [23, 33, 64]), ([23, 65, 13], [13, 23, 65]), ([13, 66, 10], [10, 13, 66]), ([10, 67], [10, 67])])
def laws_FnMasks.B10 : List Nat := [0, 1, 3, 7, 15, 31, 15, 79, 255, 511, 1023, 2047, 4095, 8191, 16383, 16383, 49151, 131071, 262143, 524287, 16383, 1064959, 4194303, 8388607, 16777215, 16777215, 50331647, 134217727, 268435455, 536870911, 16777215, 1090519039, 4294967295, 8589934591, 17179869183, 17179869183, 51539607551, 137438953471, 274877906943, 549755813887, 17179869183, 1116691496959, 4398046511103, 8796093022207, 17592186044415, 17592186044415, 52776558133247, 140737488355327, 281474976710655, 562949953421311, 17592186044415, 1143492092887039, 4503599627370495, 9007199254740991, 18014398509481983, 18014398509481983, 54043195528445951, 144115188075855871, 288230376151711743, 576460752303423487, 18014398509481983, 1170935903116328959, 4611686018427387903, 9223372036854775807, 18446744073709551615, 36893488147419103231, 73786976294838206463, 147573952589676412927, 295147905179352825855]
theorem laws_FnMasks.tab10 : rtab .any (opsOf Try.f8 10) = laws_FnMasks.T10 := by kernel_rfl
theorem laws_FnMasks.bits10 : waitsOk laws_FnMasks.T10.2 laws_FnMasks.B10 = true := by kernel_rfl
def laws_FnMasks.T15 : Bool × List (List Nat × List Nat) := (true, [([], []), ([], []), ([], []), ([2], [2]), ([0, 1, 3], [0, 1, 3]), ([], []), ([5], [5]), ([4, 6], [4, 6])])
def laws_FnMasks.B15 : List Nat := [0, 0, 0, 4, 15, 0, 32, 127]
theorem laws_FnMasks.tab15 : rtab .any (opsOf Try.f8 15) = laws_FnMasks.T15 := by kernel_rfl
theorem laws_FnMasks.bits15 : waitsOk laws_FnMasks.T15.2 laws_FnMasks.B15 = true := by kernel_rfl
def laws_FnMasks.T26 : Bool × List (List Nat × List Nat) := (true, [([], []), ([], []), ([0, 1], [0, 1]), ([2], [2]), ([], []), ([], []), ([4, 5], [4, 5]), ([6], [6]), ([3, 7], [3, 7])])
def laws_FnMasks.B26 : List Nat := [0, 0, 3, 7, 0, 0, 48, 112, 255]
theorem laws_FnMasks.tab26 : rtab .any (opsOf Try.f8 26) = laws_FnMasks.T26 := by kernel_rfl
theorem laws_FnMasks.bits26 : waitsOk laws_FnMasks.T26.2 laws_FnMasks.B26 = true := by kernel_rfl
set_option maxHeartbeats 8000000 in
set_option maxRecDepth 100000 in
theorem laws_FnMasks.calls (k : Nat) (A0 : Option Addr) (c0 : Nat) (l0 : List Int) (r : Bool) (w : World) (hr0 : Kd.C (Kd.int .u8) w A0 l0.length l0) (hc0 : l0.length ≤ c0) (hT : r = true) (h : laws_FnMasks.f k l0 = some r) :
  Calls Try.prog 8 #[.slice A0 l0.length c0] w fun e w' => e = .returned (.bool r) ∧ Below w.heap.size w w' := by
 have hu65 := Try.underlying65; have hu63 := Try.underlying63; have hu95 := Try.underlying95; have HR0 := mk0 hr0; have HC0 := mk0 hc0; clear hr0 hc0; have HB := mk0 (Below.refl w.heap.size w)
 have H := h; unfold laws_FnMasks.f at H
 clear h; obtain ⟨t578, A2, H⟩ := bnd H
 try dsimp only at H
 by_cases c3 : t578 = true
 ·subst c3; rw [if_pos rfl] at H
  obtain rfl := Option.some.inj H
  simp only [Option.some.injEq, Prod.mk.injEq] at H; obtain ⟨rfl⟩ := H
  go_enter Try.func8, Try.ntmps8
  go_wp2_with (first | ((with_reducible refine gate_callee (f := 24) rfl ?_); refine gl_ (some 20) Try.func24 #[.slice A0 l0.length c0] rfl q_0 ?_; (with_reducible refine (laws_big.calls _ _ l0 true _ ?side1 ?side2 A2.out).mono ?_); (case side1 => exact z21_104); (case side2 => exact HC0.out); rintro e w' ⟨rfl, ⟨nd, rfl⟩⟩; refine ⟨_, rfl, ?_⟩))
  go_ret
  exact ⟨(by first | rfl | (simp [errW_none, errW_some] <;> rfl) | (simp [*, errW_none, errW_some] <;> rfl)), q_149⟩
 replace c3 := Bool.eq_false_iff.mpr c3; subst c3; rw [if_neg (show ¬ (false = true) by decide)] at H
 obtain ⟨⟨t579, t580, t581, t582, t583, t586, t587, t588, t589, t590⟩, A4, H⟩ := bnd H
 try dsimp only at H
 obtain ⟨t595, A5, H⟩ := bnd H
 try dsimp only at H
 obtain ⟨⟨t598, t599, t600, t601, t602, t605⟩, A6, H⟩ := bnd H
 try dsimp only at H
 have H' := mk0 H
 clear H; go_enter Try.func8, Try.ntmps8
 go_wp2_with (first | ((with_reducible refine gate_callee (f := 24) rfl ?_); refine gl_ (some 20) Try.func24 #[.slice A0 l0.length c0] rfl q_0 ?_; (with_reducible refine (laws_big.calls _ _ l0 false _ ?side1 ?side2 A2.out).mono ?_); (case side1 => exact z21_104); (case side2 => exact HC0.out); rintro e w' ⟨rfl, ⟨nd, rfl⟩⟩; refine ⟨_, rfl, ?_⟩) | ((with_reducible refine gate_callee (f := 25) rfl ?_); refine gl_ (some 23) Try.func25 #[.slice A0 l0.length c0] rfl q_0 ?_; (with_reducible refine (spec_DrawMasks.calls k _ _ l0 t579 t580 t581 t582 t583 t586 t587 t588 t589 t590 _ ?side1 ?side2 A4.out).mono ?_); (case side1 => exact z21_104); (case side2 => exact HC0.out); rintro e w7 ⟨v584, v591, rfl, ho0, ho1, hb⟩; refine ⟨_, rfl, ?_⟩; have HO585 := mk0 (Kd.R_lower ho0 (below_size q_149)); have HO592 := mk0 (Kd.R_lower ho1 (below_size q_149)); replace HB := bS q_149 hb; clear hb ho0 ho1; (try clear hk)) | ((with_reducible refine gate_dst (N := 3) rfl ?_); (try (refine gate_guard (by rfl) ?_; dsimp only)); refine boxz (cs := #[.int .i64 0, .int .i64 0, .int .i64 0, .int .i64 0, .slice none 0 0]) (t := 65) rfl ?_; intro gb593 hg w8 hbox hb; have GW593 := mk0 (ge_go (a := w.heap.size) hg (below_size q_149)); have GE593 := GW593; replace HO585 := bR HO585 hb; replace HO592 := bR HO592 hb; replace HB := bS q_149 hb; have BK593 := mk0 (hbox); clear hb hbox hg) | ((with_reducible refine gate_dst (N := 4) rfl ?_); (try (refine gate_guard (by rfl) ?_; dsimp only)); refine boxz (cs := #[.int .i64 0, .int .i64 0, .int .i64 0, .int .i64 0, .slice none 0 0]) (t := 65) rfl ?_; intro gb594 hg w9 hbox hb; have GW594 := mk0 (ge_go (a := w.heap.size) hg (below_size z21_103)); have GE594 := GW594; have NB593_594 := mk0 (nb_lt hg (blk_ltB BK593 (pkb BK593))); have NB594_593 := mk0 (nb_gt hg (blk_ltB BK593 (pkb BK593))); replace HO585 := bR HO585 hb; replace HO592 := bR HO592 hb; replace BK593 := bB BK593 hb; replace HB := bS z21_103 hb; have BK594 := mk0 (hbox); clear hb hbox hg; have hnb10 := NB593_594.out; have hnc10 := NB594_593.out; obtain ⟨_, _, _, _, _, _, _, _, _, _⟩ := be_5 BK593.out; obtain ⟨Ao12, co12, eo12⟩ := Kd.R_slice HO585.out; subst eo12; obtain ⟨_, _, _, _, _, _, _, _, _, _⟩ := be_5 BK594.out; obtain ⟨Ao14, co14, eo14⟩ := Kd.R_slice HO592.out; subst eo14) | ((with_reducible refine gate_callee (f := 44) rfl ?_); refine gl_ (some 27) Try.func44 #[.agg #[.int .i64 t579, .int .i64 t580, .int .i64 t581, .int .i64 t582, .slice Ao12 t583.length co12]] rfl q_0 ?_; (with_reducible refine (impl_RunsOf.calls k t579 t580 t581 t582 _ _ t583 t595 _ ?side1 ?side2 A5.out).mono ?_); (case side1 => refine (Kd.R_reads' (e := 3) (base := w.heap.size) (ok := fun k_ => some k_ ≠ (.slice Ao14 t590.length co14 : Value).ownBlock) (n := t583.length) (c := co12) ?_).2.2; exact z21_88); (case side2 => exact (Kd.R_reads' HO585.out).2.1); rintro e w15 ⟨v596, rfl, ho0, hb⟩; refine ⟨_, rfl, ?_⟩; replace HO585 := mk0 (Kd.R_below z21_88 hb); replace HO592 := mk0 (Kd.R_below (by (with_reducible repeat (first | apply Kd.R_alloc | apply Kd.R_drewN | apply Kd.R_drew)); exact (Kd.R_mono (Kd.R_mono (R_f5 (Kd.R_far (p := ⟨gb593, 4, none⟩) (Kd.R_far (p := ⟨gb593, 3, none⟩) (Kd.R_far (p := ⟨gb593, 2, none⟩) (Kd.R_far (p := ⟨gb593, 1, none⟩) (Kd.R_far (p := ⟨gb593, 0, none⟩) (Kd.R_types (Kd.R_types HO592.out BK593.out (by decide)) BK594.out (by decide)) (fun _ hk => hk.1.2) (.int .i64 t579)) (fun _ hk => hk.1.2) (.int .i64 t580)) (fun _ hk => hk.1.2) (.int .i64 t581)) (fun _ hk => hk.1.2) (.int .i64 t582)) (fun _ hk => hk.1.2) (.slice Ao12 t583.length co12)) (fun _ hk => hk.2)) (fun _ h_ => h_.1)) (fun _ h_ => h_.1))) hb); have HO597 := mk0 (Kd.R_lower ho0 (below_size z21_85)); replace BK593 := mk0 (blk_below (g := gb593) (o := .cells #[.int .i64 t579, .int .i64 t580, .int .i64 t581, .int .i64 t582, .slice Ao12 t583.length co12] 65 (0, 0)) (by apply blk_fin; (focus ((with_reducible repeat (first | apply blk_putQ | refine blk_farQ NB593_594.out ?_ | refine blk_drewN ?_ _ | refine blk_drew ?_ | refine blk_alloc ?_ _)); exact BK593.out)); first | (simp only [List.setIfInBounds_toArray, List.set_cons_zero, List.set_cons_succ]; done) | rfl) hb); replace BK594 := mk0 (blk_below (g := gb594) (o := .cells #[.int .i64 t586, .int .i64 t587, .int .i64 t588, .int .i64 t589, .slice Ao14 t590.length co14] 65 (0, 0)) (by apply blk_fin; (focus ((with_reducible repeat (first | apply blk_putQ | refine blk_farQ NB594_593.out ?_ | refine blk_drewN ?_ _ | refine blk_drew ?_ | refine blk_alloc ?_ _)); exact BK594.out)); first | (simp only [List.setIfInBounds_toArray, List.set_cons_zero, List.set_cons_succ]; done) | rfl) hb); replace HB := bS z21_85 hb; clear hb ho0; (try clear hk); obtain ⟨_, _, _, _, _, _, _, _, _, _⟩ := be_5 BK593.out; obtain ⟨Ao17, co17, eo17⟩ := Kd.R_slice HO597.out; subst eo17) | ((with_reducible refine gate_callee (f := 45) rfl ?_); refine gl_ (some 32) Try.func45 #[.agg #[.int .i64 t579, .int .i64 t580, .int .i64 t581, .int .i64 t582], .slice Ao17 t595.length co17] rfl q_0 ?_; (with_reducible refine (impl_MaskBy.calls k t579 t580 t581 t582 _ _ t595 t598 t599 t600 t601 t602 t605 _ ?side1 ?side2 A6.out).mono ?_); (case side1 => repeat (first | exact (Kd.R_reads' HO597.out).2.2 | (with_reducible refine Kd.C_alloc ?_ _) | (with_reducible refine Kd.C_drewN ?_ _) | (with_reducible refine Kd.C_drew ?_))); (case side2 => exact (Kd.R_reads' HO597.out).2.1); rintro e w18 ⟨v603, rfl, ho0, hb⟩; refine ⟨_, rfl, ?_⟩; replace HO597 := bR HO597 hb; have HO604 := mk0 (Kd.R_lower (Kd.R_new' (Kd.R_new' ho0 (Kd.R_lt (pkR HO585))) (Kd.R_lt (pkR HO592))) (below_size z21_85)); replace HO585 := mk0 (Kd.R_elder' (pkR HO585) (Kd.R_base ho0) hb); replace HO592 := mk0 (Kd.R_elder' (pkR HO592) (Kd.R_base ho0) hb); replace BK593 := bB BK593 hb; replace BK594 := bB BK594 hb; replace HB := bS z21_85 hb; clear hb ho0; (try clear hk)) | ((with_reducible refine gate_dst (N := 6) rfl ?_); (try (refine gate_guard (by rfl) ?_; dsimp only)); refine boxz (cs := #[.int .i64 0, .int .i64 0, .int .i64 0, .int .i64 0, .slice none 0 0]) (t := 65) rfl ?_; intro gb606 hg w19 hbox hb; have GW606 := mk0 (ge_go (a := w.heap.size) hg (below_size z21_85)); have GE606 := GW606; have NB593_606 := mk0 (nb_lt hg (blk_ltB BK593 (pkb BK593))); have NB606_593 := mk0 (nb_gt hg (blk_ltB BK593 (pkb BK593))); have NB594_606 := mk0 (nb_lt hg (blk_ltB BK594 (pkb BK594))); have NB606_594 := mk0 (nb_gt hg (blk_ltB BK594 (pkb BK594))); replace HO585 := bR HO585 hb; replace HO592 := bR HO592 hb; replace HO597 := bR HO597 hb; replace HO604 := bR HO604 hb; replace BK593 := bB BK593 hb; replace BK594 := bB BK594 hb; replace HB := bS z21_85 hb; have BK606 := mk0 (hbox); clear hb hbox hg; have hnb20 := NB606_593.out; have hnc20 := NB593_606.out; have hnb21 := NB606_594.out; have hnc21 := NB594_606.out; obtain ⟨_, _, _, _, _, _, _, _, _, _⟩ := be_5 BK606.out; obtain ⟨Ao23, co23, eo23⟩ := Kd.R_slice HO604.out; subst eo23))
 go_loopg [8] k (fun kq v8 w' => ∃ (x8_1 : Int), v8 = .int .i64 x8_1 ∧ Aside0 (laws_FnMasks.l0 kq l0 t595 t605 x8_1 t579 t580 t581 t582 t583 t598 t599 t600 t601 t602 = some r) ∧ Aside0 (kq ≤ k) ∧ Aside0 (Kd.R k95 95 w' w.heap.size (fun _ => True) (.slice Ao17 t595.length co17) t595) ∧ Aside0 (Kd.R (Kd.int .i64) 3 w' w.heap.size (fun k_ => some k_ ≠ ((.slice Ao14 t590.length co14) : Value).ownBlock ∧ some k_ ≠ ((.slice Ao23 t602.length co23) : Value).ownBlock) (.slice Ao12 t583.length co12) t583) ∧ Aside0 (Kd.R (Kd.int .i64) 3 w' w.heap.size (fun k_ => some k_ ≠ ((.slice Ao12 t583.length co12) : Value).ownBlock ∧ some k_ ≠ ((.slice Ao23 t602.length co23) : Value).ownBlock) (.slice Ao14 t590.length co14) t590) ∧ Aside0 (Kd.R (Kd.int .i64) 3 w' w.heap.size (fun k_ => some k_ ≠ ((.slice Ao12 t583.length co12) : Value).ownBlock ∧ some k_ ≠ ((.slice Ao14 t590.length co14) : Value).ownBlock) (.slice Ao23 t602.length co23) t602) ∧ Aside0 (w'.heap[gb593]? = some (.cells #[.int .i64 t579, .int .i64 t580, .int .i64 t581, .int .i64 t582, (.slice Ao12 t583.length co12)] 65 (0, 0))) ∧ Aside0 (w'.heap[gb594]? = some (.cells #[.int .i64 t586, .int .i64 t587, .int .i64 t588, .int .i64 t589, (.slice Ao14 t590.length co14)] 65 (0, 0))) ∧ Aside0 (w'.heap[gb606]? = some (.cells #[.int .i64 t598, .int .i64 t599, .int .i64 t600, .int .i64 t601, (.slice Ao23 t602.length co23)] 65 (0, 0))) ∧ Aside0 (Below w.heap.size w w'))
 case atStart => exact ⟨(0), rs0, H', ⟨Nat.le_refl _⟩, ⟨(by (with_reducible repeat (first | apply Kd.R_alloc | apply Kd.R_drewN | apply Kd.R_drew)); exact Kd.R_mono (R_f5 (Kd.R_types HO597.out BK606.out (by decide)) (fun _ hk => hk.2)) (fun _ hk => trivial))⟩, ⟨(by (with_reducible repeat (first | apply Kd.R_alloc | apply Kd.R_drewN | apply Kd.R_drew)); exact Kd.R_mono (R_f5 (Kd.R_types HO585.out BK606.out (by decide)) (fun _ hk => hk.2)) (fun _ hk => ⟨hk.1.1, hk.1.2⟩))⟩, ⟨(by (with_reducible repeat (first | apply Kd.R_alloc | apply Kd.R_drewN | apply Kd.R_drew)); exact Kd.R_mono (R_f5 (Kd.R_types HO592.out BK606.out (by decide)) (fun _ hk => hk.2)) (fun _ hk => ⟨hk.1.1, hk.1.2⟩))⟩, ⟨(by (with_reducible repeat (first | apply Kd.R_alloc | apply Kd.R_drewN | apply Kd.R_drew)); exact Kd.R_mono (R_f5 (Kd.R_types HO604.out BK606.out (by decide)) (fun _ hk => hk.2)) (fun _ hk => ⟨hk.1.1.2, hk.1.2⟩))⟩, ⟨(by (with_reducible repeat (first | refine blk_drewN ?_ _ | refine blk_drew ?_ | refine blk_alloc ?_ _ | refine blk_far ?_ NB593_606.out _)); exact BK593.out)⟩, ⟨(by (with_reducible repeat (first | refine blk_drewN ?_ _ | refine blk_drew ?_ | refine blk_alloc ?_ _ | refine blk_far ?_ NB594_606.out _)); exact BK594.out)⟩, ⟨(by (with_reducible repeat (first | refine blk_drewN ?_ _ | refine blk_drew ?_ | refine blk_alloc ?_ _)); refine blk_put (cs := #[.int .i64 t598, .int .i64 t599, .int .i64 t600, .int .i64 t601, .slice none 0 0]) ?_ 4 _ rfl; (with_reducible repeat (first | refine blk_drewN ?_ _ | refine blk_drew ?_ | refine blk_alloc ?_ _)); refine blk_put (cs := #[.int .i64 t598, .int .i64 t599, .int .i64 t600, .int .i64 0, .slice none 0 0]) ?_ 3 _ rfl; (with_reducible repeat (first | refine blk_drewN ?_ _ | refine blk_drew ?_ | refine blk_alloc ?_ _)); refine blk_put (cs := #[.int .i64 t598, .int .i64 t599, .int .i64 0, .int .i64 0, .slice none 0 0]) ?_ 2 _ rfl; (with_reducible repeat (first | refine blk_drewN ?_ _ | refine blk_drew ?_ | refine blk_alloc ?_ _)); refine blk_put (cs := #[.int .i64 t598, .int .i64 0, .int .i64 0, .int .i64 0, .slice none 0 0]) ?_ 1 _ rfl; (with_reducible repeat (first | refine blk_drewN ?_ _ | refine blk_drew ?_ | refine blk_alloc ?_ _)); refine blk_put (cs := #[.int .i64 0, .int .i64 0, .int .i64 0, .int .i64 0, .slice none 0 0]) ?_ 0 _ rfl; (with_reducible repeat (first | refine blk_drewN ?_ _ | refine blk_drew ?_ | refine blk_alloc ?_ _)); exact BK606.out)⟩, ⟨z21_79⟩⟩
 case round =>
  clear H'
  try clear c3
  obtain ⟨x8_1, rfl, HA, HK1, HO_5, HO_594004, HO_595004, HO_607004, BK593, BK594, BK606, HB⟩ := hrel
  cases gk with
  | zero => exact absurd HA.out (by simp [laws_FnMasks.l0])
  | succ k1 =>
   have H := HA.out; clear HA; simp only [laws_FnMasks.l0] at H
   by_cases c24 : x8_1 < (t595.length : Int)
   rotate_left
   ·rw [if_neg c24] at H; have c24b0 := decide_eq_false c24; clear c24
    obtain ⟨⟨t615, t616, t617, t618, t619⟩, A68, H⟩ := bnd H
    try dsimp only at H
    obtain ⟨⟨t623, t624, t625, t626, t627, t630⟩, A69, H⟩ := bnd H
    try dsimp only at H
    obtain ⟨⟨t632, t633, t634, t635, t636, t639⟩, A70, H⟩ := bnd H
    try dsimp only at H
    obtain ⟨t641, A71, H⟩ := bnd H
    try dsimp only at H
    have HC72 := mk0 H; clear H
    go_upto_region 21 with (first | ((with_reducible refine gate_callee (f := 46) rfl ?_); refine gl_ (some 132) Try.func46 #[.slice A0 l0.length c0] rfl q_0 ?_; (with_reducible refine (spec_DrawMaskBy.calls k1 _ _ l0 t615 t616 t617 t618 t619 _ ?side1 ?side2 A68.out).mono ?_); (case side1 => repeat (first | exact (Kd.C_below HR0.out HB.out) | (with_reducible refine Kd.C_alloc ?_ _) | (with_reducible refine Kd.C_drewN ?_ _) | (with_reducible refine Kd.C_drew ?_))); (case side2 => exact HC0.out); rintro e w73 ⟨v620, rfl, ho0, hb⟩; refine ⟨_, rfl, ?_⟩; replace HO_594004 := bR HO_594004 hb; replace HO_595004 := bR HO_595004 hb; replace HO_607004 := bR HO_607004 hb; have HO621 := mk0 (Kd.R_lower (Kd.R_new' ho0 (Kd.R_lt (pkR HO_5))) (below_size z21_79)); replace HO_5 := mk0 (Kd.R_elder' (pkR HO_5) (Kd.R_base ho0) hb); replace BK593 := bB BK593 hb; replace BK594 := bB BK594 hb; replace BK606 := bB BK606 hb; replace HB := bS z21_79 hb; clear hb ho0; (try clear hk)) | ((with_reducible refine gate_dst (N := 11) rfl ?_); (try (refine gate_guard (by rfl) ?_; dsimp only)); refine boxz (cs := #[.int .i64 0, .int .i64 0, .int .i64 0, .int .i64 0]) (t := 63) rfl ?_; intro gb622 hg w74 hbox hb; have GW622 := mk0 (ge_go (a := w.heap.size) hg (below_size z21_79)); have GE622 := GW622; have NB593_622 := mk0 (nb_lt hg (blk_ltB BK593 (pkb BK593))); have NB622_593 := mk0 (nb_gt hg (blk_ltB BK593 (pkb BK593))); have NB594_622 := mk0 (nb_lt hg (blk_ltB BK594 (pkb BK594))); have NB622_594 := mk0 (nb_gt hg (blk_ltB BK594 (pkb BK594))); have NB606_622 := mk0 (nb_lt hg (blk_ltB BK606 (pkb BK606))); have NB622_606 := mk0 (nb_gt hg (blk_ltB BK606 (pkb BK606))); replace HO_5 := bR HO_5 hb; replace HO_594004 := bR HO_594004 hb; replace HO_595004 := bR HO_595004 hb; replace HO_607004 := bR HO_607004 hb; replace HO621 := bR HO621 hb; replace BK593 := bB BK593 hb; replace BK594 := bB BK594 hb; replace BK606 := bB BK606 hb; replace HB := bS z21_79 hb; have BK622 := mk0 (hbox); clear hb hbox hg; have hnb75 := NB622_593.out; have hnc75 := NB593_622.out; have hnb76 := NB622_594.out; have hnc76 := NB594_622.out; have hnb77 := NB622_606.out; have hnc77 := NB606_622.out; obtain ⟨_, _, _, _, _, _, _, _⟩ := be_4 BK622.out; obtain ⟨Ao79, co79, eo79⟩ := Kd.R_slice HO621.out; subst eo79) | ((with_reducible refine gate_callee (f := 45) rfl ?_); refine gl_ (some 138) Try.func45 #[.agg #[.int .i64 t615, .int .i64 t616, .int .i64 t617, .int .i64 t618], .slice Ao79 t619.length co79] rfl q_0 ?_; (with_reducible refine (impl_MaskBy.calls k1 t615 t616 t617 t618 _ _ t619 t623 t624 t625 t626 t627 t630 _ ?side1 ?side2 A69.out).mono ?_); (case side1 => refine (Kd.R_reads' (e := 95) (base := w.heap.size) (ok := fun k_ => (True ∧ some k_ ≠ (.slice Ao17 t595.length co17 : Value).ownBlock)) (n := t619.length) (c := co79) ?_).2.2; exact z21_101); (case side2 => exact (Kd.R_reads' HO621.out).2.1); rintro e w80 ⟨v628, rfl, ho0, hb⟩; refine ⟨_, rfl, ?_⟩; replace HO_5 := mk0 (Kd.R_below (by (with_reducible repeat (first | apply Kd.R_alloc | apply Kd.R_drewN | apply Kd.R_drew)); exact (Kd.R_mono (R_f4 (Kd.R_types HO_5.out BK622.out (by decide)) (fun _ hk => hk.2)) (fun _ h_ => h_.1))) hb); replace HO621 := mk0 (Kd.R_below z21_101 hb); have HO629 := mk0 (Kd.R_lower (Kd.R_new' (Kd.R_new' (Kd.R_new' ho0 (Kd.R_lt z21_98)) (Kd.R_lt z21_99)) (Kd.R_lt z21_100)) (below_size z21_87)); replace HO_594004 := mk0 (Kd.R_elder' z21_98 (Kd.R_base ho0) hb); replace HO_595004 := mk0 (Kd.R_elder' z21_99 (Kd.R_base ho0) hb); replace HO_607004 := mk0 (Kd.R_elder' z21_100 (Kd.R_base ho0) hb); replace BK593 := mk0 (blk_belowB BK593 (by (with_reducible repeat (first | refine blk_drewN ?_ _ | refine blk_drew ?_ | refine blk_alloc ?_ _ | refine blk_far ?_ NB593_622.out _)); exact BK593.out) hb); replace BK594 := mk0 (blk_belowB BK594 (by (with_reducible repeat (first | refine blk_drewN ?_ _ | refine blk_drew ?_ | refine blk_alloc ?_ _ | refine blk_far ?_ NB594_622.out _)); exact BK594.out) hb); replace BK606 := mk0 (blk_belowB BK606 (by (with_reducible repeat (first | refine blk_drewN ?_ _ | refine blk_drew ?_ | refine blk_alloc ?_ _ | refine blk_far ?_ NB606_622.out _)); exact BK606.out) hb); replace BK622 := mk0 (blk_below (g := gb622) (o := .cells #[.int .i64 t615, .int .i64 t616, .int .i64 t617, .int .i64 t618] 63 (0, 0)) (by apply blk_fin; (focus ((with_reducible repeat (first | apply blk_putQ | refine blk_drewN ?_ _ | refine blk_drew ?_ | refine blk_alloc ?_ _)); exact BK622.out)); first | (simp only [List.setIfInBounds_toArray, List.set_cons_zero, List.set_cons_succ]; done) | rfl) hb); replace HB := bS z21_87 hb; clear hb ho0; (try clear hk)) | ((with_reducible refine gate_dst (N := 13) rfl ?_); (try (refine gate_guard (by rfl) ?_; dsimp only)); refine boxz (cs := #[.int .i64 0, .int .i64 0, .int .i64 0, .int .i64 0, .slice none 0 0]) (t := 65) rfl ?_; intro gb631 hg w81 hbox hb; have GW631 := mk0 (ge_go (a := w.heap.size) hg (below_size z21_87)); have GE631 := GW631; have NB593_631 := mk0 (nb_lt hg (blk_ltB BK593 (pkb BK593))); have NB631_593 := mk0 (nb_gt hg (blk_ltB BK593 (pkb BK593))); have NB594_631 := mk0 (nb_lt hg (blk_ltB BK594 (pkb BK594))); have NB631_594 := mk0 (nb_gt hg (blk_ltB BK594 (pkb BK594))); have NB606_631 := mk0 (nb_lt hg (blk_ltB BK606 (pkb BK606))); have NB631_606 := mk0 (nb_gt hg (blk_ltB BK606 (pkb BK606))); have NB622_631 := mk0 (nb_lt hg (blk_ltB BK622 (pkb BK622))); have NB631_622 := mk0 (nb_gt hg (blk_ltB BK622 (pkb BK622))); replace HO_5 := bR HO_5 hb; replace HO_594004 := bR HO_594004 hb; replace HO_595004 := bR HO_595004 hb; replace HO_607004 := bR HO_607004 hb; replace HO621 := bR HO621 hb; replace HO629 := bR HO629 hb; replace BK593 := bB BK593 hb; replace BK594 := bB BK594 hb; replace BK606 := bB BK606 hb; replace BK622 := bB BK622 hb; replace HB := bS z21_87 hb; have BK631 := mk0 (hbox); clear hb hbox hg; have hnb82 := NB631_593.out; have hnc82 := NB593_631.out; have hnb83 := NB631_594.out; have hnc83 := NB594_631.out; have hnb84 := NB631_606.out; have hnc84 := NB606_631.out; have hnb85 := NB631_622.out; have hnc85 := NB622_631.out; obtain ⟨_, _, _, _, _, _, _, _, _, _⟩ := be_5 BK631.out; obtain ⟨Ao87, co87, eo87⟩ := Kd.R_slice HO629.out; subst eo87; obtain ⟨_, _, _, _, _, _, _, _⟩ := be_4 BK622.out) | ((with_reducible refine gate_callee (f := 47) rfl ?_); refine gl_ (some 144) Try.func47 #[.agg #[.int .i64 t615, .int .i64 t616, .int .i64 t617, .int .i64 t618], .slice Ao79 t619.length co79] rfl q_0 ?_; (with_reducible refine (spec_MaskBy.calls k1 t615 t616 t617 t618 _ _ t619 t632 t633 t634 t635 t636 t639 _ ?side1 ?side2 A70.out).mono ?_); (case side1 => refine (Kd.R_reads' (e := 95) (base := w.heap.size) (ok := fun k_ => (True ∧ some k_ ≠ (.slice Ao17 t595.length co17 : Value).ownBlock)) (n := t619.length) (c := co79) ?_).2.2; exact z21_93); (case side2 => exact (Kd.R_reads' HO621.out).2.1); rintro e w89 ⟨v637, rfl, ho0, hb⟩; refine ⟨_, rfl, ?_⟩; replace HO_5 := mk0 (Kd.R_below (by (with_reducible repeat (first | apply Kd.R_alloc | apply Kd.R_drewN | apply Kd.R_drew)); exact (Kd.R_mono (R_f5 (Kd.R_types HO_5.out BK631.out (by decide)) (fun _ hk => hk.2)) (fun _ h_ => h_.1))) hb); replace HO621 := mk0 (Kd.R_below z21_93 hb); have HO638 := mk0 (Kd.R_lower (Kd.R_new' (Kd.R_new' (Kd.R_new' (Kd.R_new' ho0 (Kd.R_lt z21_90)) (Kd.R_lt z21_91)) (Kd.R_lt z21_92)) (Kd.R_lt z21_94)) (below_size z21_86)); replace HO_594004 := mk0 (Kd.R_elder' z21_90 (Kd.R_base ho0) hb); replace HO_595004 := mk0 (Kd.R_elder' z21_91 (Kd.R_base ho0) hb); replace HO_607004 := mk0 (Kd.R_elder' z21_92 (Kd.R_base ho0) hb); replace HO629 := mk0 (Kd.R_elder' z21_94 (Kd.R_base ho0) hb); replace BK593 := mk0 (blk_belowB BK593 (by (with_reducible repeat (first | refine blk_drewN ?_ _ | refine blk_drew ?_ | refine blk_alloc ?_ _ | refine blk_far ?_ NB593_631.out _)); exact BK593.out) hb); replace BK594 := mk0 (blk_belowB BK594 (by (with_reducible repeat (first | refine blk_drewN ?_ _ | refine blk_drew ?_ | refine blk_alloc ?_ _ | refine blk_far ?_ NB594_631.out _)); exact BK594.out) hb); replace BK606 := mk0 (blk_belowB BK606 (by (with_reducible repeat (first | refine blk_drewN ?_ _ | refine blk_drew ?_ | refine blk_alloc ?_ _ | refine blk_far ?_ NB606_631.out _)); exact BK606.out) hb); replace BK622 := mk0 (blk_belowB BK622 (by (with_reducible repeat (first | refine blk_drewN ?_ _ | refine blk_drew ?_ | refine blk_alloc ?_ _ | refine blk_far ?_ NB622_631.out _)); exact BK622.out) hb); replace BK631 := mk0 (blk_below (g := gb631) (o := .cells #[.int .i64 t623, .int .i64 t624, .int .i64 t625, .int .i64 t626, .slice Ao87 t627.length co87] 65 (0, 0)) (by apply blk_fin; (focus ((with_reducible repeat (first | apply blk_putQ | refine blk_drewN ?_ _ | refine blk_drew ?_ | refine blk_alloc ?_ _)); exact BK631.out)); first | (simp only [List.setIfInBounds_toArray, List.set_cons_zero, List.set_cons_succ]; done) | rfl) hb); replace HB := bS z21_86 hb; clear hb ho0; (try clear hk)) | ((with_reducible refine gate_dst (N := 15) rfl ?_); (try (refine gate_guard (by rfl) ?_; dsimp only)); refine boxz (cs := #[.int .i64 0, .int .i64 0, .int .i64 0, .int .i64 0, .slice none 0 0]) (t := 65) rfl ?_; intro gb640 hg w90 hbox hb; have GW640 := mk0 (ge_go (a := w.heap.size) hg (below_size z21_86)); have GE640 := GW640; have NB593_640 := mk0 (nb_lt hg (blk_ltB BK593 (pkb BK593))); have NB640_593 := mk0 (nb_gt hg (blk_ltB BK593 (pkb BK593))); have NB594_640 := mk0 (nb_lt hg (blk_ltB BK594 (pkb BK594))); have NB640_594 := mk0 (nb_gt hg (blk_ltB BK594 (pkb BK594))); have NB606_640 := mk0 (nb_lt hg (blk_ltB BK606 (pkb BK606))); have NB640_606 := mk0 (nb_gt hg (blk_ltB BK606 (pkb BK606))); have NB622_640 := mk0 (nb_lt hg (blk_ltB BK622 (pkb BK622))); have NB640_622 := mk0 (nb_gt hg (blk_ltB BK622 (pkb BK622))); have NB631_640 := mk0 (nb_lt hg (blk_ltB BK631 (pkb BK631))); have NB640_631 := mk0 (nb_gt hg (blk_ltB BK631 (pkb BK631))); replace HO_5 := bR HO_5 hb; replace HO_594004 := bR HO_594004 hb; replace HO_595004 := bR HO_595004 hb; replace HO_607004 := bR HO_607004 hb; replace HO621 := bR HO621 hb; replace HO629 := bR HO629 hb; replace HO638 := bR HO638 hb; replace BK593 := bB BK593 hb; replace BK594 := bB BK594 hb; replace BK606 := bB BK606 hb; replace BK622 := bB BK622 hb; replace BK631 := bB BK631 hb; replace HB := bS z21_86 hb; have BK640 := mk0 (hbox); clear hb hbox hg; have hnb91 := NB640_593.out; have hnc91 := NB593_640.out; have hnb92 := NB640_594.out; have hnc92 := NB594_640.out; have hnb93 := NB640_606.out; have hnc93 := NB606_640.out; have hnb94 := NB640_622.out; have hnc94 := NB622_640.out; have hnb95 := NB640_631.out; have hnc95 := NB631_640.out; obtain ⟨_, _, _, _, _, _, _, _, _, _⟩ := be_5 BK640.out; obtain ⟨Ao97, co97, eo97⟩ := Kd.R_slice HO638.out; subst eo97; obtain ⟨_, _, _, _, _, _, _, _, _, _⟩ := be_5 BK631.out) | ((with_reducible refine gate_callee (f := 44) rfl ?_); refine gl_ (some 148) Try.func44 #[.agg #[.int .i64 t623, .int .i64 t624, .int .i64 t625, .int .i64 t626, .slice Ao87 t627.length co87]] rfl q_0 ?_; (with_reducible refine (impl_RunsOf.calls k1 t623 t624 t625 t626 _ _ t627 t641 _ ?side1 ?side2 A71.out).mono ?_); (case side1 => refine (Kd.R_reads' (e := 3) (base := w.heap.size) (ok := fun k_ => ((((True ∧ some k_ ≠ (.slice Ao12 t583.length co12 : Value).ownBlock) ∧ some k_ ≠ (.slice Ao14 t590.length co14 : Value).ownBlock) ∧ some k_ ≠ (.slice Ao23 t602.length co23 : Value).ownBlock) ∧ some k_ ≠ (.slice Ao97 t636.length co97 : Value).ownBlock)) (n := t627.length) (c := co87) ?_).2.2; exact z21_95); (case side2 => exact (Kd.R_reads' HO629.out).2.1); rintro e w99 ⟨v642, rfl, ho0, hb⟩; refine ⟨_, rfl, ?_⟩; replace HO_594004 := mk0 (Kd.R_below (by (with_reducible repeat (first | apply Kd.R_alloc | apply Kd.R_drewN | apply Kd.R_drew)); exact (Kd.R_mono (R_f5 (Kd.R_types HO_594004.out BK640.out (by decide)) (fun _ hk => hk.2)) (fun _ h_ => h_.1))) hb); replace HO_595004 := mk0 (Kd.R_below (by (with_reducible repeat (first | apply Kd.R_alloc | apply Kd.R_drewN | apply Kd.R_drew)); exact (Kd.R_mono (R_f5 (Kd.R_types HO_595004.out BK640.out (by decide)) (fun _ hk => hk.2)) (fun _ h_ => h_.1))) hb); replace HO_607004 := mk0 (Kd.R_below (by (with_reducible repeat (first | apply Kd.R_alloc | apply Kd.R_drewN | apply Kd.R_drew)); exact (Kd.R_mono (R_f5 (Kd.R_types HO_607004.out BK640.out (by decide)) (fun _ hk => hk.2)) (fun _ h_ => h_.1))) hb); replace HO629 := mk0 (Kd.R_below z21_95 hb); replace HO638 := mk0 (Kd.R_below (by (with_reducible repeat (first | apply Kd.R_alloc | apply Kd.R_drewN | apply Kd.R_drew)); exact (Kd.R_mono (R_f5 (Kd.R_types HO638.out BK640.out (by decide)) (fun _ hk => hk.2)) (fun _ h_ => h_.1))) hb); have HO643 := mk0 (Kd.R_lower (Kd.R_new' (Kd.R_new' ho0 (Kd.R_lt z21_97)) (Kd.R_lt z21_96)) (below_size z21_73)); replace HO_5 := mk0 (Kd.R_elder' z21_97 (Kd.R_base ho0) hb); replace HO621 := mk0 (Kd.R_elder' z21_96 (Kd.R_base ho0) hb); replace BK593 := mk0 (blk_belowB BK593 (by (with_reducible repeat (first | refine blk_drewN ?_ _ | refine blk_drew ?_ | refine blk_alloc ?_ _ | refine blk_far ?_ NB593_640.out _)); exact BK593.out) hb); replace BK594 := mk0 (blk_belowB BK594 (by (with_reducible repeat (first | refine blk_drewN ?_ _ | refine blk_drew ?_ | refine blk_alloc ?_ _ | refine blk_far ?_ NB594_640.out _)); exact BK594.out) hb); replace BK606 := mk0 (blk_belowB BK606 (by (with_reducible repeat (first | refine blk_drewN ?_ _ | refine blk_drew ?_ | refine blk_alloc ?_ _ | refine blk_far ?_ NB606_640.out _)); exact BK606.out) hb); replace BK622 := mk0 (blk_belowB BK622 (by (with_reducible repeat (first | refine blk_drewN ?_ _ | refine blk_drew ?_ | refine blk_alloc ?_ _ | refine blk_far ?_ NB622_640.out _)); exact BK622.out) hb); replace BK631 := mk0 (blk_belowB BK631 (by (with_reducible repeat (first | refine blk_drewN ?_ _ | refine blk_drew ?_ | refine blk_alloc ?_ _ | refine blk_far ?_ NB631_640.out _)); exact BK631.out) hb); replace BK640 := mk0 (blk_below (g := gb640) (o := .cells #[.int .i64 t632, .int .i64 t633, .int .i64 t634, .int .i64 t635, .slice Ao97 t636.length co97] 65 (0, 0)) (by apply blk_fin; (focus ((with_reducible repeat (first | apply blk_putQ | refine blk_drewN ?_ _ | refine blk_drew ?_ | refine blk_alloc ?_ _)); exact BK640.out)); first | (simp only [List.setIfInBounds_toArray, List.set_cons_zero, List.set_cons_succ]; done) | rfl) hb); replace HB := bS z21_73 hb; clear hb ho0; (try clear hk)))
    (try simp only [Act.put, List.setIfInBounds_toArray, List.set_cons_zero, List.set_cons_succ])
    go_cut [161] (fun v161 wc => ∃ (kq : Nat) (x161_71 : Bool), v161 = .bool x161_71 ∧ Aside0 (laws_FnMasks.j3 kq t605 t619 t630 t641 x161_71 t579 t580 t581 t582 t583 t598 t599 t600 t601 t602 = some r) ∧ Aside0 (kq ≤ k1) ∧ Aside0 (Kd.R k95 95 wc w.heap.size (fun k_ => some k_ ≠ (v642 : Value).ownBlock) (.slice Ao79 t619.length co79) t619) ∧ Aside0 (Kd.R k95 95 wc w.heap.size (fun k_ => some k_ ≠ ((.slice Ao79 t619.length co79) : Value).ownBlock) v642 t641) ∧ Aside0 (Kd.R (Kd.int .i64) 3 wc w.heap.size (fun k_ => some k_ ≠ ((.slice Ao14 t590.length co14) : Value).ownBlock ∧ some k_ ≠ ((.slice Ao23 t602.length co23) : Value).ownBlock ∧ some k_ ≠ ((.slice Ao87 t627.length co87) : Value).ownBlock ∧ some k_ ≠ ((.slice Ao97 t636.length co97) : Value).ownBlock) (.slice Ao12 t583.length co12) t583) ∧ Aside0 (Kd.R (Kd.int .i64) 3 wc w.heap.size (fun k_ => some k_ ≠ ((.slice Ao12 t583.length co12) : Value).ownBlock ∧ some k_ ≠ ((.slice Ao23 t602.length co23) : Value).ownBlock ∧ some k_ ≠ ((.slice Ao87 t627.length co87) : Value).ownBlock ∧ some k_ ≠ ((.slice Ao97 t636.length co97) : Value).ownBlock) (.slice Ao14 t590.length co14) t590) ∧ Aside0 (Kd.R (Kd.int .i64) 3 wc w.heap.size (fun k_ => some k_ ≠ ((.slice Ao12 t583.length co12) : Value).ownBlock ∧ some k_ ≠ ((.slice Ao14 t590.length co14) : Value).ownBlock ∧ some k_ ≠ ((.slice Ao87 t627.length co87) : Value).ownBlock ∧ some k_ ≠ ((.slice Ao97 t636.length co97) : Value).ownBlock) (.slice Ao23 t602.length co23) t602) ∧ Aside0 (Kd.R (Kd.int .i64) 3 wc w.heap.size (fun k_ => some k_ ≠ ((.slice Ao12 t583.length co12) : Value).ownBlock ∧ some k_ ≠ ((.slice Ao14 t590.length co14) : Value).ownBlock ∧ some k_ ≠ ((.slice Ao23 t602.length co23) : Value).ownBlock ∧ some k_ ≠ ((.slice Ao97 t636.length co97) : Value).ownBlock) (.slice Ao87 t627.length co87) t627) ∧ Aside0 (Kd.R (Kd.int .i64) 3 wc w.heap.size (fun k_ => some k_ ≠ ((.slice Ao12 t583.length co12) : Value).ownBlock ∧ some k_ ≠ ((.slice Ao14 t590.length co14) : Value).ownBlock ∧ some k_ ≠ ((.slice Ao23 t602.length co23) : Value).ownBlock ∧ some k_ ≠ ((.slice Ao87 t627.length co87) : Value).ownBlock) (.slice Ao97 t636.length co97) t636) ∧ Aside0 (wc.heap[gb593]? = some (.cells #[.int .i64 t579, .int .i64 t580, .int .i64 t581, .int .i64 t582, (.slice Ao12 t583.length co12)] 65 (0, 0))) ∧ Aside0 (wc.heap[gb594]? = some (.cells #[.int .i64 t586, .int .i64 t587, .int .i64 t588, .int .i64 t589, (.slice Ao14 t590.length co14)] 65 (0, 0))) ∧ Aside0 (wc.heap[gb606]? = some (.cells #[.int .i64 t598, .int .i64 t599, .int .i64 t600, .int .i64 t601, (.slice Ao23 t602.length co23)] 65 (0, 0))) ∧ Aside0 (wc.heap[gb622]? = some (.cells #[.int .i64 t615, .int .i64 t616, .int .i64 t617, .int .i64 t618] 63 (0, 0))) ∧ Aside0 (wc.heap[gb631]? = some (.cells #[.int .i64 t623, .int .i64 t624, .int .i64 t625, .int .i64 t626, (.slice Ao87 t627.length co87)] 65 (0, 0))) ∧ Aside0 (wc.heap[gb640]? = some (.cells #[.int .i64 t632, .int .i64 t633, .int .i64 t634, .int .i64 t635, (.slice Ao97 t636.length co97)] 65 (0, 0))) ∧ Aside0 (Below w.heap.size w wc))
    case first =>
     have H := HC72.out; clear HC72
     by_cases c100 : (t630 != t639) = true
     ·rw [if_pos c100] at H
      have c100b0 : (t630 != t639) = true := c100
      (try (have c100b1 : decide (t630 = t639) = false := by simpa using c100))
      (try (have c100b2 : (t630 == t639) = false := by simpa using c100))
      (try (have c100b3 : ¬ (t630 = t639) := by simpa using c100))
      clear c100
      (first | rw [c100b0] | rw [c100b1] | skip)
      exact absurd (show r = false from by cases k1 with | zero => exact absurd H (by simp [laws_FnMasks.j3]) | succ k_ => simp only [laws_FnMasks.j3, if_true] at H; exact (Option.some.inj H).symm) (by rw [hT]; simp)
     rw [if_neg c100] at H
     have c100b0 : (t630 != t639) = false := by simpa using c100
     (try (have c100b1 : decide (t630 = t639) = true := by simpa using c100))
     (try (have c100b2 : (t630 == t639) = true := by simpa using c100))
     clear c100
     (first | rw [c100b0] | rw [c100b1] | skip)
     by_cases c101 : t630 = true
     rotate_left
     ·replace c101 := Bool.eq_false_iff.mpr c101; subst c101; rw [if_neg (show ¬ (false = true) by decide)] at H
      have H' := mk0 H
      clear H
      go_wp2
      go_meet
      case rel => exact ⟨_, (false), rs0, H', ⟨(by have := HK1.out; first | omega | exact Nat.le_refl _)⟩, ⟨z21_110⟩, ⟨z21_111⟩, ⟨z21_105⟩, ⟨z21_106⟩, ⟨z21_107⟩, ⟨z21_108⟩, ⟨z21_109⟩, ⟨pkb BK593⟩, ⟨pkb BK594⟩, ⟨pkb BK606⟩, ⟨pkb BK622⟩, ⟨pkb BK631⟩, ⟨pkb BK640⟩, ⟨z21_73⟩⟩
     subst c101; rw [if_pos rfl] at H
     have H' := mk0 H
     clear H; obtain ⟨Ao102, co102, eo102⟩ := Kd.R_slice HO643.out; subst eo102
     go_wp2
     go_meet
     case rel => exact ⟨_, (((t641.length : Int) != (t619.length : Int))), rs0, H', ⟨(by have := HK1.out; first | omega | exact Nat.le_refl _)⟩, ⟨z21_110⟩, ⟨z21_111⟩, ⟨z21_105⟩, ⟨z21_106⟩, ⟨z21_107⟩, ⟨z21_108⟩, ⟨z21_109⟩, ⟨pkb BK593⟩, ⟨pkb BK594⟩, ⟨pkb BK606⟩, ⟨pkb BK622⟩, ⟨pkb BK631⟩, ⟨pkb BK640⟩, ⟨z21_73⟩⟩
    case rest =>
     clear HC72; try clear c1
     (try clear c24b0); obtain ⟨kq, x161_71, rfl, HA, HJ71, HO_12, HO_17, HO_594004, HO_595004, HO_607004, HO_632004, HO_641004, BK593, BK594, BK606, BK622, BK631, BK640, HB⟩ := hcut
     cases kq with
     | zero => exact absurd HA.out (by simp [laws_FnMasks.j3])
     | succ kj71 =>
      have H := HA.out; clear HA; simp only [laws_FnMasks.j3] at H
      by_cases c103 : x161_71 = true
      ·subst c103; rw [if_pos rfl] at H
       obtain rfl := Option.some.inj H
       exact absurd hT Bool.false_ne_true
      replace c103 := Bool.eq_false_iff.mpr c103; subst c103; rw [if_neg (show ¬ (false = true) by decide)] at H
      have H' := mk0 H
      clear H
      go_wp2
      go_loopg [18] kj71 (fun kq v18 w' => ∃ (x18_3 : Int), v18 = .int .i64 x18_3 ∧ Aside0 (laws_FnMasks.l2 kq t605 t619 t630 t641 x18_3 t579 t580 t581 t582 t583 t598 t599 t600 t601 t602 = some r) ∧ Aside0 (kq ≤ kj71) ∧ Aside0 (Kd.R k95 95 w' w.heap.size (fun k_ => some k_ ≠ (v642 : Value).ownBlock) (.slice Ao79 t619.length co79) t619) ∧ Aside0 (Kd.R k95 95 w' w.heap.size (fun k_ => some k_ ≠ ((.slice Ao79 t619.length co79) : Value).ownBlock) v642 t641) ∧ Aside0 (Kd.R (Kd.int .i64) 3 w' w.heap.size (fun k_ => some k_ ≠ ((.slice Ao14 t590.length co14) : Value).ownBlock ∧ some k_ ≠ ((.slice Ao23 t602.length co23) : Value).ownBlock ∧ some k_ ≠ ((.slice Ao87 t627.length co87) : Value).ownBlock ∧ some k_ ≠ ((.slice Ao97 t636.length co97) : Value).ownBlock) (.slice Ao12 t583.length co12) t583) ∧ Aside0 (Kd.R (Kd.int .i64) 3 w' w.heap.size (fun k_ => some k_ ≠ ((.slice Ao12 t583.length co12) : Value).ownBlock ∧ some k_ ≠ ((.slice Ao23 t602.length co23) : Value).ownBlock ∧ some k_ ≠ ((.slice Ao87 t627.length co87) : Value).ownBlock ∧ some k_ ≠ ((.slice Ao97 t636.length co97) : Value).ownBlock) (.slice Ao14 t590.length co14) t590) ∧ Aside0 (Kd.R (Kd.int .i64) 3 w' w.heap.size (fun k_ => some k_ ≠ ((.slice Ao12 t583.length co12) : Value).ownBlock ∧ some k_ ≠ ((.slice Ao14 t590.length co14) : Value).ownBlock ∧ some k_ ≠ ((.slice Ao87 t627.length co87) : Value).ownBlock ∧ some k_ ≠ ((.slice Ao97 t636.length co97) : Value).ownBlock) (.slice Ao23 t602.length co23) t602) ∧ Aside0 (Kd.R (Kd.int .i64) 3 w' w.heap.size (fun k_ => some k_ ≠ ((.slice Ao12 t583.length co12) : Value).ownBlock ∧ some k_ ≠ ((.slice Ao14 t590.length co14) : Value).ownBlock ∧ some k_ ≠ ((.slice Ao23 t602.length co23) : Value).ownBlock ∧ some k_ ≠ ((.slice Ao97 t636.length co97) : Value).ownBlock) (.slice Ao87 t627.length co87) t627) ∧ Aside0 (Kd.R (Kd.int .i64) 3 w' w.heap.size (fun k_ => some k_ ≠ ((.slice Ao12 t583.length co12) : Value).ownBlock ∧ some k_ ≠ ((.slice Ao14 t590.length co14) : Value).ownBlock ∧ some k_ ≠ ((.slice Ao23 t602.length co23) : Value).ownBlock ∧ some k_ ≠ ((.slice Ao87 t627.length co87) : Value).ownBlock) (.slice Ao97 t636.length co97) t636) ∧ Aside0 (w'.heap[gb593]? = some (.cells #[.int .i64 t579, .int .i64 t580, .int .i64 t581, .int .i64 t582, (.slice Ao12 t583.length co12)] 65 (0, 0))) ∧ Aside0 (w'.heap[gb594]? = some (.cells #[.int .i64 t586, .int .i64 t587, .int .i64 t588, .int .i64 t589, (.slice Ao14 t590.length co14)] 65 (0, 0))) ∧ Aside0 (w'.heap[gb606]? = some (.cells #[.int .i64 t598, .int .i64 t599, .int .i64 t600, .int .i64 t601, (.slice Ao23 t602.length co23)] 65 (0, 0))) ∧ Aside0 (w'.heap[gb622]? = some (.cells #[.int .i64 t615, .int .i64 t616, .int .i64 t617, .int .i64 t618] 63 (0, 0))) ∧ Aside0 (w'.heap[gb631]? = some (.cells #[.int .i64 t623, .int .i64 t624, .int .i64 t625, .int .i64 t626, (.slice Ao87 t627.length co87)] 65 (0, 0))) ∧ Aside0 (w'.heap[gb640]? = some (.cells #[.int .i64 t632, .int .i64 t633, .int .i64 t634, .int .i64 t635, (.slice Ao97 t636.length co97)] 65 (0, 0))) ∧ Aside0 (Below w.heap.size w w'))
      case atStart => exact ⟨(0), rs0, H', ⟨Nat.le_refl _⟩, ⟨pkR HO_12⟩, ⟨pkR HO_17⟩, ⟨pkR HO_594004⟩, ⟨pkR HO_595004⟩, ⟨pkR HO_607004⟩, ⟨pkR HO_632004⟩, ⟨pkR HO_641004⟩, ⟨pkb BK593⟩, ⟨pkb BK594⟩, ⟨pkb BK606⟩, ⟨pkb BK622⟩, ⟨pkb BK631⟩, ⟨pkb BK640⟩, ⟨z21_73⟩⟩
      case round =>
       clear H'; (try clear c103); obtain ⟨x18_3, rfl, HA, HK3, HO_12, HO_17, HO_594004, HO_595004, HO_607004, HO_632004, HO_641004, BK593, BK594, BK606, BK622, BK631, BK640, HB⟩ := hrel
       cases gk with
       | zero => exact absurd HA.out (by simp [laws_FnMasks.l2])
       | succ k3 =>
        have H := HA.out; clear HA; simp only [laws_FnMasks.l2] at H; have HC104 := mk0 H; clear H
        go_upto_region 24 with (fail)
        go_cut [168] (fun v168 wc => ∃ (kq : Nat) (x168_103 : Bool), v168 = .bool x168_103 ∧ Aside0 (laws_FnMasks.j5 kq t605 t619 t630 t641 x18_3 x168_103 t579 t580 t581 t582 t583 t598 t599 t600 t601 t602 = some r) ∧ Aside0 (kq ≤ k3) ∧ Aside0 (Kd.R k95 95 wc w.heap.size (fun k_ => some k_ ≠ (v642 : Value).ownBlock) (.slice Ao79 t619.length co79) t619) ∧ Aside0 (Kd.R k95 95 wc w.heap.size (fun k_ => some k_ ≠ ((.slice Ao79 t619.length co79) : Value).ownBlock) v642 t641) ∧ Aside0 (Kd.R (Kd.int .i64) 3 wc w.heap.size (fun k_ => some k_ ≠ ((.slice Ao14 t590.length co14) : Value).ownBlock ∧ some k_ ≠ ((.slice Ao23 t602.length co23) : Value).ownBlock ∧ some k_ ≠ ((.slice Ao87 t627.length co87) : Value).ownBlock ∧ some k_ ≠ ((.slice Ao97 t636.length co97) : Value).ownBlock) (.slice Ao12 t583.length co12) t583) ∧ Aside0 (Kd.R (Kd.int .i64) 3 wc w.heap.size (fun k_ => some k_ ≠ ((.slice Ao12 t583.length co12) : Value).ownBlock ∧ some k_ ≠ ((.slice Ao23 t602.length co23) : Value).ownBlock ∧ some k_ ≠ ((.slice Ao87 t627.length co87) : Value).ownBlock ∧ some k_ ≠ ((.slice Ao97 t636.length co97) : Value).ownBlock) (.slice Ao14 t590.length co14) t590) ∧ Aside0 (Kd.R (Kd.int .i64) 3 wc w.heap.size (fun k_ => some k_ ≠ ((.slice Ao12 t583.length co12) : Value).ownBlock ∧ some k_ ≠ ((.slice Ao14 t590.length co14) : Value).ownBlock ∧ some k_ ≠ ((.slice Ao87 t627.length co87) : Value).ownBlock ∧ some k_ ≠ ((.slice Ao97 t636.length co97) : Value).ownBlock) (.slice Ao23 t602.length co23) t602) ∧ Aside0 (Kd.R (Kd.int .i64) 3 wc w.heap.size (fun k_ => some k_ ≠ ((.slice Ao12 t583.length co12) : Value).ownBlock ∧ some k_ ≠ ((.slice Ao14 t590.length co14) : Value).ownBlock ∧ some k_ ≠ ((.slice Ao23 t602.length co23) : Value).ownBlock ∧ some k_ ≠ ((.slice Ao97 t636.length co97) : Value).ownBlock) (.slice Ao87 t627.length co87) t627) ∧ Aside0 (Kd.R (Kd.int .i64) 3 wc w.heap.size (fun k_ => some k_ ≠ ((.slice Ao12 t583.length co12) : Value).ownBlock ∧ some k_ ≠ ((.slice Ao14 t590.length co14) : Value).ownBlock ∧ some k_ ≠ ((.slice Ao23 t602.length co23) : Value).ownBlock ∧ some k_ ≠ ((.slice Ao87 t627.length co87) : Value).ownBlock) (.slice Ao97 t636.length co97) t636) ∧ Aside0 (wc.heap[gb593]? = some (.cells #[.int .i64 t579, .int .i64 t580, .int .i64 t581, .int .i64 t582, (.slice Ao12 t583.length co12)] 65 (0, 0))) ∧ Aside0 (wc.heap[gb594]? = some (.cells #[.int .i64 t586, .int .i64 t587, .int .i64 t588, .int .i64 t589, (.slice Ao14 t590.length co14)] 65 (0, 0))) ∧ Aside0 (wc.heap[gb606]? = some (.cells #[.int .i64 t598, .int .i64 t599, .int .i64 t600, .int .i64 t601, (.slice Ao23 t602.length co23)] 65 (0, 0))) ∧ Aside0 (wc.heap[gb622]? = some (.cells #[.int .i64 t615, .int .i64 t616, .int .i64 t617, .int .i64 t618] 63 (0, 0))) ∧ Aside0 (wc.heap[gb631]? = some (.cells #[.int .i64 t623, .int .i64 t624, .int .i64 t625, .int .i64 t626, (.slice Ao87 t627.length co87)] 65 (0, 0))) ∧ Aside0 (wc.heap[gb640]? = some (.cells #[.int .i64 t632, .int .i64 t633, .int .i64 t634, .int .i64 t635, (.slice Ao97 t636.length co97)] 65 (0, 0))) ∧ Aside0 (Below w.heap.size w wc))
        case first =>
         have H := HC104.out; clear HC104
         by_cases c105 : x18_3 < (t619.length : Int)
         ·rw [if_pos c105] at H; have c105b0 := decide_eq_true c105; clear c105
          (first | rw [c105b0] | (simp only [i64_w, i32_w]; rw [c105b0]) | skip)
          have H' := mk0 H
          clear H
          go_wp2
          go_meet
          case rel => exact ⟨_, (t630), rs0, H', ⟨(by have := HK1.out; have := HJ71.out; have := HK3.out; first | omega | exact Nat.le_refl _)⟩, ⟨pkR HO_12⟩, ⟨pkR HO_17⟩, ⟨pkR HO_594004⟩, ⟨pkR HO_595004⟩, ⟨pkR HO_607004⟩, ⟨pkR HO_632004⟩, ⟨pkR HO_641004⟩, ⟨pkb BK593⟩, ⟨pkb BK594⟩, ⟨pkb BK606⟩, ⟨pkb BK622⟩, ⟨pkb BK631⟩, ⟨pkb BK640⟩, ⟨z21_73⟩⟩
         rw [if_neg c105] at H; have c105b0 := decide_eq_false c105; clear c105
         (first | rw [c105b0] | (simp only [i64_w, i32_w]; rw [c105b0]) | skip)
         have H' := mk0 H
         clear H
         go_wp2
         go_meet
         case rel => exact ⟨_, (false), rs0, H', ⟨(by have := HK1.out; have := HJ71.out; have := HK3.out; first | omega | exact Nat.le_refl _)⟩, ⟨pkR HO_12⟩, ⟨pkR HO_17⟩, ⟨pkR HO_594004⟩, ⟨pkR HO_595004⟩, ⟨pkR HO_607004⟩, ⟨pkR HO_632004⟩, ⟨pkR HO_641004⟩, ⟨pkb BK593⟩, ⟨pkb BK594⟩, ⟨pkb BK606⟩, ⟨pkb BK622⟩, ⟨pkb BK631⟩, ⟨pkb BK640⟩, ⟨z21_73⟩⟩
        case rest =>
         clear HC104; try clear c1
         obtain ⟨kq, x168_103, rfl, HA, HJ103, HO_12, HO_17, HO_594004, HO_595004, HO_607004, HO_632004, HO_641004, BK593, BK594, BK606, BK622, BK631, BK640, HB⟩ := hcut
         cases kq with
         | zero => exact absurd HA.out (by simp [laws_FnMasks.j5])
         | succ kj103 =>
          have H := HA.out; clear HA; simp only [laws_FnMasks.j5] at H
          by_cases c106 : x168_103 = true
          rotate_left
          ·replace c106 := Bool.eq_false_iff.mpr c106; subst c106; rw [if_neg (show ¬ (false = true) by decide)] at H
           by_cases c113 : t605 = true
           rotate_left
           ·replace c113 := Bool.eq_false_iff.mpr c113; subst c113; rw [if_neg (show ¬ (false = true) by decide)] at H
            obtain rfl := Option.some.inj H
            exact absurd hT Bool.false_ne_true
           subst c113; rw [if_pos rfl] at H; obtain ⟨t646, A114, H⟩ := bnd H
           try dsimp only at H
           by_cases c115 : t646 = true
           rotate_left
           ·replace c115 := Bool.eq_false_iff.mpr c115; subst c115; rw [if_neg (show ¬ (false = true) by decide)] at H
            obtain rfl := Option.some.inj H
            exact absurd hT Bool.false_ne_true
           subst c115; rw [if_pos rfl] at H; obtain ⟨t647, A116, H⟩ := bnd H
           try dsimp only at H
           obtain rfl := Option.some.inj H
           simp only [Option.some.injEq, Prod.mk.injEq] at H; obtain ⟨rfl⟩ := H
           have hnb117 := NB606_593.out; have hnc117 := NB593_606.out; have hnb118 := NB606_594.out; have hnc118 := NB594_606.out; have hnb119 := NB606_622.out; have hnc119 := NB622_606.out; have hnb120 := NB606_631.out; have hnc120 := NB631_606.out; have hnb121 := NB606_640.out; have hnc121 := NB640_606.out; obtain ⟨_, _, _, _, _, _, _, _, _, _⟩ := be_5 BK606.out; have hnb123 := NB593_594.out; have hnc123 := NB594_593.out; have hnb124 := NB593_622.out; have hnc124 := NB622_593.out; have hnb125 := NB593_631.out; have hnc125 := NB631_593.out; have hnb126 := NB593_640.out; have hnc126 := NB640_593.out; obtain ⟨_, _, _, _, _, _, _, _, _, _⟩ := be_5 BK593.out
           go_wp2_with (first | (go_at_call 28; (with_reducible refine (laws_sameMask.calls kj103 t598 t599 t600 t601 _ _ t602 t579 t580 t581 t582 _ _ t583 true _ ?side1 ?side2 ?side3 ?side4 A114.out).mono ?_); (case side1 => repeat (first | exact (Kd.R_reads' HO_607004.out).2.2 | (with_reducible refine Kd.C_alloc ?_ _) | (with_reducible refine Kd.C_drewN ?_ _) | (with_reducible refine Kd.C_drew ?_))); (case side2 => exact (Kd.R_reads' HO_607004.out).2.1); (case side3 => exact z21_102); (case side4 => exact (Kd.R_reads' HO_594004.out).2.1); rintro e w128 ⟨rfl, hb⟩; replace HO_12 := bR HO_12 hb; replace HO_17 := bR HO_17 hb; replace HO_594004 := bR HO_594004 hb; replace HO_595004 := bR HO_595004 hb; replace HO_607004 := bR HO_607004 hb; replace HO_632004 := bR HO_632004 hb; replace HO_641004 := bR HO_641004 hb; replace BK593 := bB BK593 hb; replace BK594 := bB BK594 hb; replace BK606 := bB BK606 hb; replace BK622 := bB BK622 hb; replace BK631 := bB BK631 hb; replace BK640 := bB BK640 hb; replace HB := bS z21_73 hb; clear hb; obtain ⟨_, _, _, _, _, _, _, _, _, _⟩ := be_5 BK593.out) | (go_at_call 27; (with_reducible refine (impl_MaskOk.calls kj103 t579 t580 t581 t582 _ _ t583 t647 _ ?side1 ?side2 A116.out).mono ?_); (case side1 => exact z21_102); (case side2 => exact (Kd.R_reads' HO_594004.out).2.1); rintro e w130 ⟨rfl, hb⟩; replace HO_12 := bR HO_12 hb; replace HO_17 := bR HO_17 hb; replace HO_594004 := bR HO_594004 hb; replace HO_595004 := bR HO_595004 hb; replace HO_607004 := bR HO_607004 hb; replace HO_632004 := bR HO_632004 hb; replace HO_641004 := bR HO_641004 hb; replace BK593 := bB BK593 hb; replace BK594 := bB BK594 hb; replace BK606 := bB BK606 hb; replace BK622 := bB BK622 hb; replace BK631 := bB BK631 hb; replace BK640 := bB BK640 hb; replace HB := bS z21_73 hb; clear hb))
           go_ret
           exact ⟨(by first | rfl | (simp [errW_none, errW_some] <;> rfl) | (simp [*, errW_none, errW_some] <;> rfl)), z21_73⟩
          subst c106; rw [if_pos rfl] at H
          by_cases c107 : 0 ≤ x18_3
          rotate_left
          ·rw [if_neg c107] at H
           exact absurd H (by simp)
          rw [if_pos c107] at H; have c107b0 := decide_eq_true c107; clear c107
          by_cases c108 : x18_3 < (t641.length : Int)
          rotate_left
          ·rw [if_neg c108] at H
           exact absurd H (by simp)
          rw [if_pos c108] at H; have c108b0 := decide_eq_true c108; clear c108
          by_cases c109 : x18_3 < (t619.length : Int)
          rotate_left
          ·rw [if_neg c109] at H
           exact absurd H (by simp)
          rw [if_pos c109] at H; have c109b0 := decide_eq_true c109; clear c109
          by_cases c110 : (!(((rd_T95 t641 x18_3).f0) == ((rd_T95 t619 x18_3).f0)) || (!(((rd_T95 t641 x18_3).f1) == ((rd_T95 t619 x18_3).f1)) || (!(((rd_T95 t641 x18_3).f2) == ((rd_T95 t619 x18_3).f2)) || (!(((rd_T95 t641 x18_3).f3) == ((rd_T95 t619 x18_3).f3)))))) = true
          ·rw [if_pos c110] at H
           have c110b0 : (!(((rd_T95 t641 x18_3).f0) == ((rd_T95 t619 x18_3).f0)) || (!(((rd_T95 t641 x18_3).f1) == ((rd_T95 t619 x18_3).f1)) || (!(((rd_T95 t641 x18_3).f2) == ((rd_T95 t619 x18_3).f2)) || (!(((rd_T95 t641 x18_3).f3) == ((rd_T95 t619 x18_3).f3)))))) = true := c110
           clear c110
           obtain rfl := Option.some.inj H
           exact absurd hT Bool.false_ne_true
          rw [if_neg c110] at H
          have c110b0 : (!(((rd_T95 t641 x18_3).f0) == ((rd_T95 t619 x18_3).f0)) || (!(((rd_T95 t641 x18_3).f1) == ((rd_T95 t619 x18_3).f1)) || (!(((rd_T95 t641 x18_3).f2) == ((rd_T95 t619 x18_3).f2)) || (!(((rd_T95 t641 x18_3).f3) == ((rd_T95 t619 x18_3).f3)))))) = false := by simpa using c110
          clear c110
          have H' := mk0 H
          clear H
          try go_wp2
          replace HO_12 := mk0 (Kd.R_drew HO_12.out); replace HO_17 := mk0 (Kd.R_drew HO_17.out); replace HO_594004 := mk0 (Kd.R_drew HO_594004.out); replace HO_595004 := mk0 (Kd.R_drew HO_595004.out); replace HO_607004 := mk0 (Kd.R_drew HO_607004.out); replace HO_632004 := mk0 (Kd.R_drew HO_632004.out); replace HO_641004 := mk0 (Kd.R_drew HO_641004.out); replace BK593 := mk0 (blk_drew BK593.out); replace BK594 := mk0 (blk_drew BK594.out); replace BK606 := mk0 (blk_drew BK606.out); replace BK622 := mk0 (blk_drew BK622.out); replace BK631 := mk0 (blk_drew BK631.out); replace BK640 := mk0 (blk_drew BK640.out); replace HB := mk0 (below_drew1 HB.out); obtain ⟨Ao112, co112, eo112⟩ := Kd.R_slice HO_17.out
          (first | subst eo112 | (injection eo112 with f1_ f2_ f3_; have f4_ := f1_.symm; have f5_ := f3_.symm; clear f1_ f2_ f3_; subst f4_; subst f5_))
          have p644 : 0 ≤ (x18_3 : Int) := of_decide_eq_true (by first | (with_reducible assumption) | assumption)
          have q644 : x18_3 < (t641.length : Int) := of_decide_eq_true (by first | (with_reducible assumption) | assumption)
          (try (obtain ⟨Aq644, cq644, eq644⟩ := Kd.R_slice HO_17.out; subst eq644))
          obtain ⟨ad644, e644, hx644_0, hx644_1, hx644_2, hx644_3⟩ := at_T95 (Kd.R_reads' HO_17.out).2.2 x18_3 p644 q644
          cases e644
          replace p644 := eq_true p644; replace q644 := eq_true q644
          have p645 : 0 ≤ (x18_3 : Int) := of_decide_eq_true (by first | (with_reducible assumption) | assumption)
          have q645 : x18_3 < (t619.length : Int) := of_decide_eq_true (by first | (with_reducible assumption) | assumption)
          (try (obtain ⟨Aq645, cq645, eq645⟩ := Kd.R_slice HO_12.out; subst eq645))
          obtain ⟨ad645, e645, hx645_0, hx645_1, hx645_2, hx645_3⟩ := at_T95 (Kd.R_reads' HO_12.out).2.2 x18_3 p645 q645
          cases e645
          replace p645 := eq_true p645; replace q645 := eq_true q645
          refine start_ (n := 9) (S := fun w' => w'.cell? (ad644.add ((x18_3).toNat * 4)) = some (.int .i64 ((rd_T95 t641 x18_3).f0)) ∧ w'.cell? ⟨(ad644.add ((x18_3).toNat * 4)).block, (ad644.add ((x18_3).toNat * 4)).off + 1, none⟩ = some (.int .i64 ((rd_T95 t641 x18_3).f1)) ∧ w'.cell? ⟨(ad644.add ((x18_3).toNat * 4)).block, (ad644.add ((x18_3).toNat * 4)).off + 2, none⟩ = some (.int .i64 ((rd_T95 t641 x18_3).f2)) ∧ w'.cell? ⟨(ad644.add ((x18_3).toNat * 4)).block, (ad644.add ((x18_3).toNat * 4)).off + 3, none⟩ = some (.int .i64 ((rd_T95 t641 x18_3).f3)) ∧ w'.cell? (ad645.add ((x18_3).toNat * 4)) = some (.int .i64 ((rd_T95 t619 x18_3).f0)) ∧ w'.cell? ⟨(ad645.add ((x18_3).toNat * 4)).block, (ad645.add ((x18_3).toNat * 4)).off + 1, none⟩ = some (.int .i64 ((rd_T95 t619 x18_3).f1)) ∧ w'.cell? ⟨(ad645.add ((x18_3).toNat * 4)).block, (ad645.add ((x18_3).toNat * 4)).off + 2, none⟩ = some (.int .i64 ((rd_T95 t619 x18_3).f2)) ∧ w'.cell? ⟨(ad645.add ((x18_3).toNat * 4)).block, (ad645.add ((x18_3).toNat * 4)).off + 3, none⟩ = some (.int .i64 ((rd_T95 t619 x18_3).f3))) (ds := []) #[false, false, false, false, false, false, false, false, false] (by kernel_rfl) rfl rfl ⟨hx644_0, hx644_1, hx644_2, hx644_3, hx645_0, hx645_1, hx645_2, hx645_3⟩ (fun hHeld => ?_); refine with_tabW laws_FnMasks.tab26 laws_FnMasks.bits26 (fun HT_ HW_ => ?_)
          generalize wc.drew = w111 at HO_12 HO_17 HO_594004 HO_595004 HO_607004 HO_632004 HO_641004 BK593 BK594 BK606 BK622 BK631 BK640 HB hx644_0 hx644_1 hx644_2 hx644_3 hx645_0 hx645_1 hx645_2 hx645_3 hHeld ⊢
          refine pzx (i := 0) (N := 171) (bA 9 1) HT_ ?_; refine pzx (i := 1) (N := 172) (bA 9 3) HT_ ?_; refine pzx (i := 2) (N := 173) (bA 9 7) HT_ ?_; refine pzx (i := 4) (N := 175) (bA 9 23) HT_ ?_; refine pzx (i := 5) (N := 176) (bA 9 55) HT_ ?_; refine pzx (i := 6) (N := 177) (bA 9 119) HT_ ?_
          refine take_ (i := 3) (N := some 174) (v := ?_) (a' := ?_) (bA 9 127) rfl rfl (take_ofW HT_.out HW_.out (by kernel_rfl)) (fun _ _ _ h => h) (Or.inl ⟨by rfl, ?_⟩) hHeld ?_ ?_
          rotate_left
          ·rintro w' ⟨s0, s1, s2, s3, s4, s5, s6, s7⟩
           go_simp; with_reducible rfl
          rotate_left
          ·exact x21_put
          refine take_ (i := 7) (N := some 178) (v := ?_) (a' := ?_) (bA 9 255) rfl rfl (take_ofW HT_.out HW_.out (by kernel_rfl)) (fun _ _ _ h => h) (Or.inl ⟨by rfl, ?_⟩) hHeld ?_ ?_
          rotate_left
          ·rintro w' ⟨s0, s1, s2, s3, s4, s5, s6, s7⟩
           go_simp; with_reducible rfl
          rotate_left
          ·exact x21_put
          refine pzx (i := 8) (N := 179) (bA 9 511) HT_ ?_
          refine done_ (done_of HT_.out (by kernel_rfl)) ?_
          try go_wp2
          go_roundg kj103
          case measure => have := HK1.out; have := HJ71.out; have := HK3.out; have := HJ103.out; omega
          case rel => exact ⟨(wrap64 (x18_3 + 1)), rs0, H', ⟨(by have := HK1.out; have := HJ71.out; have := HK3.out; have := HJ103.out; omega)⟩, ⟨pkR HO_12⟩, ⟨pkR HO_17⟩, ⟨pkR HO_594004⟩, ⟨pkR HO_595004⟩, ⟨pkR HO_607004⟩, ⟨pkR HO_632004⟩, ⟨pkR HO_641004⟩, ⟨pkb BK593⟩, ⟨pkb BK594⟩, ⟨pkb BK606⟩, ⟨pkb BK622⟩, ⟨pkb BK631⟩, ⟨pkb BK640⟩, ⟨z21_73⟩⟩
   rw [if_pos c24] at H; have c24b0 := decide_eq_true c24; clear c24
   by_cases c25 : 0 ≤ x8_1
   rotate_left
   ·rw [if_neg c25] at H
    exact absurd H (by simp)
   rw [if_pos c25] at H; have c25b0 := decide_eq_true c25; clear c25; have HC26 := mk0 H; clear H
   have p607 : 0 ≤ (x8_1 : Int) := of_decide_eq_true (by first | (with_reducible assumption) | assumption)
   have q607 : x8_1 < (t595.length : Int) := of_decide_eq_true (by first | (with_reducible assumption) | assumption)
   (try (obtain ⟨Aq607, cq607, eq607⟩ := Kd.R_slice HO_5.out; subst eq607))
   obtain ⟨ad607, e607, hx607_0, hx607_1, hx607_2, hx607_3⟩ := at_T95 (Kd.R_reads' HO_5.out).2.2 x8_1 p607 q607
   cases e607
   replace p607 := eq_true p607; replace q607 := eq_true q607
   go_upto_region 10 with (first | ((with_reducible refine gate_dst (N := 9) rfl ?_); (try (refine gate_guard (by rfl) ?_; dsimp only)); refine boxz (cs := #[.int .i64 0, .int .i64 0, .int .i64 0, .int .i64 0]) (t := 95) rfl ?_; intro gb608 hg w27 hbox hb; have GW608 := mk0 (ge_go (a := w.heap.size) hg (below_size z21_79)); have GE608 := GW608; have NB593_608 := mk0 (nb_lt hg (blk_ltB BK593 (pkb BK593))); have NB608_593 := mk0 (nb_gt hg (blk_ltB BK593 (pkb BK593))); have NB594_608 := mk0 (nb_lt hg (blk_ltB BK594 (pkb BK594))); have NB608_594 := mk0 (nb_gt hg (blk_ltB BK594 (pkb BK594))); have NB606_608 := mk0 (nb_lt hg (blk_ltB BK606 (pkb BK606))); have NB608_606 := mk0 (nb_gt hg (blk_ltB BK606 (pkb BK606))); replace HO_5 := mk0 (Kd.R_below (Kd.R_elderB (pkR HO_5) gb608 (Nat.le_of_eq hg.symm)) hb); replace HO_594004 := bR HO_594004 hb; replace HO_595004 := bR HO_595004 hb; replace HO_607004 := bR HO_607004 hb; replace BK593 := bB BK593 hb; replace BK594 := bB BK594 hb; replace BK606 := bB BK606 hb; replace HB := bS z21_79 hb; have BK608 := mk0 (hbox); clear hb hbox hg; have hnb28 := NB608_593.out; have hnc28 := NB593_608.out; have hnb29 := NB608_594.out; have hnc29 := NB594_608.out; have hnb30 := NB608_606.out; have hnc30 := NB606_608.out; obtain ⟨_, _, _, _, _, _, _, _⟩ := be_4 BK608.out))
   (try simp only [Act.put, List.setIfInBounds_toArray, List.set_cons_zero, List.set_cons_succ])
   go_cut [113] (fun v113 wc => ∃ (kq : Nat) (x113_25 : Bool), v113 = .bool x113_25 ∧ Aside0 (laws_FnMasks.j1 kq l0 t595 t605 x8_1 x113_25 t579 t580 t581 t582 t583 t598 t599 t600 t601 t602 ((rd_T95 t595 x8_1).f0) ((rd_T95 t595 x8_1).f1) ((rd_T95 t595 x8_1).f2) ((rd_T95 t595 x8_1).f3) = some r) ∧ Aside0 (kq ≤ k1) ∧ Aside0 (Kd.R k95 95 wc w.heap.size (fun k_ => k_ ≠ gb608) (.slice (some ad607) t595.length co17) t595) ∧ Aside0 (Kd.R (Kd.int .i64) 3 wc w.heap.size (fun k_ => some k_ ≠ ((.slice Ao14 t590.length co14) : Value).ownBlock ∧ some k_ ≠ ((.slice Ao23 t602.length co23) : Value).ownBlock) (.slice Ao12 t583.length co12) t583) ∧ Aside0 (Kd.R (Kd.int .i64) 3 wc w.heap.size (fun k_ => some k_ ≠ ((.slice Ao12 t583.length co12) : Value).ownBlock ∧ some k_ ≠ ((.slice Ao23 t602.length co23) : Value).ownBlock) (.slice Ao14 t590.length co14) t590) ∧ Aside0 (Kd.R (Kd.int .i64) 3 wc w.heap.size (fun k_ => some k_ ≠ ((.slice Ao12 t583.length co12) : Value).ownBlock ∧ some k_ ≠ ((.slice Ao14 t590.length co14) : Value).ownBlock) (.slice Ao23 t602.length co23) t602) ∧ Aside0 (wc.heap[gb593]? = some (.cells #[.int .i64 t579, .int .i64 t580, .int .i64 t581, .int .i64 t582, (.slice Ao12 t583.length co12)] 65 (0, 0))) ∧ Aside0 (wc.heap[gb594]? = some (.cells #[.int .i64 t586, .int .i64 t587, .int .i64 t588, .int .i64 t589, (.slice Ao14 t590.length co14)] 65 (0, 0))) ∧ Aside0 (wc.heap[gb606]? = some (.cells #[.int .i64 t598, .int .i64 t599, .int .i64 t600, .int .i64 t601, (.slice Ao23 t602.length co23)] 65 (0, 0))) ∧ Aside0 (wc.heap[gb608]? = some (.cells #[.int .i64 ((rd_T95 t595 x8_1).f0), .int .i64 ((rd_T95 t595 x8_1).f1), .int .i64 ((rd_T95 t595 x8_1).f2), .int .i64 ((rd_T95 t595 x8_1).f3)] 95 (0, 0))) ∧ Aside0 (Below w.heap.size w wc))
   case first =>
    have H := HC26.out; clear HC26
    by_cases c32 : ((rd_T95 t595 x8_1).f3) = 0
    ·rw [if_pos c32] at H
     have c32b0 : (((rd_T95 t595 x8_1).f3) == 0) = true := beq_iff_eq.mpr c32
     have c32b1 : (((rd_T95 t595 x8_1).f3) != 0) = false := bne_eq_false_iff_eq.mpr c32
     clear c32
     (first | rw [c32b0] | (simp only [i64_w, i32_w]; rw [c32b0]) | skip)
     exact absurd (show r = false from by cases k1 with | zero => exact absurd H (by simp [laws_FnMasks.j1]) | succ k_ => simp only [laws_FnMasks.j1, if_true] at H; exact (Option.some.inj H).symm) (by rw [hT]; simp)
    rw [if_neg c32] at H
    have c32b0 : (((rd_T95 t595 x8_1).f3) == 0) = false := beq_eq_false_iff_ne.mpr c32
    have c32b1 : (((rd_T95 t595 x8_1).f3) != 0) = true := bne_iff_ne.mpr c32
    (first | rw [c32b0] | (simp only [i64_w, i32_w]; rw [c32b0]) | skip)
    by_cases c33 : ((rd_T95 t595 x8_1).f1) ≥ ((rd_T95 t595 x8_1).f2)
    ·rw [if_pos c33] at H; have c33b0 := decide_eq_true c33; clear c33
     exact absurd (show r = false from by cases k1 with | zero => exact absurd H (by simp [laws_FnMasks.j1]) | succ k_ => simp only [laws_FnMasks.j1, if_true] at H; exact (Option.some.inj H).symm) (by rw [hT]; simp)
    rw [if_neg c33] at H; have c33b0 := decide_eq_false c33; clear c33
    by_cases c34 : x8_1 > 0
    rotate_left
    ·rw [if_neg c34] at H; have c34b0 := decide_eq_false c34; clear c34
     have H' := mk0 H
     clear H
     try go_wp2
     obtain ⟨w48, hw_⟩ : ∃ w_ : World, w_ = ((((w27.setCell ⟨gb608, 0, none⟩ (.int .i64 ((rd_T95 t595 x8_1).f0))).setCell ⟨gb608, 1, none⟩ (.int .i64 ((rd_T95 t595 x8_1).f1))).setCell ⟨gb608, 2, none⟩ (.int .i64 ((rd_T95 t595 x8_1).f2))).setCell ⟨gb608, 3, none⟩ (.int .i64 ((rd_T95 t595 x8_1).f3))) := ⟨_, rfl⟩
     have n0_ : Aside0 (Kd.R k95 95 w48 w.heap.size (fun k_ => k_ ≠ gb608) (.slice (some ad607) t595.length co17) t595) := ⟨z21_80⟩
     have n1_ : Aside0 (Kd.R (Kd.int .i64) 3 w48 w.heap.size (fun k_ => some k_ ≠ (.slice Ao14 t590.length co14 : Value).ownBlock ∧ some k_ ≠ (.slice Ao23 t602.length co23 : Value).ownBlock) (.slice Ao12 t583.length co12) t583) := ⟨z21_81⟩
     have n2_ : Aside0 (Kd.R (Kd.int .i64) 3 w48 w.heap.size (fun k_ => some k_ ≠ (.slice Ao12 t583.length co12 : Value).ownBlock ∧ some k_ ≠ (.slice Ao23 t602.length co23 : Value).ownBlock) (.slice Ao14 t590.length co14) t590) := ⟨z21_82⟩
     have n3_ : Aside0 (Kd.R (Kd.int .i64) 3 w48 w.heap.size (fun k_ => some k_ ≠ (.slice Ao12 t583.length co12 : Value).ownBlock ∧ some k_ ≠ (.slice Ao14 t590.length co14 : Value).ownBlock) (.slice Ao23 t602.length co23) t602) := ⟨z21_83⟩
     have n4_ : Aside0 (w48.heap[gb593]? = some (.cells #[.int .i64 t579, .int .i64 t580, .int .i64 t581, .int .i64 t582, .slice Ao12 t583.length co12] 65 (0, 0))) := ⟨z21_76⟩
     have n5_ : Aside0 (w48.heap[gb594]? = some (.cells #[.int .i64 t586, .int .i64 t587, .int .i64 t588, .int .i64 t589, .slice Ao14 t590.length co14] 65 (0, 0))) := ⟨z21_77⟩
     have n6_ : Aside0 (w48.heap[gb606]? = some (.cells #[.int .i64 t598, .int .i64 t599, .int .i64 t600, .int .i64 t601, .slice Ao23 t602.length co23] 65 (0, 0))) := ⟨z21_78⟩
     have n7_ : Aside0 (w48.heap[gb608]? = some (.cells #[.int .i64 ((rd_T95 t595 x8_1).f0), .int .i64 ((rd_T95 t595 x8_1).f1), .int .i64 ((rd_T95 t595 x8_1).f2), .int .i64 ((rd_T95 t595 x8_1).f3)] 95 (0, 0))) := ⟨z21_74⟩
     have n8_ : Aside0 (Below w.heap.size w w48) := ⟨(by rw [hw_]; exact z21_75)⟩
     (try clear HO_5); (try clear HO_594004); (try clear HO_595004); (try clear HO_607004); (try clear BK593); (try clear BK594); (try clear BK606); (try clear BK608); (try clear HB); rw [← hw_]; clear hw_; have HO_5 := n0_; have HO_594004 := n1_; have HO_595004 := n2_; have HO_607004 := n3_; have BK593 := n4_; have BK594 := n5_; have BK606 := n6_; have BK608 := n7_; have HB := n8_; clear n0_ n1_ n2_ n3_ n4_ n5_ n6_ n7_ n8_; replace HO_5 := mk0 (Kd.R_drew HO_5.out); replace HO_594004 := mk0 (Kd.R_drew HO_594004.out); replace HO_595004 := mk0 (Kd.R_drew HO_595004.out); replace HO_607004 := mk0 (Kd.R_drew HO_607004.out); replace BK593 := mk0 (blk_drew BK593.out); replace BK594 := mk0 (blk_drew BK594.out); replace BK606 := mk0 (blk_drew BK606.out); replace BK608 := mk0 (blk_drew BK608.out); replace HB := mk0 (below_drew1 HB.out)
     refine start_ (n := 69) (S := fun w' => w'.cell? ⟨gb608, 0, none⟩ = some (.int .i64 ((rd_T95 t595 x8_1).f0)) ∧ w'.cell? ⟨gb608, 1, none⟩ = some (.int .i64 ((rd_T95 t595 x8_1).f1)) ∧ w'.cell? ⟨gb608, 2, none⟩ = some (.int .i64 ((rd_T95 t595 x8_1).f2)) ∧ w'.cell? ⟨gb608, 3, none⟩ = some (.int .i64 ((rd_T95 t595 x8_1).f3))) (ds := []) y21_0 (by kernel_rfl) rfl rfl ⟨(blk_cell BK608.out 0).trans rfl, (blk_cell BK608.out 1).trans rfl, (blk_cell BK608.out 2).trans rfl, (blk_cell BK608.out 3).trans rfl⟩ (fun hHeld => ?_); refine with_tabW laws_FnMasks.tab10 laws_FnMasks.bits10 (fun HT_ HW_ => ?_)
     generalize w48.drew = w49 at HO_5 HO_594004 HO_595004 HO_607004 BK593 BK594 BK606 BK608 HB hHeld ⊢
     refine pzx (i := 0) (N := 45) y21_6 HT_ ?_
     refine take_ (i := 1) (N := some 46) (v := ?_) (a' := ?_) y21_8 rfl rfl (take_ofW HT_.out HW_.out (by kernel_rfl)) (fun _ _ _ h => h) (Or.inl ⟨by rfl, ?_⟩) hHeld ?_ ?_
     rotate_left
     ·rintro w' ⟨s0, s1, s2, s3⟩
      go_simp; with_reducible rfl
     rotate_left
     ·exact x21_put
     refine pzx (i := 2) (N := 47) y21_10 HT_ ?_; refine pzx (i := 3) (N := 48) y21_16 HT_ ?_; refine pzx (i := 4) (N := 49) y21_19 HT_ ?_; refine pzx (i := 6) (N := 51) y21_20 HT_ ?_
     refine take_ (i := 5) (N := some 50) (v := ?_) (a' := ?_) y21_21 rfl rfl (take_ofW HT_.out HW_.out (by kernel_rfl)) (fun _ _ _ h => h) (Or.inl ⟨by rfl, ?_⟩) hHeld ?_ ?_
     rotate_left
     ·rintro w' ⟨s0, s1, s2, s3⟩
      go_simp; with_reducible rfl
     rotate_left
     ·exact x21_put
     refine take_ (i := 7) (N := some 52) (v := ?_) (a' := ?_) y21_24 rfl rfl (take_ofW HT_.out HW_.out (by kernel_rfl)) (fun _ _ _ h => h) (Or.inl ⟨by rfl, ?_⟩) hHeld ?_ ?_
     rotate_left
     ·rintro w' ⟨s0, s1, s2, s3⟩
      go_simp; with_reducible rfl
     rotate_left
     ·exact x21_put
     refine pzx (i := 8) (N := 53) y21_26 HT_ ?_; refine pzx (i := 9) (N := 54) y21_27 HT_ ?_; refine pzx (i := 10) (N := 55) y21_28 HT_ ?_; refine pzx (i := 11) (N := 56) y21_29 HT_ ?_; refine pzx (i := 12) (N := 57) y21_30 HT_ ?_; refine pzx (i := 13) (N := 58) y21_31 HT_ ?_; refine pzy (i := 14) (N := 59) y21_32 HT_ ?_; refine pzy (i := 15) (N := 60) y21_33 HT_ ?_; refine pzy (i := 16) (N := 61) y21_34 HT_ ?_; refine pzy (i := 17) (N := 62) y21_35 HT_ ?_; refine pzy (i := 18) (N := 63) y21_36 HT_ ?_; refine pzy (i := 19) (N := 64) (bA 69 1048575) HT_ ?_; refine pzy (i := 20) (N := 65) y21_39 HT_ ?_; refine pzy (i := 21) (N := 66) y21_40 HT_ ?_; refine pzy (i := 22) (N := 67) y21_41 HT_ ?_; refine pzy (i := 23) (N := 68) y21_42 HT_ ?_; refine pzy (i := 24) (N := 69) y21_43 HT_ ?_; refine pzy (i := 25) (N := 70) y21_44 HT_ ?_; refine pzy (i := 26) (N := 71) y21_45 HT_ ?_; refine pzy (i := 27) (N := 72) y21_46 HT_ ?_; refine pzy (i := 28) (N := 73) y21_47 HT_ ?_; refine pzy (i := 29) (N := 74) (bA 69 1073741823) HT_ ?_; refine pzy (i := 30) (N := 75) y21_50 HT_ ?_; refine pzy (i := 31) (N := 76) y21_51 HT_ ?_; refine pzy (i := 32) (N := 77) y21_52 HT_ ?_; refine pzy (i := 33) (N := 78) y21_53 HT_ ?_; refine pzy (i := 34) (N := 79) y21_54 HT_ ?_; refine pzy (i := 35) (N := 80) y21_55 HT_ ?_; refine pzy (i := 36) (N := 81) y21_56 HT_ ?_; refine pzy (i := 37) (N := 82) y21_57 HT_ ?_; refine pzy (i := 38) (N := 83) y21_58 HT_ ?_; refine pzy (i := 39) (N := 84) y21_60 HT_ ?_; refine pzy (i := 40) (N := 85) y21_61 HT_ ?_; refine pzy (i := 41) (N := 86) y21_62 HT_ ?_; refine pzy (i := 42) (N := 87) y21_63 HT_ ?_; refine pzy (i := 43) (N := 88) y21_64 HT_ ?_; refine pzy (i := 44) (N := 89) y21_65 HT_ ?_; refine pzy (i := 45) (N := 90) y21_66 HT_ ?_; refine pzy (i := 46) (N := 91) y21_67 HT_ ?_; refine pzy (i := 47) (N := 92) y21_68 HT_ ?_; refine pzy (i := 48) (N := 93) y21_69 HT_ ?_; refine pzy (i := 49) (N := 94) y21_71 HT_ ?_; refine pzy (i := 50) (N := 95) y21_72 HT_ ?_; refine pzy (i := 51) (N := 96) y21_73 HT_ ?_; refine pzy (i := 52) (N := 97) y21_74 HT_ ?_; refine pzy (i := 53) (N := 98) y21_75 HT_ ?_; refine pzy (i := 54) (N := 99) y21_76 HT_ ?_; refine pzy (i := 55) (N := 100) y21_77 HT_ ?_; refine pzy (i := 56) (N := 101) y21_78 HT_ ?_; refine pzy (i := 57) (N := 102) y21_79 HT_ ?_; refine pzy (i := 58) (N := 103) y21_80 HT_ ?_; refine pzy (i := 59) (N := 104) y21_82 HT_ ?_; refine pzy (i := 60) (N := 105) y21_83 HT_ ?_; refine pzy (i := 61) (N := 106) y21_84 HT_ ?_; refine pzy (i := 62) (N := 107) y21_85 HT_ ?_; refine pzy (i := 63) (N := 108) y21_86 HT_ ?_; refine pzy (i := 64) (N := 109) y21_87 HT_ ?_; refine pzy (i := 65) (N := 110) y21_88 HT_ ?_; refine pzy (i := 66) (N := 111) y21_89 HT_ ?_; refine pzx (i := 67) (N := 112) y21_90 HT_ ?_; refine pzx (i := 68) (N := 113) y21_91 HT_ ?_
     refine done_ (done_of HT_.out (by kernel_rfl)) ?_
     try go_wp2
     go_meet
     case rel => exact ⟨_, (false), rs0, H', ⟨(by have := HK1.out; first | omega | exact Nat.le_refl _)⟩, ⟨pkR HO_5⟩, ⟨pkR HO_594004⟩, ⟨pkR HO_595004⟩, ⟨pkR HO_607004⟩, ⟨pkb BK593⟩, ⟨pkb BK594⟩, ⟨pkb BK606⟩, ⟨pkb BK608⟩, ⟨z21_75⟩⟩
    rw [if_pos c34] at H; have c34b0 := decide_eq_true c34; clear c34
    obtain ⟨ji35, hji35⟩ : ∃ j_ : Int, (wrap64 (x8_1 - 1)) = j_ := ⟨_, rfl⟩
    replace H : (if 0 ≤ (ji35) then (if (ji35) < (t595.length : Int) then (if ((rd_T95 t595 (ji35)).f0) > ((rd_T95 t595 x8_1).f0) then (laws_FnMasks.j1 k1 l0 t595 t605 x8_1 true t579 t580 t581 t582 t583 t598 t599 t600 t601 t602 ((rd_T95 t595 x8_1).f0) ((rd_T95 t595 x8_1).f1) ((rd_T95 t595 x8_1).f2) ((rd_T95 t595 x8_1).f3)) else (if ((rd_T95 t595 (ji35)).f0) = ((rd_T95 t595 x8_1).f0) then (if ((rd_T95 t595 (ji35)).f2) > ((rd_T95 t595 x8_1).f1) then (laws_FnMasks.j1 k1 l0 t595 t605 x8_1 true t579 t580 t581 t582 t583 t598 t599 t600 t601 t602 ((rd_T95 t595 x8_1).f0) ((rd_T95 t595 x8_1).f1) ((rd_T95 t595 x8_1).f2) ((rd_T95 t595 x8_1).f3)) else (if ((rd_T95 t595 (ji35)).f2) = ((rd_T95 t595 x8_1).f1) then (laws_FnMasks.j1 k1 l0 t595 t605 x8_1 (((rd_T95 t595 (ji35)).f3) == ((rd_T95 t595 x8_1).f3)) t579 t580 t581 t582 t583 t598 t599 t600 t601 t602 ((rd_T95 t595 x8_1).f0) ((rd_T95 t595 x8_1).f1) ((rd_T95 t595 x8_1).f2) ((rd_T95 t595 x8_1).f3)) else (laws_FnMasks.j1 k1 l0 t595 t605 x8_1 false t579 t580 t581 t582 t583 t598 t599 t600 t601 t602 ((rd_T95 t595 x8_1).f0) ((rd_T95 t595 x8_1).f1) ((rd_T95 t595 x8_1).f2) ((rd_T95 t595 x8_1).f3)))) else (laws_FnMasks.j1 k1 l0 t595 t605 x8_1 false t579 t580 t581 t582 t583 t598 t599 t600 t601 t602 ((rd_T95 t595 x8_1).f0) ((rd_T95 t595 x8_1).f1) ((rd_T95 t595 x8_1).f2) ((rd_T95 t595 x8_1).f3)))) else (none)) else (none)) = some r := by first | (rw [hji35] at H; exact H) | (simp only [hji35] at H ⊢; exact H)
    have hji35w : (IntKind.i64.wrap (x8_1 - 1)) = ji35 := (i64_w _).trans hji35
    by_cases c36 : 0 ≤ (ji35)
    rotate_left
    ·rw [if_neg c36] at H
     exact absurd H (by simp)
    rw [if_pos c36] at H; have c36b0 := decide_eq_true c36; clear c36
    by_cases c37 : (ji35) < (t595.length : Int)
    rotate_left
    ·rw [if_neg c37] at H
     exact absurd H (by simp)
    rw [if_pos c37] at H; have c37b0 := decide_eq_true c37; clear c37
    by_cases c38 : ((rd_T95 t595 (ji35)).f0) > ((rd_T95 t595 x8_1).f0)
    ·rw [if_pos c38] at H; have c38b0 := decide_eq_true c38; clear c38
     exact absurd (show r = false from by cases k1 with | zero => exact absurd H (by simp [laws_FnMasks.j1]) | succ k_ => simp only [laws_FnMasks.j1, if_true] at H; exact (Option.some.inj H).symm) (by rw [hT]; simp)
    rw [if_neg c38] at H; have c38b0 := decide_eq_false c38; clear c38
    by_cases c39 : ((rd_T95 t595 (ji35)).f0) = ((rd_T95 t595 x8_1).f0)
    rotate_left
    ·rw [if_neg c39] at H
     have c39b0 : (((rd_T95 t595 (ji35)).f0) == ((rd_T95 t595 x8_1).f0)) = false := beq_eq_false_iff_ne.mpr c39
     have c39b1 : (((rd_T95 t595 (ji35)).f0) != ((rd_T95 t595 x8_1).f0)) = true := bne_iff_ne.mpr c39
     have H' := mk0 H
     clear H
     try go_wp2
     obtain ⟨w46, hw_⟩ : ∃ w_ : World, w_ = ((((w27.setCell ⟨gb608, 0, none⟩ (.int .i64 ((rd_T95 t595 x8_1).f0))).setCell ⟨gb608, 1, none⟩ (.int .i64 ((rd_T95 t595 x8_1).f1))).setCell ⟨gb608, 2, none⟩ (.int .i64 ((rd_T95 t595 x8_1).f2))).setCell ⟨gb608, 3, none⟩ (.int .i64 ((rd_T95 t595 x8_1).f3))) := ⟨_, rfl⟩
     have n0_ : Aside0 (Kd.R k95 95 w46 w.heap.size (fun k_ => k_ ≠ gb608) (.slice (some ad607) t595.length co17) t595) := ⟨z21_80⟩
     have n1_ : Aside0 (Kd.R (Kd.int .i64) 3 w46 w.heap.size (fun k_ => some k_ ≠ (.slice Ao14 t590.length co14 : Value).ownBlock ∧ some k_ ≠ (.slice Ao23 t602.length co23 : Value).ownBlock) (.slice Ao12 t583.length co12) t583) := ⟨z21_81⟩
     have n2_ : Aside0 (Kd.R (Kd.int .i64) 3 w46 w.heap.size (fun k_ => some k_ ≠ (.slice Ao12 t583.length co12 : Value).ownBlock ∧ some k_ ≠ (.slice Ao23 t602.length co23 : Value).ownBlock) (.slice Ao14 t590.length co14) t590) := ⟨z21_82⟩
     have n3_ : Aside0 (Kd.R (Kd.int .i64) 3 w46 w.heap.size (fun k_ => some k_ ≠ (.slice Ao12 t583.length co12 : Value).ownBlock ∧ some k_ ≠ (.slice Ao14 t590.length co14 : Value).ownBlock) (.slice Ao23 t602.length co23) t602) := ⟨z21_83⟩
     have n4_ : Aside0 (w46.heap[gb593]? = some (.cells #[.int .i64 t579, .int .i64 t580, .int .i64 t581, .int .i64 t582, .slice Ao12 t583.length co12] 65 (0, 0))) := ⟨z21_76⟩
     have n5_ : Aside0 (w46.heap[gb594]? = some (.cells #[.int .i64 t586, .int .i64 t587, .int .i64 t588, .int .i64 t589, .slice Ao14 t590.length co14] 65 (0, 0))) := ⟨z21_77⟩
     have n6_ : Aside0 (w46.heap[gb606]? = some (.cells #[.int .i64 t598, .int .i64 t599, .int .i64 t600, .int .i64 t601, .slice Ao23 t602.length co23] 65 (0, 0))) := ⟨z21_78⟩
     have n7_ : Aside0 (w46.heap[gb608]? = some (.cells #[.int .i64 ((rd_T95 t595 x8_1).f0), .int .i64 ((rd_T95 t595 x8_1).f1), .int .i64 ((rd_T95 t595 x8_1).f2), .int .i64 ((rd_T95 t595 x8_1).f3)] 95 (0, 0))) := ⟨z21_74⟩
     have n8_ : Aside0 (Below w.heap.size w w46) := ⟨(by rw [hw_]; exact z21_75)⟩
     (try clear HO_5); (try clear HO_594004); (try clear HO_595004); (try clear HO_607004); (try clear BK593); (try clear BK594); (try clear BK606); (try clear BK608); (try clear HB); rw [← hw_]; clear hw_; have HO_5 := n0_; have HO_594004 := n1_; have HO_595004 := n2_; have HO_607004 := n3_; have BK593 := n4_; have BK594 := n5_; have BK606 := n6_; have BK608 := n7_; have HB := n8_; clear n0_ n1_ n2_ n3_ n4_ n5_ n6_ n7_ n8_; replace HO_5 := mk0 (Kd.R_drew HO_5.out); replace HO_594004 := mk0 (Kd.R_drew HO_594004.out); replace HO_595004 := mk0 (Kd.R_drew HO_595004.out); replace HO_607004 := mk0 (Kd.R_drew HO_607004.out); replace BK593 := mk0 (blk_drew BK593.out); replace BK594 := mk0 (blk_drew BK594.out); replace BK606 := mk0 (blk_drew BK606.out); replace BK608 := mk0 (blk_drew BK608.out); replace HB := mk0 (below_drew1 HB.out)
     have p609 : 0 ≤ ((ji35) : Int) := of_decide_eq_true (by first | (with_reducible assumption) | assumption)
     have q609 : (ji35) < (t595.length : Int) := of_decide_eq_true (by first | (with_reducible assumption) | assumption)
     obtain ⟨ad609, e609, hx609_0, hx609_1, hx609_2, hx609_3⟩ := at_T95 (Kd.R_reads' HO_5.out).2.2 (ji35) p609 q609
     obtain rfl : ad607 = ad609 := (by injection e609)
     replace p609 := eq_true p609; replace q609 := eq_true q609
     have p610 : 0 ≤ ((ji35) : Int) := of_decide_eq_true (by first | (with_reducible assumption) | assumption)
     have q610 : (ji35) < (t595.length : Int) := of_decide_eq_true (by first | (with_reducible assumption) | assumption)
     obtain ⟨ad610, e610, hx610_0, hx610_1, hx610_2, hx610_3⟩ := at_T95 (Kd.R_reads' HO_5.out).2.2 (ji35) p610 q610
     obtain rfl : ad607 = ad610 := (by injection e610)
     replace p610 := eq_true p610; replace q610 := eq_true q610
     refine start_ (n := 69) (S := fun w' => w'.cell? ⟨gb608, 0, none⟩ = some (.int .i64 ((rd_T95 t595 x8_1).f0)) ∧ w'.cell? ⟨gb608, 1, none⟩ = some (.int .i64 ((rd_T95 t595 x8_1).f1)) ∧ w'.cell? ⟨gb608, 2, none⟩ = some (.int .i64 ((rd_T95 t595 x8_1).f2)) ∧ w'.cell? ⟨gb608, 3, none⟩ = some (.int .i64 ((rd_T95 t595 x8_1).f3)) ∧ w'.cell? (ad607.add (((ji35)).toNat * 4)) = some (.int .i64 ((rd_T95 t595 (ji35)).f0)) ∧ w'.cell? ⟨(ad607.add (((ji35)).toNat * 4)).block, (ad607.add (((ji35)).toNat * 4)).off + 1, none⟩ = some (.int .i64 ((rd_T95 t595 (ji35)).f1)) ∧ w'.cell? ⟨(ad607.add (((ji35)).toNat * 4)).block, (ad607.add (((ji35)).toNat * 4)).off + 2, none⟩ = some (.int .i64 ((rd_T95 t595 (ji35)).f2)) ∧ w'.cell? ⟨(ad607.add (((ji35)).toNat * 4)).block, (ad607.add (((ji35)).toNat * 4)).off + 3, none⟩ = some (.int .i64 ((rd_T95 t595 (ji35)).f3)) ∧ w'.cell? (ad607.add (((ji35)).toNat * 4)) = some (.int .i64 ((rd_T95 t595 (ji35)).f0)) ∧ w'.cell? ⟨(ad607.add (((ji35)).toNat * 4)).block, (ad607.add (((ji35)).toNat * 4)).off + 1, none⟩ = some (.int .i64 ((rd_T95 t595 (ji35)).f1)) ∧ w'.cell? ⟨(ad607.add (((ji35)).toNat * 4)).block, (ad607.add (((ji35)).toNat * 4)).off + 2, none⟩ = some (.int .i64 ((rd_T95 t595 (ji35)).f2)) ∧ w'.cell? ⟨(ad607.add (((ji35)).toNat * 4)).block, (ad607.add (((ji35)).toNat * 4)).off + 3, none⟩ = some (.int .i64 ((rd_T95 t595 (ji35)).f3))) (ds := []) y21_0 (by kernel_rfl) rfl rfl ⟨(blk_cell BK608.out 0).trans rfl, (blk_cell BK608.out 1).trans rfl, (blk_cell BK608.out 2).trans rfl, (blk_cell BK608.out 3).trans rfl, hx609_0, hx609_1, hx609_2, hx609_3, hx610_0, hx610_1, hx610_2, hx610_3⟩ (fun hHeld => ?_); refine with_tabW laws_FnMasks.tab10 laws_FnMasks.bits10 (fun HT_ HW_ => ?_)
     generalize w46.drew = w47 at HO_5 HO_594004 HO_595004 HO_607004 BK593 BK594 BK606 BK608 HB hx609_0 hx609_1 hx609_2 hx609_3 hx610_0 hx610_1 hx610_2 hx610_3 hHeld ⊢
     refine pzx (i := 0) (N := 45) y21_6 HT_ ?_
     refine take_ (i := 1) (N := some 46) (v := ?_) (a' := ?_) y21_8 rfl rfl (take_ofW HT_.out HW_.out (by kernel_rfl)) (fun _ _ _ h => h) (Or.inl ⟨by rfl, ?_⟩) hHeld ?_ ?_
     rotate_left
     ·rintro w' ⟨s0, s1, s2, s3, s4, s5, s6, s7, s8, s9, s10, s11⟩
      go_simp; with_reducible rfl
     rotate_left
     ·exact x21_put
     refine pzx (i := 2) (N := 47) y21_10 HT_ ?_; refine pzx (i := 3) (N := 48) y21_16 HT_ ?_; refine pzx (i := 4) (N := 49) y21_19 HT_ ?_; refine pzx (i := 6) (N := 51) y21_20 HT_ ?_
     refine take_ (i := 5) (N := some 50) (v := ?_) (a' := ?_) y21_21 rfl rfl (take_ofW HT_.out HW_.out (by kernel_rfl)) (fun _ _ _ h => h) (Or.inl ⟨by rfl, ?_⟩) hHeld ?_ ?_
     rotate_left
     ·rintro w' ⟨s0, s1, s2, s3, s4, s5, s6, s7, s8, s9, s10, s11⟩
      go_simp; with_reducible rfl
     rotate_left
     ·exact x21_put
     refine take_ (i := 7) (N := some 52) (v := ?_) (a' := ?_) y21_24 rfl rfl (take_ofW HT_.out HW_.out (by kernel_rfl)) (fun _ _ _ h => h) (Or.inl ⟨by rfl, ?_⟩) hHeld ?_ ?_
     rotate_left
     ·rintro w' ⟨s0, s1, s2, s3, s4, s5, s6, s7, s8, s9, s10, s11⟩
      go_simp; with_reducible rfl
     rotate_left
     ·exact x21_put
     refine pzx (i := 8) (N := 53) y21_26 HT_ ?_; refine pzx (i := 9) (N := 54) y21_27 HT_ ?_; refine pzx (i := 10) (N := 55) y21_28 HT_ ?_; refine pzx (i := 11) (N := 56) y21_29 HT_ ?_; refine pzx (i := 12) (N := 57) y21_30 HT_ ?_; refine pzx (i := 13) (N := 58) y21_31 HT_ ?_; refine pzx (i := 14) (N := 59) y21_32 HT_ ?_; refine pzx (i := 15) (N := 60) y21_33 HT_ ?_; refine pzx (i := 16) (N := 61) y21_34 HT_ ?_; refine pzx (i := 17) (N := 62) y21_35 HT_ ?_; refine pzx (i := 18) (N := 63) y21_36 HT_ ?_; refine pzx (i := 20) (N := 65) y21_37 HT_ ?_
     refine take_ (i := 19) (N := some 64) (v := ?_) (a' := ?_) y21_39 rfl rfl (take_ofW HT_.out HW_.out (by kernel_rfl)) (fun _ _ _ h => h) (Or.inl ⟨by rfl, ?_⟩) hHeld ?_ ?_
     rotate_left
     ·rintro w' ⟨s0, s1, s2, s3, s4, s5, s6, s7, s8, s9, s10, s11⟩
      go_simp; with_reducible rfl
     rotate_left
     ·exact x21_put
     refine take_ (i := 21) (N := some 66) (v := ?_) (a' := ?_) y21_40 rfl rfl (take_ofW HT_.out HW_.out (by kernel_rfl)) (fun _ _ _ h => h) (Or.inl ⟨by rfl, ?_⟩) hHeld ?_ ?_
     rotate_left
     ·rintro w' ⟨s0, s1, s2, s3, s4, s5, s6, s7, s8, s9, s10, s11⟩
      go_simp; with_reducible rfl
     rotate_left
     ·exact x21_put
     refine pzx (i := 22) (N := 67) y21_41 HT_ ?_; refine pzx (i := 23) (N := 68) y21_42 HT_ ?_; refine pzx (i := 24) (N := 69) y21_43 HT_ ?_; refine pzx (i := 25) (N := 70) y21_44 HT_ ?_; refine pzx (i := 26) (N := 71) y21_45 HT_ ?_; refine pzx (i := 27) (N := 72) y21_46 HT_ ?_; refine pzx (i := 28) (N := 73) y21_47 HT_ ?_; refine pzx (i := 30) (N := 75) y21_48 HT_ ?_
     refine take_ (i := 29) (N := some 74) (v := ?_) (a' := ?_) y21_50 rfl rfl (take_ofW HT_.out HW_.out (by kernel_rfl)) (fun _ _ _ h => h) (Or.inl ⟨by rfl, ?_⟩) hHeld ?_ ?_
     rotate_left
     ·rintro w' ⟨s0, s1, s2, s3, s4, s5, s6, s7, s8, s9, s10, s11⟩
      go_simp; with_reducible rfl
     rotate_left
     ·exact x21_put
     refine take_ (i := 31) (N := some 76) (v := ?_) (a' := ?_) y21_51 rfl rfl (take_ofW HT_.out HW_.out (by kernel_rfl)) (fun _ _ _ h => h) (Or.inl ⟨by rfl, ?_⟩) hHeld ?_ ?_
     rotate_left
     ·rintro w' ⟨s0, s1, s2, s3, s4, s5, s6, s7, s8, s9, s10, s11⟩
      go_simp; with_reducible rfl
     rotate_left
     ·exact x21_put
     refine pzx (i := 32) (N := 77) y21_52 HT_ ?_; refine pzx (i := 33) (N := 78) y21_53 HT_ ?_; refine pzy (i := 34) (N := 79) y21_54 HT_ ?_; refine pzy (i := 35) (N := 80) y21_55 HT_ ?_; refine pzy (i := 36) (N := 81) y21_56 HT_ ?_; refine pzy (i := 37) (N := 82) y21_57 HT_ ?_; refine pzy (i := 38) (N := 83) y21_58 HT_ ?_; refine pzy (i := 39) (N := 84) y21_60 HT_ ?_; refine pzy (i := 40) (N := 85) y21_61 HT_ ?_; refine pzy (i := 41) (N := 86) y21_62 HT_ ?_; refine pzy (i := 42) (N := 87) y21_63 HT_ ?_; refine pzy (i := 43) (N := 88) y21_64 HT_ ?_; refine pzy (i := 44) (N := 89) y21_65 HT_ ?_; refine pzy (i := 45) (N := 90) y21_66 HT_ ?_; refine pzy (i := 46) (N := 91) y21_67 HT_ ?_; refine pzy (i := 47) (N := 92) y21_68 HT_ ?_; refine pzy (i := 48) (N := 93) y21_69 HT_ ?_; refine pzy (i := 49) (N := 94) y21_71 HT_ ?_; refine pzy (i := 50) (N := 95) y21_72 HT_ ?_; refine pzy (i := 51) (N := 96) y21_73 HT_ ?_; refine pzy (i := 52) (N := 97) y21_74 HT_ ?_; refine pzy (i := 53) (N := 98) y21_75 HT_ ?_; refine pzy (i := 54) (N := 99) y21_76 HT_ ?_; refine pzy (i := 55) (N := 100) y21_77 HT_ ?_; refine pzy (i := 56) (N := 101) y21_78 HT_ ?_; refine pzy (i := 57) (N := 102) y21_79 HT_ ?_; refine pzy (i := 58) (N := 103) y21_80 HT_ ?_; refine pzy (i := 59) (N := 104) y21_82 HT_ ?_; refine pzy (i := 60) (N := 105) y21_83 HT_ ?_; refine pzy (i := 61) (N := 106) y21_84 HT_ ?_; refine pzy (i := 62) (N := 107) y21_85 HT_ ?_; refine pzy (i := 63) (N := 108) y21_86 HT_ ?_; refine pzy (i := 64) (N := 109) y21_87 HT_ ?_; refine pzx (i := 65) (N := 110) y21_88 HT_ ?_; refine pzx (i := 66) (N := 111) y21_89 HT_ ?_; refine pzx (i := 67) (N := 112) y21_90 HT_ ?_; refine pzx (i := 68) (N := 113) y21_91 HT_ ?_
     refine done_ (done_of HT_.out (by kernel_rfl)) ?_
     try go_wp2
     go_meet
     case rel => exact ⟨_, (false), rs0, H', ⟨(by have := HK1.out; first | omega | exact Nat.le_refl _)⟩, ⟨pkR HO_5⟩, ⟨pkR HO_594004⟩, ⟨pkR HO_595004⟩, ⟨pkR HO_607004⟩, ⟨pkb BK593⟩, ⟨pkb BK594⟩, ⟨pkb BK606⟩, ⟨pkb BK608⟩, ⟨z21_75⟩⟩
    rw [if_pos c39] at H
    have c39b0 : (((rd_T95 t595 (ji35)).f0) == ((rd_T95 t595 x8_1).f0)) = true := beq_iff_eq.mpr c39
    have c39b1 : (((rd_T95 t595 (ji35)).f0) != ((rd_T95 t595 x8_1).f0)) = false := bne_eq_false_iff_eq.mpr c39
    clear c39
    by_cases c40 : ((rd_T95 t595 (ji35)).f2) > ((rd_T95 t595 x8_1).f1)
    ·rw [if_pos c40] at H; have c40b0 := decide_eq_true c40; clear c40
     exact absurd (show r = false from by cases k1 with | zero => exact absurd H (by simp [laws_FnMasks.j1]) | succ k_ => simp only [laws_FnMasks.j1, if_true] at H; exact (Option.some.inj H).symm) (by rw [hT]; simp)
    rw [if_neg c40] at H; have c40b0 := decide_eq_false c40; clear c40
    by_cases c41 : ((rd_T95 t595 (ji35)).f2) = ((rd_T95 t595 x8_1).f1)
    rotate_left
    ·rw [if_neg c41] at H
     have c41b0 : (((rd_T95 t595 (ji35)).f2) == ((rd_T95 t595 x8_1).f1)) = false := beq_eq_false_iff_ne.mpr c41
     have c41b1 : (((rd_T95 t595 (ji35)).f2) != ((rd_T95 t595 x8_1).f1)) = true := bne_iff_ne.mpr c41
     have H' := mk0 H
     clear H
     try go_wp2
     obtain ⟨w44, hw_⟩ : ∃ w_ : World, w_ = ((((w27.setCell ⟨gb608, 0, none⟩ (.int .i64 ((rd_T95 t595 x8_1).f0))).setCell ⟨gb608, 1, none⟩ (.int .i64 ((rd_T95 t595 x8_1).f1))).setCell ⟨gb608, 2, none⟩ (.int .i64 ((rd_T95 t595 x8_1).f2))).setCell ⟨gb608, 3, none⟩ (.int .i64 ((rd_T95 t595 x8_1).f3))) := ⟨_, rfl⟩
     have n0_ : Aside0 (Kd.R k95 95 w44 w.heap.size (fun k_ => k_ ≠ gb608) (.slice (some ad607) t595.length co17) t595) := ⟨z21_80⟩
     have n1_ : Aside0 (Kd.R (Kd.int .i64) 3 w44 w.heap.size (fun k_ => some k_ ≠ (.slice Ao14 t590.length co14 : Value).ownBlock ∧ some k_ ≠ (.slice Ao23 t602.length co23 : Value).ownBlock) (.slice Ao12 t583.length co12) t583) := ⟨z21_81⟩
     have n2_ : Aside0 (Kd.R (Kd.int .i64) 3 w44 w.heap.size (fun k_ => some k_ ≠ (.slice Ao12 t583.length co12 : Value).ownBlock ∧ some k_ ≠ (.slice Ao23 t602.length co23 : Value).ownBlock) (.slice Ao14 t590.length co14) t590) := ⟨z21_82⟩
     have n3_ : Aside0 (Kd.R (Kd.int .i64) 3 w44 w.heap.size (fun k_ => some k_ ≠ (.slice Ao12 t583.length co12 : Value).ownBlock ∧ some k_ ≠ (.slice Ao14 t590.length co14 : Value).ownBlock) (.slice Ao23 t602.length co23) t602) := ⟨z21_83⟩
     have n4_ : Aside0 (w44.heap[gb593]? = some (.cells #[.int .i64 t579, .int .i64 t580, .int .i64 t581, .int .i64 t582, .slice Ao12 t583.length co12] 65 (0, 0))) := ⟨z21_76⟩
     have n5_ : Aside0 (w44.heap[gb594]? = some (.cells #[.int .i64 t586, .int .i64 t587, .int .i64 t588, .int .i64 t589, .slice Ao14 t590.length co14] 65 (0, 0))) := ⟨z21_77⟩
     have n6_ : Aside0 (w44.heap[gb606]? = some (.cells #[.int .i64 t598, .int .i64 t599, .int .i64 t600, .int .i64 t601, .slice Ao23 t602.length co23] 65 (0, 0))) := ⟨z21_78⟩
     have n7_ : Aside0 (w44.heap[gb608]? = some (.cells #[.int .i64 ((rd_T95 t595 x8_1).f0), .int .i64 ((rd_T95 t595 x8_1).f1), .int .i64 ((rd_T95 t595 x8_1).f2), .int .i64 ((rd_T95 t595 x8_1).f3)] 95 (0, 0))) := ⟨z21_74⟩
     have n8_ : Aside0 (Below w.heap.size w w44) := ⟨(by rw [hw_]; exact z21_75)⟩
     (try clear HO_5); (try clear HO_594004); (try clear HO_595004); (try clear HO_607004); (try clear BK593); (try clear BK594); (try clear BK606); (try clear BK608); (try clear HB); rw [← hw_]; clear hw_; have HO_5 := n0_; have HO_594004 := n1_; have HO_595004 := n2_; have HO_607004 := n3_; have BK593 := n4_; have BK594 := n5_; have BK606 := n6_; have BK608 := n7_; have HB := n8_; clear n0_ n1_ n2_ n3_ n4_ n5_ n6_ n7_ n8_; replace HO_5 := mk0 (Kd.R_drew HO_5.out); replace HO_594004 := mk0 (Kd.R_drew HO_594004.out); replace HO_595004 := mk0 (Kd.R_drew HO_595004.out); replace HO_607004 := mk0 (Kd.R_drew HO_607004.out); replace BK593 := mk0 (blk_drew BK593.out); replace BK594 := mk0 (blk_drew BK594.out); replace BK606 := mk0 (blk_drew BK606.out); replace BK608 := mk0 (blk_drew BK608.out); replace HB := mk0 (below_drew1 HB.out)
     have p609 : 0 ≤ ((ji35) : Int) := of_decide_eq_true (by first | (with_reducible assumption) | assumption)
     have q609 : (ji35) < (t595.length : Int) := of_decide_eq_true (by first | (with_reducible assumption) | assumption)
     obtain ⟨ad609, e609, hx609_0, hx609_1, hx609_2, hx609_3⟩ := at_T95 (Kd.R_reads' HO_5.out).2.2 (ji35) p609 q609
     obtain rfl : ad607 = ad609 := (by injection e609)
     replace p609 := eq_true p609; replace q609 := eq_true q609
     have p610 : 0 ≤ ((ji35) : Int) := of_decide_eq_true (by first | (with_reducible assumption) | assumption)
     have q610 : (ji35) < (t595.length : Int) := of_decide_eq_true (by first | (with_reducible assumption) | assumption)
     obtain ⟨ad610, e610, hx610_0, hx610_1, hx610_2, hx610_3⟩ := at_T95 (Kd.R_reads' HO_5.out).2.2 (ji35) p610 q610
     obtain rfl : ad607 = ad610 := (by injection e610)
     replace p610 := eq_true p610; replace q610 := eq_true q610
     have p611 : 0 ≤ ((ji35) : Int) := of_decide_eq_true (by first | (with_reducible assumption) | assumption)
     have q611 : (ji35) < (t595.length : Int) := of_decide_eq_true (by first | (with_reducible assumption) | assumption)
     obtain ⟨ad611, e611, hx611_0, hx611_1, hx611_2, hx611_3⟩ := at_T95 (Kd.R_reads' HO_5.out).2.2 (ji35) p611 q611
     obtain rfl : ad607 = ad611 := (by injection e611)
     replace p611 := eq_true p611; replace q611 := eq_true q611
     have p612 : 0 ≤ ((ji35) : Int) := of_decide_eq_true (by first | (with_reducible assumption) | assumption)
     have q612 : (ji35) < (t595.length : Int) := of_decide_eq_true (by first | (with_reducible assumption) | assumption)
     obtain ⟨ad612, e612, hx612_0, hx612_1, hx612_2, hx612_3⟩ := at_T95 (Kd.R_reads' HO_5.out).2.2 (ji35) p612 q612
     obtain rfl : ad607 = ad612 := (by injection e612)
     replace p612 := eq_true p612; replace q612 := eq_true q612
     refine start_ (n := 69) (S := fun w' => w'.cell? ⟨gb608, 0, none⟩ = some (.int .i64 ((rd_T95 t595 x8_1).f0)) ∧ w'.cell? ⟨gb608, 1, none⟩ = some (.int .i64 ((rd_T95 t595 x8_1).f1)) ∧ w'.cell? ⟨gb608, 2, none⟩ = some (.int .i64 ((rd_T95 t595 x8_1).f2)) ∧ w'.cell? ⟨gb608, 3, none⟩ = some (.int .i64 ((rd_T95 t595 x8_1).f3)) ∧ w'.cell? (ad607.add (((ji35)).toNat * 4)) = some (.int .i64 ((rd_T95 t595 (ji35)).f0)) ∧ w'.cell? ⟨(ad607.add (((ji35)).toNat * 4)).block, (ad607.add (((ji35)).toNat * 4)).off + 1, none⟩ = some (.int .i64 ((rd_T95 t595 (ji35)).f1)) ∧ w'.cell? ⟨(ad607.add (((ji35)).toNat * 4)).block, (ad607.add (((ji35)).toNat * 4)).off + 2, none⟩ = some (.int .i64 ((rd_T95 t595 (ji35)).f2)) ∧ w'.cell? ⟨(ad607.add (((ji35)).toNat * 4)).block, (ad607.add (((ji35)).toNat * 4)).off + 3, none⟩ = some (.int .i64 ((rd_T95 t595 (ji35)).f3)) ∧ w'.cell? (ad607.add (((ji35)).toNat * 4)) = some (.int .i64 ((rd_T95 t595 (ji35)).f0)) ∧ w'.cell? ⟨(ad607.add (((ji35)).toNat * 4)).block, (ad607.add (((ji35)).toNat * 4)).off + 1, none⟩ = some (.int .i64 ((rd_T95 t595 (ji35)).f1)) ∧ w'.cell? ⟨(ad607.add (((ji35)).toNat * 4)).block, (ad607.add (((ji35)).toNat * 4)).off + 2, none⟩ = some (.int .i64 ((rd_T95 t595 (ji35)).f2)) ∧ w'.cell? ⟨(ad607.add (((ji35)).toNat * 4)).block, (ad607.add (((ji35)).toNat * 4)).off + 3, none⟩ = some (.int .i64 ((rd_T95 t595 (ji35)).f3)) ∧ w'.cell? (ad607.add (((ji35)).toNat * 4)) = some (.int .i64 ((rd_T95 t595 (ji35)).f0)) ∧ w'.cell? ⟨(ad607.add (((ji35)).toNat * 4)).block, (ad607.add (((ji35)).toNat * 4)).off + 1, none⟩ = some (.int .i64 ((rd_T95 t595 (ji35)).f1)) ∧ w'.cell? ⟨(ad607.add (((ji35)).toNat * 4)).block, (ad607.add (((ji35)).toNat * 4)).off + 2, none⟩ = some (.int .i64 ((rd_T95 t595 (ji35)).f2)) ∧ w'.cell? ⟨(ad607.add (((ji35)).toNat * 4)).block, (ad607.add (((ji35)).toNat * 4)).off + 3, none⟩ = some (.int .i64 ((rd_T95 t595 (ji35)).f3)) ∧ w'.cell? (ad607.add (((ji35)).toNat * 4)) = some (.int .i64 ((rd_T95 t595 (ji35)).f0)) ∧ w'.cell? ⟨(ad607.add (((ji35)).toNat * 4)).block, (ad607.add (((ji35)).toNat * 4)).off + 1, none⟩ = some (.int .i64 ((rd_T95 t595 (ji35)).f1)) ∧ w'.cell? ⟨(ad607.add (((ji35)).toNat * 4)).block, (ad607.add (((ji35)).toNat * 4)).off + 2, none⟩ = some (.int .i64 ((rd_T95 t595 (ji35)).f2)) ∧ w'.cell? ⟨(ad607.add (((ji35)).toNat * 4)).block, (ad607.add (((ji35)).toNat * 4)).off + 3, none⟩ = some (.int .i64 ((rd_T95 t595 (ji35)).f3))) (ds := []) y21_0 (by kernel_rfl) rfl rfl ⟨(blk_cell BK608.out 0).trans rfl, (blk_cell BK608.out 1).trans rfl, (blk_cell BK608.out 2).trans rfl, (blk_cell BK608.out 3).trans rfl, hx609_0, hx609_1, hx609_2, hx609_3, hx610_0, hx610_1, hx610_2, hx610_3, hx611_0, hx611_1, hx611_2, hx611_3, hx612_0, hx612_1, hx612_2, hx612_3⟩ (fun hHeld => ?_); refine with_tabW laws_FnMasks.tab10 laws_FnMasks.bits10 (fun HT_ HW_ => ?_)
     generalize w44.drew = w45 at HO_5 HO_594004 HO_595004 HO_607004 BK593 BK594 BK606 BK608 HB hx609_0 hx609_1 hx609_2 hx609_3 hx610_0 hx610_1 hx610_2 hx610_3 hx611_0 hx611_1 hx611_2 hx611_3 hx612_0 hx612_1 hx612_2 hx612_3 hHeld ⊢
     refine pzx (i := 0) (N := 45) y21_6 HT_ ?_
     refine take_ (i := 1) (N := some 46) (v := ?_) (a' := ?_) y21_8 rfl rfl (take_ofW HT_.out HW_.out (by kernel_rfl)) (fun _ _ _ h => h) (Or.inl ⟨by rfl, ?_⟩) hHeld ?_ ?_
     rotate_left
     ·rintro w' ⟨s0, s1, s2, s3, s4, s5, s6, s7, s8, s9, s10, s11, s12, s13, s14, s15, s16, s17, s18, s19⟩
      go_simp; with_reducible rfl
     rotate_left
     ·exact x21_put
     refine pzx (i := 2) (N := 47) y21_10 HT_ ?_; refine pzx (i := 3) (N := 48) y21_16 HT_ ?_; refine pzx (i := 4) (N := 49) y21_19 HT_ ?_; refine pzx (i := 6) (N := 51) y21_20 HT_ ?_
     refine take_ (i := 5) (N := some 50) (v := ?_) (a' := ?_) y21_21 rfl rfl (take_ofW HT_.out HW_.out (by kernel_rfl)) (fun _ _ _ h => h) (Or.inl ⟨by rfl, ?_⟩) hHeld ?_ ?_
     rotate_left
     ·rintro w' ⟨s0, s1, s2, s3, s4, s5, s6, s7, s8, s9, s10, s11, s12, s13, s14, s15, s16, s17, s18, s19⟩
      go_simp; with_reducible rfl
     rotate_left
     ·exact x21_put
     refine take_ (i := 7) (N := some 52) (v := ?_) (a' := ?_) y21_24 rfl rfl (take_ofW HT_.out HW_.out (by kernel_rfl)) (fun _ _ _ h => h) (Or.inl ⟨by rfl, ?_⟩) hHeld ?_ ?_
     rotate_left
     ·rintro w' ⟨s0, s1, s2, s3, s4, s5, s6, s7, s8, s9, s10, s11, s12, s13, s14, s15, s16, s17, s18, s19⟩
      go_simp; with_reducible rfl
     rotate_left
     ·exact x21_put
     refine pzx (i := 8) (N := 53) y21_26 HT_ ?_; refine pzx (i := 9) (N := 54) y21_27 HT_ ?_; refine pzx (i := 10) (N := 55) y21_28 HT_ ?_; refine pzx (i := 11) (N := 56) y21_29 HT_ ?_; refine pzx (i := 12) (N := 57) y21_30 HT_ ?_; refine pzx (i := 13) (N := 58) y21_31 HT_ ?_; refine pzx (i := 14) (N := 59) y21_32 HT_ ?_; refine pzx (i := 15) (N := 60) y21_33 HT_ ?_; refine pzx (i := 16) (N := 61) y21_34 HT_ ?_; refine pzx (i := 17) (N := 62) y21_35 HT_ ?_; refine pzx (i := 18) (N := 63) y21_36 HT_ ?_; refine pzx (i := 20) (N := 65) y21_37 HT_ ?_
     refine take_ (i := 19) (N := some 64) (v := ?_) (a' := ?_) y21_39 rfl rfl (take_ofW HT_.out HW_.out (by kernel_rfl)) (fun _ _ _ h => h) (Or.inl ⟨by rfl, ?_⟩) hHeld ?_ ?_
     rotate_left
     ·rintro w' ⟨s0, s1, s2, s3, s4, s5, s6, s7, s8, s9, s10, s11, s12, s13, s14, s15, s16, s17, s18, s19⟩
      go_simp; with_reducible rfl
     rotate_left
     ·exact x21_put
     refine take_ (i := 21) (N := some 66) (v := ?_) (a' := ?_) y21_40 rfl rfl (take_ofW HT_.out HW_.out (by kernel_rfl)) (fun _ _ _ h => h) (Or.inl ⟨by rfl, ?_⟩) hHeld ?_ ?_
     rotate_left
     ·rintro w' ⟨s0, s1, s2, s3, s4, s5, s6, s7, s8, s9, s10, s11, s12, s13, s14, s15, s16, s17, s18, s19⟩
      go_simp; with_reducible rfl
     rotate_left
     ·exact x21_put
     refine pzx (i := 22) (N := 67) y21_41 HT_ ?_; refine pzx (i := 23) (N := 68) y21_42 HT_ ?_; refine pzx (i := 24) (N := 69) y21_43 HT_ ?_; refine pzx (i := 25) (N := 70) y21_44 HT_ ?_; refine pzx (i := 26) (N := 71) y21_45 HT_ ?_; refine pzx (i := 27) (N := 72) y21_46 HT_ ?_; refine pzx (i := 28) (N := 73) y21_47 HT_ ?_; refine pzx (i := 30) (N := 75) y21_48 HT_ ?_
     refine take_ (i := 29) (N := some 74) (v := ?_) (a' := ?_) y21_50 rfl rfl (take_ofW HT_.out HW_.out (by kernel_rfl)) (fun _ _ _ h => h) (Or.inl ⟨by rfl, ?_⟩) hHeld ?_ ?_
     rotate_left
     ·rintro w' ⟨s0, s1, s2, s3, s4, s5, s6, s7, s8, s9, s10, s11, s12, s13, s14, s15, s16, s17, s18, s19⟩
      go_simp; with_reducible rfl
     rotate_left
     ·exact x21_put
     refine take_ (i := 31) (N := some 76) (v := ?_) (a' := ?_) y21_51 rfl rfl (take_ofW HT_.out HW_.out (by kernel_rfl)) (fun _ _ _ h => h) (Or.inl ⟨by rfl, ?_⟩) hHeld ?_ ?_
     rotate_left
     ·rintro w' ⟨s0, s1, s2, s3, s4, s5, s6, s7, s8, s9, s10, s11, s12, s13, s14, s15, s16, s17, s18, s19⟩
      go_simp; with_reducible rfl
     rotate_left
     ·exact x21_put
     refine pzx (i := 32) (N := 77) y21_52 HT_ ?_; refine pzx (i := 33) (N := 78) y21_53 HT_ ?_; refine pzx (i := 34) (N := 79) y21_54 HT_ ?_; refine pzx (i := 35) (N := 80) y21_55 HT_ ?_; refine pzx (i := 36) (N := 81) y21_56 HT_ ?_; refine pzx (i := 37) (N := 82) y21_57 HT_ ?_; refine pzx (i := 38) (N := 83) y21_58 HT_ ?_; refine pzx (i := 40) (N := 85) y21_59 HT_ ?_
     refine take_ (i := 39) (N := some 84) (v := ?_) (a' := ?_) y21_61 rfl rfl (take_ofW HT_.out HW_.out (by kernel_rfl)) (fun _ _ _ h => h) (Or.inl ⟨by rfl, ?_⟩) hHeld ?_ ?_
     rotate_left
     ·rintro w' ⟨s0, s1, s2, s3, s4, s5, s6, s7, s8, s9, s10, s11, s12, s13, s14, s15, s16, s17, s18, s19⟩
      go_simp; with_reducible rfl
     rotate_left
     ·exact x21_put
     refine take_ (i := 41) (N := some 86) (v := ?_) (a' := ?_) y21_62 rfl rfl (take_ofW HT_.out HW_.out (by kernel_rfl)) (fun _ _ _ h => h) (Or.inl ⟨by rfl, ?_⟩) hHeld ?_ ?_
     rotate_left
     ·rintro w' ⟨s0, s1, s2, s3, s4, s5, s6, s7, s8, s9, s10, s11, s12, s13, s14, s15, s16, s17, s18, s19⟩
      go_simp; with_reducible rfl
     rotate_left
     ·exact x21_put
     refine pzx (i := 42) (N := 87) y21_63 HT_ ?_; refine pzx (i := 43) (N := 88) y21_64 HT_ ?_; refine pzx (i := 44) (N := 89) y21_65 HT_ ?_; refine pzx (i := 45) (N := 90) y21_66 HT_ ?_; refine pzx (i := 46) (N := 91) y21_67 HT_ ?_; refine pzx (i := 47) (N := 92) y21_68 HT_ ?_; refine pzx (i := 48) (N := 93) y21_69 HT_ ?_; refine pzx (i := 50) (N := 95) y21_70 HT_ ?_
     refine take_ (i := 49) (N := some 94) (v := ?_) (a' := ?_) y21_72 rfl rfl (take_ofW HT_.out HW_.out (by kernel_rfl)) (fun _ _ _ h => h) (Or.inl ⟨by rfl, ?_⟩) hHeld ?_ ?_
     rotate_left
     ·rintro w' ⟨s0, s1, s2, s3, s4, s5, s6, s7, s8, s9, s10, s11, s12, s13, s14, s15, s16, s17, s18, s19⟩
      go_simp; with_reducible rfl
     rotate_left
     ·exact x21_put
     refine take_ (i := 51) (N := some 96) (v := ?_) (a' := ?_) y21_73 rfl rfl (take_ofW HT_.out HW_.out (by kernel_rfl)) (fun _ _ _ h => h) (Or.inl ⟨by rfl, ?_⟩) hHeld ?_ ?_
     rotate_left
     ·rintro w' ⟨s0, s1, s2, s3, s4, s5, s6, s7, s8, s9, s10, s11, s12, s13, s14, s15, s16, s17, s18, s19⟩
      go_simp; with_reducible rfl
     rotate_left
     ·exact x21_put
     refine pzx (i := 52) (N := 97) y21_74 HT_ ?_; refine pzx (i := 53) (N := 98) y21_75 HT_ ?_; refine pzy (i := 54) (N := 99) y21_76 HT_ ?_; refine pzy (i := 55) (N := 100) y21_77 HT_ ?_; refine pzy (i := 56) (N := 101) y21_78 HT_ ?_; refine pzy (i := 57) (N := 102) y21_79 HT_ ?_; refine pzy (i := 58) (N := 103) y21_80 HT_ ?_; refine pzy (i := 59) (N := 104) y21_82 HT_ ?_; refine pzy (i := 60) (N := 105) y21_83 HT_ ?_; refine pzy (i := 61) (N := 106) y21_84 HT_ ?_; refine pzy (i := 62) (N := 107) y21_85 HT_ ?_; refine pzx (i := 63) (N := 108) y21_86 HT_ ?_; refine pzx (i := 64) (N := 109) y21_87 HT_ ?_; refine pzx (i := 65) (N := 110) y21_88 HT_ ?_; refine pzx (i := 66) (N := 111) y21_89 HT_ ?_; refine pzx (i := 67) (N := 112) y21_90 HT_ ?_; refine pzx (i := 68) (N := 113) y21_91 HT_ ?_
     refine done_ (done_of HT_.out (by kernel_rfl)) ?_
     try go_wp2
     go_meet
     case rel => exact ⟨_, (false), rs0, H', ⟨(by have := HK1.out; first | omega | exact Nat.le_refl _)⟩, ⟨pkR HO_5⟩, ⟨pkR HO_594004⟩, ⟨pkR HO_595004⟩, ⟨pkR HO_607004⟩, ⟨pkb BK593⟩, ⟨pkb BK594⟩, ⟨pkb BK606⟩, ⟨pkb BK608⟩, ⟨z21_75⟩⟩
    rw [if_pos c41] at H
    have c41b0 : (((rd_T95 t595 (ji35)).f2) == ((rd_T95 t595 x8_1).f1)) = true := beq_iff_eq.mpr c41
    have c41b1 : (((rd_T95 t595 (ji35)).f2) != ((rd_T95 t595 x8_1).f1)) = false := bne_eq_false_iff_eq.mpr c41
    clear c41
    have H' := mk0 H
    clear H
    try go_wp2
    obtain ⟨w42, hw_⟩ : ∃ w_ : World, w_ = ((((w27.setCell ⟨gb608, 0, none⟩ (.int .i64 ((rd_T95 t595 x8_1).f0))).setCell ⟨gb608, 1, none⟩ (.int .i64 ((rd_T95 t595 x8_1).f1))).setCell ⟨gb608, 2, none⟩ (.int .i64 ((rd_T95 t595 x8_1).f2))).setCell ⟨gb608, 3, none⟩ (.int .i64 ((rd_T95 t595 x8_1).f3))) := ⟨_, rfl⟩
    have n0_ : Aside0 (Kd.R k95 95 w42 w.heap.size (fun k_ => k_ ≠ gb608) (.slice (some ad607) t595.length co17) t595) := ⟨z21_80⟩
    have n1_ : Aside0 (Kd.R (Kd.int .i64) 3 w42 w.heap.size (fun k_ => some k_ ≠ (.slice Ao14 t590.length co14 : Value).ownBlock ∧ some k_ ≠ (.slice Ao23 t602.length co23 : Value).ownBlock) (.slice Ao12 t583.length co12) t583) := ⟨z21_81⟩
    have n2_ : Aside0 (Kd.R (Kd.int .i64) 3 w42 w.heap.size (fun k_ => some k_ ≠ (.slice Ao12 t583.length co12 : Value).ownBlock ∧ some k_ ≠ (.slice Ao23 t602.length co23 : Value).ownBlock) (.slice Ao14 t590.length co14) t590) := ⟨z21_82⟩
    have n3_ : Aside0 (Kd.R (Kd.int .i64) 3 w42 w.heap.size (fun k_ => some k_ ≠ (.slice Ao12 t583.length co12 : Value).ownBlock ∧ some k_ ≠ (.slice Ao14 t590.length co14 : Value).ownBlock) (.slice Ao23 t602.length co23) t602) := ⟨z21_83⟩
    have n4_ : Aside0 (w42.heap[gb593]? = some (.cells #[.int .i64 t579, .int .i64 t580, .int .i64 t581, .int .i64 t582, .slice Ao12 t583.length co12] 65 (0, 0))) := ⟨z21_76⟩
    have n5_ : Aside0 (w42.heap[gb594]? = some (.cells #[.int .i64 t586, .int .i64 t587, .int .i64 t588, .int .i64 t589, .slice Ao14 t590.length co14] 65 (0, 0))) := ⟨z21_77⟩
    have n6_ : Aside0 (w42.heap[gb606]? = some (.cells #[.int .i64 t598, .int .i64 t599, .int .i64 t600, .int .i64 t601, .slice Ao23 t602.length co23] 65 (0, 0))) := ⟨z21_78⟩
    have n7_ : Aside0 (w42.heap[gb608]? = some (.cells #[.int .i64 ((rd_T95 t595 x8_1).f0), .int .i64 ((rd_T95 t595 x8_1).f1), .int .i64 ((rd_T95 t595 x8_1).f2), .int .i64 ((rd_T95 t595 x8_1).f3)] 95 (0, 0))) := ⟨z21_74⟩
    have n8_ : Aside0 (Below w.heap.size w w42) := ⟨(by rw [hw_]; exact z21_75)⟩
    (try clear HO_5); (try clear HO_594004); (try clear HO_595004); (try clear HO_607004); (try clear BK593); (try clear BK594); (try clear BK606); (try clear BK608); (try clear HB); rw [← hw_]; clear hw_; have HO_5 := n0_; have HO_594004 := n1_; have HO_595004 := n2_; have HO_607004 := n3_; have BK593 := n4_; have BK594 := n5_; have BK606 := n6_; have BK608 := n7_; have HB := n8_; clear n0_ n1_ n2_ n3_ n4_ n5_ n6_ n7_ n8_; replace HO_5 := mk0 (Kd.R_drew HO_5.out); replace HO_594004 := mk0 (Kd.R_drew HO_594004.out); replace HO_595004 := mk0 (Kd.R_drew HO_595004.out); replace HO_607004 := mk0 (Kd.R_drew HO_607004.out); replace BK593 := mk0 (blk_drew BK593.out); replace BK594 := mk0 (blk_drew BK594.out); replace BK606 := mk0 (blk_drew BK606.out); replace BK608 := mk0 (blk_drew BK608.out); replace HB := mk0 (below_drew1 HB.out)
    have p609 : 0 ≤ ((ji35) : Int) := of_decide_eq_true (by first | (with_reducible assumption) | assumption)
    have q609 : (ji35) < (t595.length : Int) := of_decide_eq_true (by first | (with_reducible assumption) | assumption)
    obtain ⟨ad609, e609, hx609_0, hx609_1, hx609_2, hx609_3⟩ := at_T95 (Kd.R_reads' HO_5.out).2.2 (ji35) p609 q609
    obtain rfl : ad607 = ad609 := (by injection e609)
    replace p609 := eq_true p609; replace q609 := eq_true q609
    have p610 : 0 ≤ ((ji35) : Int) := of_decide_eq_true (by first | (with_reducible assumption) | assumption)
    have q610 : (ji35) < (t595.length : Int) := of_decide_eq_true (by first | (with_reducible assumption) | assumption)
    obtain ⟨ad610, e610, hx610_0, hx610_1, hx610_2, hx610_3⟩ := at_T95 (Kd.R_reads' HO_5.out).2.2 (ji35) p610 q610
    obtain rfl : ad607 = ad610 := (by injection e610)
    replace p610 := eq_true p610; replace q610 := eq_true q610
    have p611 : 0 ≤ ((ji35) : Int) := of_decide_eq_true (by first | (with_reducible assumption) | assumption)
    have q611 : (ji35) < (t595.length : Int) := of_decide_eq_true (by first | (with_reducible assumption) | assumption)
    obtain ⟨ad611, e611, hx611_0, hx611_1, hx611_2, hx611_3⟩ := at_T95 (Kd.R_reads' HO_5.out).2.2 (ji35) p611 q611
    obtain rfl : ad607 = ad611 := (by injection e611)
    replace p611 := eq_true p611; replace q611 := eq_true q611
    have p612 : 0 ≤ ((ji35) : Int) := of_decide_eq_true (by first | (with_reducible assumption) | assumption)
    have q612 : (ji35) < (t595.length : Int) := of_decide_eq_true (by first | (with_reducible assumption) | assumption)
    obtain ⟨ad612, e612, hx612_0, hx612_1, hx612_2, hx612_3⟩ := at_T95 (Kd.R_reads' HO_5.out).2.2 (ji35) p612 q612
    obtain rfl : ad607 = ad612 := (by injection e612)
    replace p612 := eq_true p612; replace q612 := eq_true q612
    have p613 : 0 ≤ ((ji35) : Int) := of_decide_eq_true (by first | (with_reducible assumption) | assumption)
    have q613 : (ji35) < (t595.length : Int) := of_decide_eq_true (by first | (with_reducible assumption) | assumption)
    obtain ⟨ad613, e613, hx613_0, hx613_1, hx613_2, hx613_3⟩ := at_T95 (Kd.R_reads' HO_5.out).2.2 (ji35) p613 q613
    obtain rfl : ad607 = ad613 := (by injection e613)
    replace p613 := eq_true p613; replace q613 := eq_true q613
    refine start_ (n := 69) (S := fun w' => w'.cell? ⟨gb608, 0, none⟩ = some (.int .i64 ((rd_T95 t595 x8_1).f0)) ∧ w'.cell? ⟨gb608, 1, none⟩ = some (.int .i64 ((rd_T95 t595 x8_1).f1)) ∧ w'.cell? ⟨gb608, 2, none⟩ = some (.int .i64 ((rd_T95 t595 x8_1).f2)) ∧ w'.cell? ⟨gb608, 3, none⟩ = some (.int .i64 ((rd_T95 t595 x8_1).f3)) ∧ w'.cell? (ad607.add (((ji35)).toNat * 4)) = some (.int .i64 ((rd_T95 t595 (ji35)).f0)) ∧ w'.cell? ⟨(ad607.add (((ji35)).toNat * 4)).block, (ad607.add (((ji35)).toNat * 4)).off + 1, none⟩ = some (.int .i64 ((rd_T95 t595 (ji35)).f1)) ∧ w'.cell? ⟨(ad607.add (((ji35)).toNat * 4)).block, (ad607.add (((ji35)).toNat * 4)).off + 2, none⟩ = some (.int .i64 ((rd_T95 t595 (ji35)).f2)) ∧ w'.cell? ⟨(ad607.add (((ji35)).toNat * 4)).block, (ad607.add (((ji35)).toNat * 4)).off + 3, none⟩ = some (.int .i64 ((rd_T95 t595 (ji35)).f3)) ∧ w'.cell? (ad607.add (((ji35)).toNat * 4)) = some (.int .i64 ((rd_T95 t595 (ji35)).f0)) ∧ w'.cell? ⟨(ad607.add (((ji35)).toNat * 4)).block, (ad607.add (((ji35)).toNat * 4)).off + 1, none⟩ = some (.int .i64 ((rd_T95 t595 (ji35)).f1)) ∧ w'.cell? ⟨(ad607.add (((ji35)).toNat * 4)).block, (ad607.add (((ji35)).toNat * 4)).off + 2, none⟩ = some (.int .i64 ((rd_T95 t595 (ji35)).f2)) ∧ w'.cell? ⟨(ad607.add (((ji35)).toNat * 4)).block, (ad607.add (((ji35)).toNat * 4)).off + 3, none⟩ = some (.int .i64 ((rd_T95 t595 (ji35)).f3)) ∧ w'.cell? (ad607.add (((ji35)).toNat * 4)) = some (.int .i64 ((rd_T95 t595 (ji35)).f0)) ∧ w'.cell? ⟨(ad607.add (((ji35)).toNat * 4)).block, (ad607.add (((ji35)).toNat * 4)).off + 1, none⟩ = some (.int .i64 ((rd_T95 t595 (ji35)).f1)) ∧ w'.cell? ⟨(ad607.add (((ji35)).toNat * 4)).block, (ad607.add (((ji35)).toNat * 4)).off + 2, none⟩ = some (.int .i64 ((rd_T95 t595 (ji35)).f2)) ∧ w'.cell? ⟨(ad607.add (((ji35)).toNat * 4)).block, (ad607.add (((ji35)).toNat * 4)).off + 3, none⟩ = some (.int .i64 ((rd_T95 t595 (ji35)).f3)) ∧ w'.cell? (ad607.add (((ji35)).toNat * 4)) = some (.int .i64 ((rd_T95 t595 (ji35)).f0)) ∧ w'.cell? ⟨(ad607.add (((ji35)).toNat * 4)).block, (ad607.add (((ji35)).toNat * 4)).off + 1, none⟩ = some (.int .i64 ((rd_T95 t595 (ji35)).f1)) ∧ w'.cell? ⟨(ad607.add (((ji35)).toNat * 4)).block, (ad607.add (((ji35)).toNat * 4)).off + 2, none⟩ = some (.int .i64 ((rd_T95 t595 (ji35)).f2)) ∧ w'.cell? ⟨(ad607.add (((ji35)).toNat * 4)).block, (ad607.add (((ji35)).toNat * 4)).off + 3, none⟩ = some (.int .i64 ((rd_T95 t595 (ji35)).f3)) ∧ w'.cell? (ad607.add (((ji35)).toNat * 4)) = some (.int .i64 ((rd_T95 t595 (ji35)).f0)) ∧ w'.cell? ⟨(ad607.add (((ji35)).toNat * 4)).block, (ad607.add (((ji35)).toNat * 4)).off + 1, none⟩ = some (.int .i64 ((rd_T95 t595 (ji35)).f1)) ∧ w'.cell? ⟨(ad607.add (((ji35)).toNat * 4)).block, (ad607.add (((ji35)).toNat * 4)).off + 2, none⟩ = some (.int .i64 ((rd_T95 t595 (ji35)).f2)) ∧ w'.cell? ⟨(ad607.add (((ji35)).toNat * 4)).block, (ad607.add (((ji35)).toNat * 4)).off + 3, none⟩ = some (.int .i64 ((rd_T95 t595 (ji35)).f3))) (ds := []) y21_0 (by kernel_rfl) rfl rfl ⟨(blk_cell BK608.out 0).trans rfl, (blk_cell BK608.out 1).trans rfl, (blk_cell BK608.out 2).trans rfl, (blk_cell BK608.out 3).trans rfl, hx609_0, hx609_1, hx609_2, hx609_3, hx610_0, hx610_1, hx610_2, hx610_3, hx611_0, hx611_1, hx611_2, hx611_3, hx612_0, hx612_1, hx612_2, hx612_3, hx613_0, hx613_1, hx613_2, hx613_3⟩ (fun hHeld => ?_); refine with_tabW laws_FnMasks.tab10 laws_FnMasks.bits10 (fun HT_ HW_ => ?_)
    generalize w42.drew = w43 at HO_5 HO_594004 HO_595004 HO_607004 BK593 BK594 BK606 BK608 HB hx609_0 hx609_1 hx609_2 hx609_3 hx610_0 hx610_1 hx610_2 hx610_3 hx611_0 hx611_1 hx611_2 hx611_3 hx612_0 hx612_1 hx612_2 hx612_3 hx613_0 hx613_1 hx613_2 hx613_3 hHeld ⊢
    refine pzx (i := 0) (N := 45) y21_6 HT_ ?_
    refine take_ (i := 1) (N := some 46) (v := ?_) (a' := ?_) y21_8 rfl rfl (take_ofW HT_.out HW_.out (by kernel_rfl)) (fun _ _ _ h => h) (Or.inl ⟨by rfl, ?_⟩) hHeld ?_ ?_
    rotate_left
    ·rintro w' ⟨s0, s1, s2, s3, s4, s5, s6, s7, s8, s9, s10, s11, s12, s13, s14, s15, s16, s17, s18, s19, s20, s21, s22, s23⟩
     go_simp; with_reducible rfl
    rotate_left
    ·exact x21_put
    refine pzx (i := 2) (N := 47) y21_10 HT_ ?_; refine pzx (i := 3) (N := 48) y21_16 HT_ ?_; refine pzx (i := 4) (N := 49) y21_19 HT_ ?_; refine pzx (i := 6) (N := 51) y21_20 HT_ ?_
    refine take_ (i := 5) (N := some 50) (v := ?_) (a' := ?_) y21_21 rfl rfl (take_ofW HT_.out HW_.out (by kernel_rfl)) (fun _ _ _ h => h) (Or.inl ⟨by rfl, ?_⟩) hHeld ?_ ?_
    rotate_left
    ·rintro w' ⟨s0, s1, s2, s3, s4, s5, s6, s7, s8, s9, s10, s11, s12, s13, s14, s15, s16, s17, s18, s19, s20, s21, s22, s23⟩
     go_simp; with_reducible rfl
    rotate_left
    ·exact x21_put
    refine take_ (i := 7) (N := some 52) (v := ?_) (a' := ?_) y21_24 rfl rfl (take_ofW HT_.out HW_.out (by kernel_rfl)) (fun _ _ _ h => h) (Or.inl ⟨by rfl, ?_⟩) hHeld ?_ ?_
    rotate_left
    ·rintro w' ⟨s0, s1, s2, s3, s4, s5, s6, s7, s8, s9, s10, s11, s12, s13, s14, s15, s16, s17, s18, s19, s20, s21, s22, s23⟩
     go_simp; with_reducible rfl
    rotate_left
    ·exact x21_put
    refine pzx (i := 8) (N := 53) y21_26 HT_ ?_; refine pzx (i := 9) (N := 54) y21_27 HT_ ?_; refine pzx (i := 10) (N := 55) y21_28 HT_ ?_; refine pzx (i := 11) (N := 56) y21_29 HT_ ?_; refine pzx (i := 12) (N := 57) y21_30 HT_ ?_; refine pzx (i := 13) (N := 58) y21_31 HT_ ?_; refine pzx (i := 14) (N := 59) y21_32 HT_ ?_; refine pzx (i := 15) (N := 60) y21_33 HT_ ?_; refine pzx (i := 16) (N := 61) y21_34 HT_ ?_; refine pzx (i := 17) (N := 62) y21_35 HT_ ?_; refine pzx (i := 18) (N := 63) y21_36 HT_ ?_; refine pzx (i := 20) (N := 65) y21_37 HT_ ?_
    refine take_ (i := 19) (N := some 64) (v := ?_) (a' := ?_) y21_39 rfl rfl (take_ofW HT_.out HW_.out (by kernel_rfl)) (fun _ _ _ h => h) (Or.inl ⟨by rfl, ?_⟩) hHeld ?_ ?_
    rotate_left
    ·rintro w' ⟨s0, s1, s2, s3, s4, s5, s6, s7, s8, s9, s10, s11, s12, s13, s14, s15, s16, s17, s18, s19, s20, s21, s22, s23⟩
     go_simp; with_reducible rfl
    rotate_left
    ·exact x21_put
    refine take_ (i := 21) (N := some 66) (v := ?_) (a' := ?_) y21_40 rfl rfl (take_ofW HT_.out HW_.out (by kernel_rfl)) (fun _ _ _ h => h) (Or.inl ⟨by rfl, ?_⟩) hHeld ?_ ?_
    rotate_left
    ·rintro w' ⟨s0, s1, s2, s3, s4, s5, s6, s7, s8, s9, s10, s11, s12, s13, s14, s15, s16, s17, s18, s19, s20, s21, s22, s23⟩
     go_simp; with_reducible rfl
    rotate_left
    ·exact x21_put
    refine pzx (i := 22) (N := 67) y21_41 HT_ ?_; refine pzx (i := 23) (N := 68) y21_42 HT_ ?_; refine pzx (i := 24) (N := 69) y21_43 HT_ ?_; refine pzx (i := 25) (N := 70) y21_44 HT_ ?_; refine pzx (i := 26) (N := 71) y21_45 HT_ ?_; refine pzx (i := 27) (N := 72) y21_46 HT_ ?_; refine pzx (i := 28) (N := 73) y21_47 HT_ ?_; refine pzx (i := 30) (N := 75) y21_48 HT_ ?_
    refine take_ (i := 29) (N := some 74) (v := ?_) (a' := ?_) y21_50 rfl rfl (take_ofW HT_.out HW_.out (by kernel_rfl)) (fun _ _ _ h => h) (Or.inl ⟨by rfl, ?_⟩) hHeld ?_ ?_
    rotate_left
    ·rintro w' ⟨s0, s1, s2, s3, s4, s5, s6, s7, s8, s9, s10, s11, s12, s13, s14, s15, s16, s17, s18, s19, s20, s21, s22, s23⟩
     go_simp; with_reducible rfl
    rotate_left
    ·exact x21_put
    refine take_ (i := 31) (N := some 76) (v := ?_) (a' := ?_) y21_51 rfl rfl (take_ofW HT_.out HW_.out (by kernel_rfl)) (fun _ _ _ h => h) (Or.inl ⟨by rfl, ?_⟩) hHeld ?_ ?_
    rotate_left
    ·rintro w' ⟨s0, s1, s2, s3, s4, s5, s6, s7, s8, s9, s10, s11, s12, s13, s14, s15, s16, s17, s18, s19, s20, s21, s22, s23⟩
     go_simp; with_reducible rfl
    rotate_left
    ·exact x21_put
    refine pzx (i := 32) (N := 77) y21_52 HT_ ?_; refine pzx (i := 33) (N := 78) y21_53 HT_ ?_; refine pzx (i := 34) (N := 79) y21_54 HT_ ?_; refine pzx (i := 35) (N := 80) y21_55 HT_ ?_; refine pzx (i := 36) (N := 81) y21_56 HT_ ?_; refine pzx (i := 37) (N := 82) y21_57 HT_ ?_; refine pzx (i := 38) (N := 83) y21_58 HT_ ?_; refine pzx (i := 40) (N := 85) y21_59 HT_ ?_
    refine take_ (i := 39) (N := some 84) (v := ?_) (a' := ?_) y21_61 rfl rfl (take_ofW HT_.out HW_.out (by kernel_rfl)) (fun _ _ _ h => h) (Or.inl ⟨by rfl, ?_⟩) hHeld ?_ ?_
    rotate_left
    ·rintro w' ⟨s0, s1, s2, s3, s4, s5, s6, s7, s8, s9, s10, s11, s12, s13, s14, s15, s16, s17, s18, s19, s20, s21, s22, s23⟩
     go_simp; with_reducible rfl
    rotate_left
    ·exact x21_put
    refine take_ (i := 41) (N := some 86) (v := ?_) (a' := ?_) y21_62 rfl rfl (take_ofW HT_.out HW_.out (by kernel_rfl)) (fun _ _ _ h => h) (Or.inl ⟨by rfl, ?_⟩) hHeld ?_ ?_
    rotate_left
    ·rintro w' ⟨s0, s1, s2, s3, s4, s5, s6, s7, s8, s9, s10, s11, s12, s13, s14, s15, s16, s17, s18, s19, s20, s21, s22, s23⟩
     go_simp; with_reducible rfl
    rotate_left
    ·exact x21_put
    refine pzx (i := 42) (N := 87) y21_63 HT_ ?_; refine pzx (i := 43) (N := 88) y21_64 HT_ ?_; refine pzx (i := 44) (N := 89) y21_65 HT_ ?_; refine pzx (i := 45) (N := 90) y21_66 HT_ ?_; refine pzx (i := 46) (N := 91) y21_67 HT_ ?_; refine pzx (i := 47) (N := 92) y21_68 HT_ ?_; refine pzx (i := 48) (N := 93) y21_69 HT_ ?_; refine pzx (i := 50) (N := 95) y21_70 HT_ ?_
    refine take_ (i := 49) (N := some 94) (v := ?_) (a' := ?_) y21_72 rfl rfl (take_ofW HT_.out HW_.out (by kernel_rfl)) (fun _ _ _ h => h) (Or.inl ⟨by rfl, ?_⟩) hHeld ?_ ?_
    rotate_left
    ·rintro w' ⟨s0, s1, s2, s3, s4, s5, s6, s7, s8, s9, s10, s11, s12, s13, s14, s15, s16, s17, s18, s19, s20, s21, s22, s23⟩
     go_simp; with_reducible rfl
    rotate_left
    ·exact x21_put
    refine take_ (i := 51) (N := some 96) (v := ?_) (a' := ?_) y21_73 rfl rfl (take_ofW HT_.out HW_.out (by kernel_rfl)) (fun _ _ _ h => h) (Or.inl ⟨by rfl, ?_⟩) hHeld ?_ ?_
    rotate_left
    ·rintro w' ⟨s0, s1, s2, s3, s4, s5, s6, s7, s8, s9, s10, s11, s12, s13, s14, s15, s16, s17, s18, s19, s20, s21, s22, s23⟩
     go_simp; with_reducible rfl
    rotate_left
    ·exact x21_put
    refine pzx (i := 52) (N := 97) y21_74 HT_ ?_; refine pzx (i := 53) (N := 98) y21_75 HT_ ?_; refine pzx (i := 54) (N := 99) y21_76 HT_ ?_; refine pzx (i := 55) (N := 100) y21_77 HT_ ?_; refine pzx (i := 56) (N := 101) y21_78 HT_ ?_; refine pzx (i := 57) (N := 102) y21_79 HT_ ?_; refine pzx (i := 58) (N := 103) y21_80 HT_ ?_; refine pzx (i := 60) (N := 105) (bA 69 1729382256910270463) HT_ ?_
    refine take_ (i := 59) (N := some 104) (v := ?_) (a' := ?_) y21_83 rfl rfl (take_ofW HT_.out HW_.out (by kernel_rfl)) (fun _ _ _ h => h) (Or.inl ⟨by rfl, ?_⟩) hHeld ?_ ?_
    rotate_left
    ·rintro w' ⟨s0, s1, s2, s3, s4, s5, s6, s7, s8, s9, s10, s11, s12, s13, s14, s15, s16, s17, s18, s19, s20, s21, s22, s23⟩
     go_simp; with_reducible rfl
    rotate_left
    ·exact x21_put
    refine take_ (i := 61) (N := some 106) (v := ?_) (a' := ?_) y21_84 rfl rfl (take_ofW HT_.out HW_.out (by kernel_rfl)) (fun _ _ _ h => h) (Or.inl ⟨by rfl, ?_⟩) hHeld ?_ ?_
    rotate_left
    ·rintro w' ⟨s0, s1, s2, s3, s4, s5, s6, s7, s8, s9, s10, s11, s12, s13, s14, s15, s16, s17, s18, s19, s20, s21, s22, s23⟩
     go_simp; with_reducible rfl
    rotate_left
    ·exact x21_put
    refine pzx (i := 62) (N := 107) y21_85 HT_ ?_; refine pzx (i := 63) (N := 108) y21_86 HT_ ?_; refine pzx (i := 64) (N := 109) y21_87 HT_ ?_; refine pzx (i := 65) (N := 110) y21_88 HT_ ?_; refine pzx (i := 66) (N := 111) y21_89 HT_ ?_; refine pzx (i := 67) (N := 112) y21_90 HT_ ?_; refine pzx (i := 68) (N := 113) y21_91 HT_ ?_
    refine done_ (done_of HT_.out (by kernel_rfl)) ?_
    try go_wp2
    go_meet
    case rel => exact ⟨_, ((((rd_T95 t595 (ji35)).f3) == ((rd_T95 t595 x8_1).f3))), (by first | rfl | (simp; done) | (simp only [← hji35] <;> (first | rfl | simp)) | (simp [*]; done)), H', ⟨(by have := HK1.out; first | omega | exact Nat.le_refl _)⟩, ⟨pkR HO_5⟩, ⟨pkR HO_594004⟩, ⟨pkR HO_595004⟩, ⟨pkR HO_607004⟩, ⟨pkb BK593⟩, ⟨pkb BK594⟩, ⟨pkb BK606⟩, ⟨pkb BK608⟩, ⟨z21_75⟩⟩
   case rest =>
    clear HC26; try clear p2
    obtain ⟨kq, x113_25, rfl, HA, HJ25, HO_5, HO_594004, HO_595004, HO_607004, BK593, BK594, BK606, BK608, HB⟩ := hcut
    cases kq with
    | zero => exact absurd HA.out (by simp [laws_FnMasks.j1])
    | succ kj25 =>
     have H := HA.out; clear HA; simp only [laws_FnMasks.j1] at H
     by_cases c50 : x113_25 = true
     ·subst c50; rw [if_pos rfl] at H
      obtain rfl := Option.some.inj H
      exact absurd hT Bool.false_ne_true
     replace c50 := Bool.eq_false_iff.mpr c50; subst c50; rw [if_neg (show ¬ (false = true) by decide)] at H
     have H' := mk0 H
     clear H; have hnb51 := NB608_593.out; have hnc51 := NB593_608.out; have hnb52 := NB608_594.out; have hnc52 := NB594_608.out; have hnb53 := NB608_606.out; have hnc53 := NB606_608.out; obtain ⟨_, _, _, _, _, _, _, _⟩ := be_4 BK608.out
     go_wp2
     go_loopg [10] kj25 (fun kq v10 w' => ∃ (x10_3 : Int), v10 = .int .i64 x10_3 ∧ Aside0 (laws_FnMasks.l1 kq l0 t595 t605 x8_1 x10_3 t579 t580 t581 t582 t583 t598 t599 t600 t601 t602 ((rd_T95 t595 x8_1).f0) ((rd_T95 t595 x8_1).f1) ((rd_T95 t595 x8_1).f2) ((rd_T95 t595 x8_1).f3) = some r) ∧ Aside0 (kq ≤ kj25) ∧ Aside0 (Kd.R k95 95 w' w.heap.size (fun k_ => k_ ≠ gb608) (.slice (some ad607) t595.length co17) t595) ∧ Aside0 (Kd.R (Kd.int .i64) 3 w' w.heap.size (fun k_ => some k_ ≠ ((.slice Ao14 t590.length co14) : Value).ownBlock ∧ some k_ ≠ ((.slice Ao23 t602.length co23) : Value).ownBlock) (.slice Ao12 t583.length co12) t583) ∧ Aside0 (Kd.R (Kd.int .i64) 3 w' w.heap.size (fun k_ => some k_ ≠ ((.slice Ao12 t583.length co12) : Value).ownBlock ∧ some k_ ≠ ((.slice Ao23 t602.length co23) : Value).ownBlock) (.slice Ao14 t590.length co14) t590) ∧ Aside0 (Kd.R (Kd.int .i64) 3 w' w.heap.size (fun k_ => some k_ ≠ ((.slice Ao12 t583.length co12) : Value).ownBlock ∧ some k_ ≠ ((.slice Ao14 t590.length co14) : Value).ownBlock) (.slice Ao23 t602.length co23) t602) ∧ Aside0 (w'.heap[gb593]? = some (.cells #[.int .i64 t579, .int .i64 t580, .int .i64 t581, .int .i64 t582, (.slice Ao12 t583.length co12)] 65 (0, 0))) ∧ Aside0 (w'.heap[gb594]? = some (.cells #[.int .i64 t586, .int .i64 t587, .int .i64 t588, .int .i64 t589, (.slice Ao14 t590.length co14)] 65 (0, 0))) ∧ Aside0 (w'.heap[gb606]? = some (.cells #[.int .i64 t598, .int .i64 t599, .int .i64 t600, .int .i64 t601, (.slice Ao23 t602.length co23)] 65 (0, 0))) ∧ Aside0 (w'.heap[gb608]? = some (.cells #[.int .i64 ((rd_T95 t595 x8_1).f0), .int .i64 ((rd_T95 t595 x8_1).f1), .int .i64 ((rd_T95 t595 x8_1).f2), .int .i64 ((rd_T95 t595 x8_1).f3)] 95 (0, 0))) ∧ Aside0 (Below w.heap.size w w'))
     case atStart => exact ⟨(((rd_T95 t595 x8_1).f1)), rs0, H', ⟨Nat.le_refl _⟩, ⟨pkR HO_5⟩, ⟨pkR HO_594004⟩, ⟨pkR HO_595004⟩, ⟨pkR HO_607004⟩, ⟨pkb BK593⟩, ⟨pkb BK594⟩, ⟨pkb BK606⟩, ⟨pkb BK608⟩, ⟨z21_75⟩⟩
     case round =>
      clear H'; (try clear c50); obtain ⟨x10_3, rfl, HA, HK3, HO_5, HO_594004, HO_595004, HO_607004, BK593, BK594, BK606, BK608, HB⟩ := hrel
      cases gk with
      | zero => exact absurd HA.out (by simp [laws_FnMasks.l1])
      | succ k3 =>
       have H := HA.out; clear HA; simp only [laws_FnMasks.l1] at H
       by_cases c55 : x10_3 < ((rd_T95 t595 x8_1).f2)
       rotate_left
       ·rw [if_neg c55] at H; have c55b0 := decide_eq_false c55; clear c55
        have H' := mk0 H
        clear H; have hnb64 := NB608_593.out; have hnc64 := NB593_608.out; have hnb65 := NB608_594.out; have hnc65 := NB594_608.out; have hnb66 := NB608_606.out; have hnc66 := NB606_608.out; obtain ⟨_, _, _, _, _, _, _, _⟩ := be_4 BK608.out
        go_wp2
        go_roundg k3
        case measure => have := HK1.out; have := HJ25.out; have := HK3.out; omega
        case rel => exact ⟨(wrap64 (x8_1 + 1)), rs0, H', ⟨(by have := HK1.out; have := HJ25.out; have := HK3.out; omega)⟩, ⟨(by (with_reducible repeat (first | apply Kd.R_alloc | apply Kd.R_drewN | apply Kd.R_drew)); exact Kd.R_mono HO_5.out (fun _ hk => trivial))⟩, ⟨pkR HO_594004⟩, ⟨pkR HO_595004⟩, ⟨pkR HO_607004⟩, ⟨pkb BK593⟩, ⟨pkb BK594⟩, ⟨pkb BK606⟩, ⟨z21_75⟩⟩
       rw [if_pos c55] at H; have c55b0 := decide_eq_true c55; clear c55; obtain ⟨t614, A56, H⟩ := bnd H
       try dsimp only at H
       by_cases c57 : t614 = ((rd_T95 t595 x8_1).f3)
       rotate_left
       ·rw [if_neg c57] at H
        have c57b0 : (t614 == ((rd_T95 t595 x8_1).f3)) = false := beq_eq_false_iff_ne.mpr c57
        have c57b1 : (t614 != ((rd_T95 t595 x8_1).f3)) = true := bne_iff_ne.mpr c57
        obtain rfl := Option.some.inj H
        exact absurd hT Bool.false_ne_true
       rw [if_pos c57] at H
       have c57b0 : (t614 == ((rd_T95 t595 x8_1).f3)) = true := beq_iff_eq.mpr c57
       have c57b1 : (t614 != ((rd_T95 t595 x8_1).f3)) = false := bne_eq_false_iff_eq.mpr c57
       clear c57
       have H' := mk0 H
       clear H; have hnb58 := NB608_593.out; have hnc58 := NB593_608.out; have hnb59 := NB608_594.out; have hnc59 := NB594_608.out; have hnb60 := NB608_606.out; have hnc60 := NB606_608.out; obtain ⟨_, _, _, _, _, _, _, _⟩ := be_4 BK608.out
       try go_wp2
       replace HO_5 := mk0 (Kd.R_drew HO_5.out); replace HO_594004 := mk0 (Kd.R_drew HO_594004.out); replace HO_595004 := mk0 (Kd.R_drew HO_595004.out); replace HO_607004 := mk0 (Kd.R_drew HO_607004.out); replace BK593 := mk0 (blk_drew BK593.out); replace BK594 := mk0 (blk_drew BK594.out); replace BK606 := mk0 (blk_drew BK606.out); replace BK608 := mk0 (blk_drew BK608.out); replace HB := mk0 (below_drew1 HB.out)
       refine start_ (n := 8) (S := fun w' => w'.cell? ⟨gb593, 0, none⟩ = some (.int .i64 t579) ∧ w'.cell? ⟨gb593, 1, none⟩ = some (.int .i64 t580) ∧ w'.cell? ⟨gb593, 2, none⟩ = some (.int .i64 t581) ∧ w'.cell? ⟨gb593, 3, none⟩ = some (.int .i64 t582) ∧ w'.cell? ⟨gb593, 4, none⟩ = some (.slice Ao12 t583.length co12) ∧ w'.cell? ⟨gb608, 0, none⟩ = some (.int .i64 ((rd_T95 t595 x8_1).f0)) ∧ w'.cell? ⟨gb608, 1, none⟩ = some (.int .i64 ((rd_T95 t595 x8_1).f1)) ∧ w'.cell? ⟨gb608, 2, none⟩ = some (.int .i64 ((rd_T95 t595 x8_1).f2)) ∧ w'.cell? ⟨gb608, 3, none⟩ = some (.int .i64 ((rd_T95 t595 x8_1).f3))) (ds := []) #[false, false, false, false, false, false, false, false] (by kernel_rfl) rfl rfl ⟨(blk_cell BK593.out 0).trans rfl, (blk_cell BK593.out 1).trans rfl, (blk_cell BK593.out 2).trans rfl, (blk_cell BK593.out 3).trans rfl, (blk_cell BK593.out 4).trans rfl, (blk_cell BK608.out 0).trans rfl, (blk_cell BK608.out 1).trans rfl, (blk_cell BK608.out 2).trans rfl, (blk_cell BK608.out 3).trans rfl⟩ (fun hHeld => ?_); refine with_tabW laws_FnMasks.tab15 laws_FnMasks.bits15 (fun HT_ HW_ => ?_)
       generalize wr.drew = w62 at HO_5 HO_594004 HO_595004 HO_607004 BK593 BK594 BK606 BK608 HB hHeld ⊢
       refine pzx (i := 1) (N := 123) (bA 8 2) HT_ ?_; refine pzx (i := 2) (N := 124) (bA 8 6) HT_ ?_; refine pzx (i := 5) (N := 127) (bA 8 38) HT_ ?_
       refine take_ (i := 0) (N := some 122) (v := ?_) (a' := ?_) (bA 8 39) rfl rfl (take_ofW HT_.out HW_.out (by kernel_rfl)) (fun _ _ _ h => h) (Or.inl ⟨by rfl, ?_⟩) hHeld ?_ ?_
       rotate_left
       ·rintro w' ⟨s0, s1, s2, s3, s4, s5, s6, s7, s8⟩
        go_simp; with_reducible rfl
       rotate_left
       ·exact x21_put
       refine take_ (i := 3) (N := some 125) (v := ?_) (a' := ?_) (bA 8 47) rfl rfl (take_ofW HT_.out HW_.out (by kernel_rfl)) (fun _ _ _ h => h) (Or.inl ⟨by rfl, ?_⟩) hHeld ?_ ?_
       rotate_left
       ·rintro w' ⟨s0, s1, s2, s3, s4, s5, s6, s7, s8⟩
        go_simp; with_reducible rfl
       rotate_left
       ·exact x21_put
       refine take_ (i := 6) (N := some 128) (v := ?_) (a' := ?_) (bA 8 111) rfl rfl (take_ofW HT_.out HW_.out (by kernel_rfl)) (fun _ _ _ h => h) (Or.inl ⟨by rfl, ?_⟩) hHeld ?_ ?_
       rotate_left
       ·rintro w' ⟨s0, s1, s2, s3, s4, s5, s6, s7, s8⟩
        go_simp; with_reducible rfl
       rotate_left
       ·exact x21_put
       refine one_ (i := 4) (N := some 126) (bA 8 127) rfl rfl (one_of HT_.out (by kernel_rfl)) (by decide) (fun K hK => ?_)
       refine goes_ Try.func30 (by kernel_rfl) rfl #[.agg #[.int .i64 t579, .int .i64 t580, .int .i64 t581, .int .i64 t582, .slice Ao12 t583.length co12], .int .i64 x10_3, .int .i64 ((rd_T95 t595 x8_1).f0)] (by rfl) rfl rfl q_0 ?_
       with_reducible refine (impl_BitsAt.calls k3 t579 t580 t581 t582 _ _ t583 x10_3 ((rd_T95 t595 x8_1).f0) t614 _ ?side1 ?side2 A56.out).mono ?_
       (case side1 => exact z21_102)
       (case side2 => exact (Kd.R_reads' HO_594004.out).2.1)
       rintro e w63 ⟨rfl, hb⟩
       refine ⟨_, rfl, ?_⟩
       replace HO_5 := bR HO_5 hb; replace HO_594004 := bR HO_594004 hb; replace HO_595004 := bR HO_595004 hb; replace HO_607004 := bR HO_607004 hb; replace BK593 := bB BK593 hb; replace BK594 := bB BK594 hb; replace BK606 := bB BK606 hb; replace BK608 := bB BK608 hb; replace HB := bS z21_75 hb; (try clear hb); (try clear hb2); (try clear hk); (try clear hi); refine hK.out _ _ ⟨(blk_cell BK593.out 0).trans rfl, (blk_cell BK593.out 1).trans rfl, (blk_cell BK593.out 2).trans rfl, (blk_cell BK593.out 3).trans rfl, (blk_cell BK593.out 4).trans rfl, (blk_cell BK608.out 0).trans rfl, (blk_cell BK608.out 1).trans rfl, (blk_cell BK608.out 2).trans rfl, (blk_cell BK608.out 3).trans rfl⟩ (fun hHeld => ?_); clear hK K
       refine norm_ (a' := ?_) ?_ ?_
       rotate_left
       ·show Act.put _ (some 126) _ = _
        simp only [Act.put, List.setIfInBounds_toArray, List.set_cons_zero, List.set_cons_succ, i64_w, i32_w]
        rfl
       refine pzx (i := 7) (N := 129) (bA 8 255) HT_ ?_
       refine done_ (done_of HT_.out (by kernel_rfl)) ?_
       try go_wp2
       go_roundg k3
       case measure => have := HK1.out; have := HJ25.out; have := HK3.out; omega
       case rel => exact ⟨(wrap64 (x10_3 + 1)), rs0, H', ⟨(by have := HK1.out; have := HJ25.out; have := HK3.out; omega)⟩, ⟨pkR HO_5⟩, ⟨pkR HO_594004⟩, ⟨pkR HO_595004⟩, ⟨pkR HO_607004⟩, ⟨pkb BK593⟩, ⟨pkb BK594⟩, ⟨pkb BK606⟩, ⟨pkb BK608⟩, ⟨z21_75⟩⟩

/-- THE ONE PURE STATEMENT of laws_FnMasks: yours. -/
def laws_FnMasks.Pure : Prop := ∀ (l0 : List Int), l0.length ≤ maxLen → l0.length * 1 ≤ 140737488351232 → (∀ x ∈ l0, (Lit.int .u8 x).wf = true) → ∃ k, laws_FnMasks.f k l0 = some true
theorem laws_FnMasks.walk (P : laws_FnMasks.Pure) (a0 : Option Addr) (len0 cap0 : Nat) (z0 : List Int) (w : World) (w0 : (a0 = none ∧ len0 = 0 ∧ cap0 = 0 ∧ z0 = []) ∨ ∃ x, a0 = some x ∧ len0 ≤ cap0 ∧ cap0 ≤ maxLen ∧ z0.length = cap0 ∧ (∀ i, i < z0.length → w.cell? (x.add i) = some (.int .u8 (z0.getD i 0))) ∧ ∀ n ∈ z0, (Lit.int .u8 n).wf = true) (y0 : len0 * 1 ≤ 140737488351232) :
  Calls Try.prog 8 #[.slice a0 len0 cap0] w fun e w' => e = .returned (.bool true) ∧ Below w.heap.size w w' := by
 obtain ⟨l0, rfl, hr0, hm0, hw0, hc0⟩ := ReadsInt.ofRowC w0; obtain ⟨k, h⟩ := P l0 hm0 y0 hw0
 refine (laws_FnMasks.calls k _ _ l0 true w (Kd.C_of_reads (d := (0 : Int)) (h1 := fun _ => rfl) hr0) hc0 rfl h).mono ?_
 rintro e w' ⟨rfl, hd⟩
 exact ⟨rfl, hd⟩

end Go.Proofs.Ytghbenapnhcllaa.MFnMasks
