/- Functions of the program as Lean functions, and the proof that a call comes to just these: machine text of this session's own program (myprint.py). -/
import Derived.Test.YtdpnimngndemiaaMFnFlatsx0
import Derived.Test.YtdpnimngndemiaaMFnFlatsx1
import Derived.Test.YtdpnimngndemiaaMFnFlatsx5
import Derived.Test.YtdpnimngndemiaaMFnFlatsx9
import Derived.Test.YtdpnimngndemiaaMFnFlatsx10
import Derived.Test.YtdpnimngndemiaaMFnFlatsx12
import Derived.Test.YtdpnimngndemiaaMFnFlatsx13
namespace Go.Proofs.Ytdpnimngndemiaa.MFnFlats
open Go.RowKit Go.Proofs.YtdpnimngndemiaaW.PrintWords Go.Proofs.YtdpnimngndemiaaW.PrintLast Go.Proofs.YtdpnimngndemiaaW.PrintMore
attribute [local go_sem] max2_int min2_int max_two min_two max_three min_three max_four min_four   -- for this text's walks alone
set_option linter.unusedVariables false
set_option linter.unusedSimpArgs false

attribute [local go_sem high] eqA46
def y14_0 : Array Bool := (bA 21 0)
def y14_1 : Array Bool := (bA 17 0)
def y14_7 : Array Bool := (bA 21 1)
def y14_8 : Array Bool := (bA 17 1)
def y14_9 : Array Bool := (bA 21 5)
def y14_10 : Array Bool := (bA 17 3)
def y14_11 : Array Bool := (bA 21 7)
def y14_12 : Array Bool := (bA 17 7)
def y14_13 : Array Bool := (bA 21 15)
def y14_14 : Array Bool := (bA 17 15)
def y14_16 : Array Bool := (bA 21 31)
def y14_17 : Array Bool := (bA 17 31)
def y14_18 : Array Bool := (bA 21 63)
def y14_19 : Array Bool := (bA 17 63)
def y14_21 : Array Bool := (bA 21 127)
def y14_22 : Array Bool := (bA 17 127)
def y14_23 : Array Bool := (bA 17 1151)
def y14_25 : Array Bool := (bA 21 255)
def y14_26 : Array Bool := (bA 17 1279)
def y14_28 : Array Bool := (bA 21 511)
def y14_29 : Array Bool := (bA 17 1535)
def y14_31 : Array Bool := (bA 21 1023)
def y14_32 : Array Bool := (bA 21 2047)
def y14_33 : Array Bool := (bA 17 2047)
def y14_34 : Array Bool := (bA 21 4095)
def y14_35 : Array Bool := (bA 17 4095)
def y14_42 : Array Bool := (bA 17 8191)
def y14_44 : Array Bool := (bA 17 16383)
def y14_46 : Array Bool := (bA 17 32767)
def y14_48 : Array Bool := (bA 17 65535)
def y14_50 : Array Bool := (bA 21 262143)
def y14_51 : Array Bool := (bA 21 524287)
def y14_52 : Array Bool := (bA 21 1048575)
def y14_53 : Array Bool := (bA 21 2097151)
def y14_54 : Array Bool := (bA 17 131071)
theorem x14_put {P : Prop} (h : P := by simp only [Act.put, List.setIfInBounds_toArray, List.set_cons_zero, List.set_cons_succ, i64_w, i32_w]; rfl) : P := h
theorem z14_36 {P : Prop} (h : P := by repeat (first | (with_reducible first | exact HB.out | apply below_alloc | apply pw_below_drewN | apply below_drew1 | refine below_set ?_ GE482.out | refine below_set ?_ GE490.out) | exact HB.out)) : P := h
theorem z14_37 {P : Prop} (h : P := by repeat (first | (with_reducible first | exact HB.out | apply below_alloc | apply pw_below_drewN | apply below_drew1 | refine below_set ?_ GE482.out) | exact HB.out)) : P := h
theorem z14_38 {P : Prop} (h : P := by (try simp only [List.map_toArray, List.map_cons, List.map_nil]); first | done | rfl | (simp only [List.length_drop, List.length_take]; rfl)) : P := h
theorem z14_39 {P : Prop} (h : P := by (with_reducible repeat (first | apply Kd.R_alloc | apply Kd.R_drewN | apply Kd.R_drew)); exact (Kd.R_mono (Kd.R_far (p := ⟨gb490, 3, none⟩) (Kd.R_far (p := ⟨gb490, 2, none⟩) (Kd.R_far (p := ⟨gb490, 1, none⟩) (Kd.R_far (p := ⟨gb490, 0, none⟩) (Kd.R_types HO481.out BK490.out (by decide)) (fun _ hk => hk.2) (.int .i64 t486)) (fun _ hk => hk.2) (.int .i64 t487)) (fun _ hk => hk.2) (.int .i64 t488)) (fun _ hk => hk.2) (.int .i64 t489)) (fun _ h_ => h_.1))) : P := h
theorem z14_40 {P : Prop} (h : P := by repeat (first | (with_reducible first | exact HB.out | apply below_alloc | apply pw_below_drewN | apply below_drew1) | exact HB.out)) : P := h
theorem z14_41 {P : Prop} (h : P := by (with_reducible repeat (first | apply Kd.R_alloc | apply Kd.R_drewN | apply Kd.R_drew)); exact (Kd.R_mono (Kd.R_far (p := ⟨gb490, 3, none⟩) (Kd.R_far (p := ⟨gb490, 2, none⟩) (Kd.R_far (p := ⟨gb490, 1, none⟩) (Kd.R_far (p := ⟨gb490, 0, none⟩) (Kd.R_types HO478.out BK490.out (by decide)) (fun _ hk => hk.2) (.int .i64 t486)) (fun _ hk => hk.2) (.int .i64 t487)) (fun _ hk => hk.2) (.int .i64 t488)) (fun _ hk => hk.2) (.int .i64 t489)) (fun _ h_ => h_.1))) : P := h
theorem z14_42 {P : Prop} (h : P := by (with_reducible repeat (first | apply Kd.S_alloc | apply Kd.S_drewN | apply Kd.S_drew)); exact (Kd.S_mono (Kd.S_far (p := ⟨gb490, 3, none⟩) (Kd.S_far (p := ⟨gb490, 2, none⟩) (Kd.S_far (p := ⟨gb490, 1, none⟩) (Kd.S_far (p := ⟨gb490, 0, none⟩) (Kd.S_types HO485.out BK490.out (by decide)) (fun _ hk => hk.2) (.int .i64 t486)) (fun _ hk => hk.2) (.int .i64 t487)) (fun _ hk => hk.2) (.int .i64 t488)) (fun _ hk => hk.2) (.int .i64 t489)) (fun _ h_ => h_.1))) : P := h
theorem z14_43 {P : Prop} (h : P := by repeat (first | exact HR0.out | (with_reducible refine Kd.C_alloc ?_ _) | (with_reducible refine Kd.C_drewN ?_ _) | (with_reducible refine Kd.C_drew ?_))) : P := h
theorem z14_44 {P : Prop} (h : P := by repeat (first | (with_reducible exact HR507_0.out) | (with_reducible refine Kd.C_alloc ?_ _) | (with_reducible refine Kd.C_drewN ?_ _) | (with_reducible refine Kd.C_drew ?_) | exact HR507_0.out)) : P := h
theorem z14_45 {P : Prop} (h : P := by repeat (first | (with_reducible exact HR496_0.out) | (with_reducible refine Kd.C_alloc ?_ _) | (with_reducible refine Kd.C_drewN ?_ _) | (with_reducible refine Kd.C_drew ?_) | exact HR496_0.out)) : P := h
theorem z14_46 {P : Prop} (h : P := by repeat (first | exact (Kd.R_reads' HO478.out).2.2 | (with_reducible refine Kd.C_alloc ?_ _) | (with_reducible refine Kd.C_drewN ?_ _) | (with_reducible refine Kd.C_drew ?_))) : P := h
theorem z14_47 {P : Prop} (h : P := by first | exact q506 | exact of_decide_eq_true (by first | (with_reducible assumption) | assumption) | (have e_ := (Kd.S_reads' HO_4.out).1; omega)) : P := h
theorem z14_48 {P : Prop} (h : P := by first | exact q496 | exact of_decide_eq_true (by first | (with_reducible assumption) | assumption) | (have e_ := (Kd.S_reads' HO_4.out).1; omega)) : P := h
/-! ### laws_FnFlats: function 4 -/
mutual
def laws_FnFlats.j0 : Nat → List (List (S46)) → Bool → List Int → List (S46) → Int → Int → Int → Int → Option (Bool)
 | 0, _, _, _, _, _, _, _, _ => none
 | k + 1, x4, x28, x483000, x483001, x491000, x491001, x491002, x491003 => if x28 = true then (some false) else (laws_FnFlats.l0 k x4 0 0 x483000 x483001 x491000 x491001 x491002 x491003)
def laws_FnFlats.l0 : Nat → List (List (S46)) → Int → Int → List Int → List (S46) → Int → Int → Int → Int → Option (Bool)
 | 0, _, _, _, _, _, _, _, _, _ => none
 | k + 1, x4, x6, x7, x483000, x483001, x491000, x491001, x491002, x491003 => if x7 < (x483000.length : Int) then (if 0 ≤ x7 then (if (rd x483000 x7) = 1 then (laws_FnFlats.l0 k x4 (wrap64 (x6 + 1)) (wrap64 (x7 + 1)) x483000 x483001 x491000 x491001 x491002 x491003) else (laws_FnFlats.l0 k x4 x6 (wrap64 (x7 + 1)) x483000 x483001 x491000 x491001 x491002 x491003)) else (none)) else (laws_FnFlats.l1 k x4 x6 0 x483000 x483001 x491000 x491001 x491002 x491003)
def laws_FnFlats.l1 : Nat → List (List (S46)) → Int → Int → List Int → List (S46) → Int → Int → Int → Int → Option (Bool)
 | 0, _, _, _, _, _, _, _, _, _ => none
 | k + 1, x4, x6, x8, x483000, x483001, x491000, x491001, x491002, x491003 => if x8 < (x4.length : Int) then (laws_FnFlats.l2 k x4 x6 x8 0 x483000 x483001 x491000 x491001 x491002 x491003) else (if 0 ≤ (wrap64 ((x4.length : Int) - 1)) then (if (wrap64 ((x4.length : Int) - 1)) < (x4.length : Int) then (if 0 ≤ (wrap64 ((x483000.length : Int) - 1)) then (if (wrap64 ((x483000.length : Int) - 1)) < (x483000.length : Int) then (if (rd x483000 (wrap64 ((x483000.length : Int) - 1))) = 5 then (if 0 < ((rd_L2 x4 (wrap64 ((x4.length : Int) - 1))).length : Int) then (if 0 ≤ (wrap64 (((rd_L2 x4 (wrap64 ((x4.length : Int) - 1))).length : Int) - 1)) then (if (wrap64 (((rd_L2 x4 (wrap64 ((x4.length : Int) - 1))).length : Int) - 1)) < ((rd_L2 x4 (wrap64 ((x4.length : Int) - 1))).length : Int) then (if (!(((rd_T46 (rd_L2 x4 (wrap64 ((x4.length : Int) - 1))) 0).f0) == ((rd_T46 (rd_L2 x4 (wrap64 ((x4.length : Int) - 1))) (wrap64 (((rd_L2 x4 (wrap64 ((x4.length : Int) - 1))).length : Int) - 1))).f0)) || (!(((rd_T46 (rd_L2 x4 (wrap64 ((x4.length : Int) - 1))) 0).f1) == ((rd_T46 (rd_L2 x4 (wrap64 ((x4.length : Int) - 1))) (wrap64 (((rd_L2 x4 (wrap64 ((x4.length : Int) - 1))).length : Int) - 1))).f1)))) = true then (some false) else (if x6 = (x4.length : Int) then (if 0 < (x4.length : Int) then (if 0 < ((rd_L2 x4 0).length : Int) then (if 0 < (x483001.length : Int) then (some (((rd_T46 (rd_L2 x4 0) 0).f0) == ((rd_T46 x483001 0).f0) && (((rd_T46 (rd_L2 x4 0) 0).f1) == ((rd_T46 x483001 0).f1)))) else (none)) else (none)) else (none)) else (some false))) else (none)) else (none)) else (none)) else (if x6 = (x4.length : Int) then (if 0 < (x4.length : Int) then (if 0 < ((rd_L2 x4 0).length : Int) then (if 0 < (x483001.length : Int) then (some (((rd_T46 (rd_L2 x4 0) 0).f0) == ((rd_T46 x483001 0).f0) && (((rd_T46 (rd_L2 x4 0) 0).f1) == ((rd_T46 x483001 0).f1)))) else (none)) else (none)) else (none)) else (some false))) else (none)) else (none)) else (none)) else (none))
def laws_FnFlats.l2 : Nat → List (List (S46)) → Int → Int → Int → List Int → List (S46) → Int → Int → Int → Int → Option (Bool)
 | 0, _, _, _, _, _, _, _, _, _, _ => none
 | k + 1, x4, x6, x8, x9, x483000, x483001, x491000, x491001, x491002, x491003 => if 0 ≤ x8 then (if x8 < (x4.length : Int) then (if x9 < ((rd_L2 x4 x8).length : Int) then (if 0 ≤ x9 then ((spec_InBox.f x491000 x491001 x491002 x491003 ((rd_T46 (rd_L2 x4 x8) x9).f0) ((rd_T46 (rd_L2 x4 x8) x9).f1)).bind fun t509 => (if t509 = true then (laws_FnFlats.l2 k x4 x6 x8 (wrap64 (x9 + 1)) x483000 x483001 x491000 x491001 x491002 x491003) else (some false))) else (none)) else (laws_FnFlats.l1 k x4 x6 (wrap64 (x8 + 1)) x483000 x483001 x491000 x491001 x491002 x491003)) else (none)) else (none)
end
def laws_FnFlats.f (k : Nat) (l0 : List Int) : Option (Bool) := (laws_big.f l0).bind fun t475 => (if t475 = true then (some true) else ((spec_DrawRightPath.f k l0).bind fun bt476 => ((impl_FlatOf.f k bt476.1 bt476.2).bind fun t483 => ((impl_Hull.f k bt476.1 bt476.2).bind fun bt486 => ((spec_FlatOf.f k bt476.1 bt476.2).bind fun t491 => ((laws_sameLines.f k t483 t491).bind fun t494 => (if t494 = true then (laws_FnFlats.j0 k t483 ((t483.length : Int) == 0) bt476.1 bt476.2 bt486.1 bt486.2.1 bt486.2.2.1 bt486.2.2.2) else (laws_FnFlats.j0 k t483 true bt476.1 bt476.2 bt486.1 bt486.2.1 bt486.2.2.1 bt486.2.2.2))))))))
theorem laws_FnFlats.mono_l : ∀ k, (∀ y0 y1 y2 y3 y4 y5 y6 y7, LeO (laws_FnFlats.j0 k y0 y1 y2 y3 y4 y5 y6 y7) (laws_FnFlats.j0 (k + 1) y0 y1 y2 y3 y4 y5 y6 y7)) ∧ (∀ y0 y1 y2 y3 y4 y5 y6 y7 y8, LeO (laws_FnFlats.l0 k y0 y1 y2 y3 y4 y5 y6 y7 y8) (laws_FnFlats.l0 (k + 1) y0 y1 y2 y3 y4 y5 y6 y7 y8)) ∧ (∀ y0 y1 y2 y3 y4 y5 y6 y7 y8, LeO (laws_FnFlats.l1 k y0 y1 y2 y3 y4 y5 y6 y7 y8) (laws_FnFlats.l1 (k + 1) y0 y1 y2 y3 y4 y5 y6 y7 y8)) ∧ (∀ y0 y1 y2 y3 y4 y5 y6 y7 y8 y9, LeO (laws_FnFlats.l2 k y0 y1 y2 y3 y4 y5 y6 y7 y8 y9) (laws_FnFlats.l2 (k + 1) y0 y1 y2 y3 y4 y5 y6 y7 y8 y9))
 | 0 => ⟨fun _ _ _ _ _ _ _ _ r h => by simp [laws_FnFlats.j0] at h, fun _ _ _ _ _ _ _ _ _ r h => by simp [laws_FnFlats.l0] at h, fun _ _ _ _ _ _ _ _ _ r h => by simp [laws_FnFlats.l1] at h, fun _ _ _ _ _ _ _ _ _ _ r h => by simp [laws_FnFlats.l2] at h⟩
 | k + 1 => by
  obtain ⟨ih0, ih1, ih2, ih3⟩ := laws_FnFlats.mono_l k
  refine ⟨?_, ?_, ?_, ?_⟩
  ·intro y0 y1 y2 y3 y4 y5 y6 y7
   unfold laws_FnFlats.j0
   repeat' first
   | (with_reducible exact ih0 _ _ _ _ _ _ _ _)
   | (with_reducible exact ih1 _ _ _ _ _ _ _ _ _)
   | (with_reducible exact ih2 _ _ _ _ _ _ _ _ _)
   | (with_reducible exact ih3 _ _ _ _ _ _ _ _ _ _)
   | (with_reducible exact impl_FlatOf.mono _ _ _)
   | (with_reducible exact impl_Hull.mono _ _ _)
   | (with_reducible exact laws_sameLines.mono _ _ _)
   | (with_reducible exact spec_DrawRightPath.mono _ _)
   | (with_reducible exact spec_FlatOf.mono _ _ _)
   | (with_reducible exact LeO.refl _)
   | (with_reducible exact LeO.none _)
   | (with_reducible refine LeO.ite ?_ ?_)
   | (with_reducible refine LeO.bind ?_ (fun _ => ?_))
  ·intro y0 y1 y2 y3 y4 y5 y6 y7 y8
   unfold laws_FnFlats.l0
   repeat' first
   | (with_reducible exact ih0 _ _ _ _ _ _ _ _)
   | (with_reducible exact ih1 _ _ _ _ _ _ _ _ _)
   | (with_reducible exact ih2 _ _ _ _ _ _ _ _ _)
   | (with_reducible exact ih3 _ _ _ _ _ _ _ _ _ _)
   | (with_reducible exact impl_FlatOf.mono _ _ _)
   | (with_reducible exact impl_Hull.mono _ _ _)
   | (with_reducible exact laws_sameLines.mono _ _ _)
   | (with_reducible exact spec_DrawRightPath.mono _ _)
   | (with_reducible exact spec_FlatOf.mono _ _ _)
   | (with_reducible exact LeO.refl _)
   | (with_reducible exact LeO.none _)
   | (with_reducible refine LeO.ite ?_ ?_)
   | (with_reducible refine LeO.bind ?_ (fun _ => ?_))
  ·intro y0 y1 y2 y3 y4 y5 y6 y7 y8
   unfold laws_FnFlats.l1
   repeat' first
   | (with_reducible exact ih0 _ _ _ _ _ _ _ _)
   | (with_reducible exact ih1 _ _ _ _ _ _ _ _ _)
   | (with_reducible exact ih2 _ _ _ _ _ _ _ _ _)
   | (with_reducible exact ih3 _ _ _ _ _ _ _ _ _ _)
   | (with_reducible exact impl_FlatOf.mono _ _ _)
   | (with_reducible exact impl_Hull.mono _ _ _)
   | (with_reducible exact laws_sameLines.mono _ _ _)
   | (with_reducible exact spec_DrawRightPath.mono _ _)
   | (with_reducible exact spec_FlatOf.mono _ _ _)
   | (with_reducible exact LeO.refl _)
   | (with_reducible exact LeO.none _)
   | (with_reducible refine LeO.ite ?_ ?_)
   | (with_reducible refine LeO.bind ?_ (fun _ => ?_))
  ·intro y0 y1 y2 y3 y4 y5 y6 y7 y8 y9
   unfold laws_FnFlats.l2
   repeat' first
   | (with_reducible exact ih0 _ _ _ _ _ _ _ _)
   | (with_reducible exact ih1 _ _ _ _ _ _ _ _ _)
   | (with_reducible exact ih2 _ _ _ _ _ _ _ _ _)
   | (with_reducible exact ih3 _ _ _ _ _ _ _ _ _ _)
   | (with_reducible exact impl_FlatOf.mono _ _ _)
   | (with_reducible exact impl_Hull.mono _ _ _)
   | (with_reducible exact laws_sameLines.mono _ _ _)
   | (with_reducible exact spec_DrawRightPath.mono _ _)
   | (with_reducible exact spec_FlatOf.mono _ _ _)
   | (with_reducible exact LeO.refl _)
   | (with_reducible exact LeO.none _)
   | (with_reducible refine LeO.ite ?_ ?_)
   | (with_reducible refine LeO.bind ?_ (fun _ => ?_))
theorem laws_FnFlats.mono : ∀ a0 k, LeO (laws_FnFlats.f k a0) (laws_FnFlats.f (k + 1) a0) := by
 intro a0 k
 obtain ⟨ih0, ih1, ih2, ih3⟩ := laws_FnFlats.mono_l k
 unfold laws_FnFlats.f
 repeat' first
   | (with_reducible exact ih0 _ _ _ _ _ _ _ _)
   | (with_reducible exact ih1 _ _ _ _ _ _ _ _ _)
   | (with_reducible exact ih2 _ _ _ _ _ _ _ _ _)
   | (with_reducible exact ih3 _ _ _ _ _ _ _ _ _ _)
   | (with_reducible exact impl_FlatOf.mono _ _ _)
   | (with_reducible exact impl_Hull.mono _ _ _)
   | (with_reducible exact laws_sameLines.mono _ _ _)
   | (with_reducible exact spec_DrawRightPath.mono _ _)
   | (with_reducible exact spec_FlatOf.mono _ _ _)
   | (with_reducible exact LeO.refl _)
   | (with_reducible exact LeO.none _)
   | (with_reducible refine LeO.ite ?_ ?_)
   | (with_reducible refine LeO.bind ?_ (fun _ => ?_))
def laws_FnFlats.T20 : Bool × List (List Nat × List Nat) := (true, [([], []), ([], []), ([], []), ([1, 2], [1, 2]), ([3], [3]), ([], []), ([4, 5], [4, 5]), ([6], [6]), ([0, 7], [0, 7]), ([8], [8])])
def laws_FnFlats.B20 : List Nat := [0, 0, 0, 6, 14, 0, 62, 126, 255, 511]
theorem laws_FnFlats.tab20 : rtab .any (opsOf Try.f4 20) = laws_FnFlats.T20 := by kernel_rfl
theorem laws_FnFlats.bits20 : waitsOk laws_FnFlats.T20.2 laws_FnFlats.B20 = true := by kernel_rfl
def laws_FnFlats.T23 : Bool × List (List Nat × List Nat) := (true, [([], []), ([0], [0]), ([], []), ([2], [2]), ([3], [3]), ([4], [4]), ([1, 5], [1, 5]), ([6], [6]), ([7], [7]), ([8], [8]), ([9], [9]), ([10, 9], [9, 10]), ([11, 9], [9, 11]), ([9], [9]), ([9], [9]), ([14, 9], [9, 14]), ([15, 9], [9, 15]), ([13, 16, 9], [9, 13, 16]), ([17, 9], [9, 17]), ([12, 18, 9], [9, 12, 18]), ([9, 19], [9, 19])])
def laws_FnFlats.B23 : List Nat := [0, 1, 0, 4, 12, 28, 63, 127, 255, 511, 1023, 2047, 4095, 1023, 1023, 17407, 50175, 123903, 254975, 524287, 1048575]
theorem laws_FnFlats.tab23 : rtab .any (opsOf Try.f4 23) = laws_FnFlats.T23 := by kernel_rfl
theorem laws_FnFlats.bits23 : waitsOk laws_FnFlats.T23.2 laws_FnFlats.B23 = true := by kernel_rfl
def laws_FnFlats.T25 : Bool × List (List Nat × List Nat) := (true, [([], []), ([], []), ([1], [1]), ([0, 2], [0, 2]), ([3], [3]), ([4], [4]), ([5, 4], [4, 5]), ([6, 4], [4, 6]), ([7, 4], [4, 7]), ([8, 4], [4, 8]), ([4], [4]), ([10, 4], [4, 10]), ([11, 4], [4, 11]), ([12, 4], [4, 12]), ([9, 13, 4], [4, 9, 13]), ([4, 14], [4, 14]), ([15, 4, 0, 1, 2, 3, 4, 5, 6, 7, 8, 9, 10, 11, 12, 13, 14, 15], [15])])
def laws_FnFlats.B25 : List Nat := [0, 0, 2, 7, 15, 31, 63, 127, 255, 511, 31, 1055, 3103, 7199, 16383, 32767, 65535]
theorem laws_FnFlats.tab25 : rtab .any (opsOf Try.f4 25) = laws_FnFlats.T25 := by kernel_rfl
theorem laws_FnFlats.bits25 : waitsOk laws_FnFlats.T25.2 laws_FnFlats.B25 = true := by kernel_rfl
set_option maxHeartbeats 8000000 in
set_option maxRecDepth 100000 in
theorem laws_FnFlats.calls (k : Nat) (A0 : Option Addr) (c0 : Nat) (l0 : List Int) (r : Bool) (w : World) (hr0 : Kd.C (Kd.int .u8) w A0 l0.length l0) (hc0 : l0.length ≤ c0) (hT : r = true) (h : laws_FnFlats.f k l0 = some r) :
  Calls Try.prog 4 #[.slice A0 l0.length c0] w fun e w' => e = .returned (.bool r) ∧ Below w.heap.size w w' := by
 have hu31 := Try.underlying31
 have hu42 := Try.underlying42
 have hu46 := Try.underlying46
 have HR0 := mk0 hr0
 have HC0 := mk0 hc0
 clear hr0 hc0
 have HB := mk0 (Below.refl w.heap.size w)
 have H : ((laws_big.f l0).bind fun t475 => (if t475 = true then (some true) else ((spec_DrawRightPath.f k l0).bind fun bt476 => ((impl_FlatOf.f k bt476.1 bt476.2).bind fun t483 => ((impl_Hull.f k bt476.1 bt476.2).bind fun bt486 => ((spec_FlatOf.f k bt476.1 bt476.2).bind fun t491 => ((laws_sameLines.f k t483 t491).bind fun t494 => (if t494 = true then (laws_FnFlats.j0 k t483 ((t483.length : Int) == 0) bt476.1 bt476.2 bt486.1 bt486.2.1 bt486.2.2.1 bt486.2.2.2) else (laws_FnFlats.j0 k t483 true bt476.1 bt476.2 bt486.1 bt486.2.1 bt486.2.2.1 bt486.2.2.2))))))))) = some r := h
 clear h
 replace H := Option.bind_eq_some_iff.mp H
 obtain ⟨t475, A20, H⟩ := H
 try dsimp only at H
 have A2 := mk0 A20
 clear A20
 by_cases c3 : t475 = true
 ·subst c3
  rw [if_pos rfl] at H
  obtain rfl := Option.some.inj H
  simp only [Option.some.injEq, Prod.mk.injEq] at H
  obtain ⟨rfl⟩ := H
  go_enter Try.func4, Try.ntmps4
  go_wp2_with (first | ((with_reducible refine gate_callee (f := 14) rfl ?_); refine goesL_ (some 12) rfl rfl Try.func14 (by kernel_rfl) rfl #[.slice A0 l0.length c0] rfl z14_38 ?_; (with_reducible refine (laws_big.calls _ _ l0 true _ ?side1 ?side2 A2.out).mono ?_); (case side1 => exact z14_43); (case side2 => exact HC0.out); rintro e w' ⟨rfl, ⟨nd, rfl⟩⟩; refine ⟨_, rfl, ?_⟩))
  go_ret
  exact ⟨(by first | rfl | (simp [errW_none, errW_some] <;> rfl) | (simp [*, errW_none, errW_some] <;> rfl)), z14_40⟩
 replace c3 := Bool.eq_false_iff.mpr c3
 subst c3
 rw [if_neg (show ¬ (false = true) by decide)] at H
 replace H := Option.bind_eq_some_iff.mp H
 obtain ⟨⟨t476, t479⟩, A40, H⟩ := H
 try dsimp only at H
 have A4 := mk0 A40
 clear A40
 replace H := Option.bind_eq_some_iff.mp H
 obtain ⟨t483, A50, H⟩ := H
 try dsimp only at H
 have A5 := mk0 A50
 clear A50
 replace H := Option.bind_eq_some_iff.mp H
 obtain ⟨⟨t486, t487, t488, t489⟩, A60, H⟩ := H
 try dsimp only at H
 have A6 := mk0 A60
 clear A60
 have HC7 := mk0 H
 clear H
 go_enter Try.func4, Try.ntmps4
 go_upto_region 6 with (first | ((with_reducible refine gate_callee (f := 14) rfl ?_); refine goesL_ (some 12) rfl rfl Try.func14 (by kernel_rfl) rfl #[.slice A0 l0.length c0] rfl z14_38 ?_; (with_reducible refine (laws_big.calls _ _ l0 false _ ?side1 ?side2 A2.out).mono ?_); (case side1 => exact z14_43); (case side2 => exact HC0.out); rintro e w' ⟨rfl, ⟨nd, rfl⟩⟩; refine ⟨_, rfl, ?_⟩) | ((with_reducible refine gate_callee (f := 15) rfl ?_); refine goesL_ (some 14) rfl rfl Try.func15 (by kernel_rfl) rfl #[.slice A0 l0.length c0] rfl z14_38 ?_; (with_reducible refine (spec_DrawRightPath.calls k _ _ l0 t476 t479 _ ?side1 ?side2 A4.out).mono ?_); (case side1 => exact z14_43); (case side2 => exact HC0.out); rintro e w8 ⟨v477, v480, rfl, ho0, ho1, hb⟩; refine ⟨_, rfl, ?_⟩; have n0_ := mk0 (Kd.R_lower ho0 (below_size z14_40)); have n1_ := mk0 (Kd.R_lower ho1 (below_size z14_40)); have n2_ := mk0 (below_step z14_40 hb); clear HB; have HO478 := n0_; have HO481 := n1_; have HB := n2_; clear n0_ n1_ n2_; (try clear hb); (try clear hk); (try clear ho0); (try clear ho1)) | ((with_reducible refine gate_dst (N := 3) rfl ?_); (try (refine gate_guard (by rfl) ?_; dsimp only)); refine boxz (cs := #[.slice none 0 0, .slice none 0 0]) (t := 31) rfl ?_; intro gb482 hg w9 hbox hb; have n0_ := mk0 (Kd.R_below (pkR HO478) hb); have n1_ := mk0 (Kd.R_below (pkR HO481) hb); have n2_ := mk0 (below_step z14_40 hb); have n3_ := mk0 (hbox); have GW482 := mk0 (ge_go (a := w.heap.size) hg (below_size z14_40)); have GE482 := GW482; clear HO478 HO481 HB; have HO478 := n0_; have HO481 := n1_; have HB := n2_; have BK482 := n3_; clear n0_ n1_ n2_ n3_ ; clear hb hbox hg; obtain ⟨Ao10, co10, eo10⟩ := Kd.R_slice HO478.out; subst eo10; obtain ⟨_, _, _, _⟩ := be_2 BK482.out; obtain ⟨Ao12, co12, eo12⟩ := Kd.R_slice HO481.out; subst eo12) | ((with_reducible refine gate_store (t := 31) (p := 3) rfl ?_); refine store_event (t := 31) (p := 3) (v := ?vo_w13) (w1 := ((w9.setCell ⟨gb482, 0, none⟩ (.slice Ao10 t476.length co10)).setCell ⟨gb482, 1, none⟩ (.slice Ao12 t479.length co12))) ?hg ?ho ?hn ?hr ?_; (case ho => rfl); (case hg => rfl); (case hn => rfl); (case hr => first | (go_simp; done) | (go_simp; rfl)); intro w13 hw; have n0_ : Aside0 (Kd.R (Kd.int .i64) 3 w13 w.heap.size (fun _ => True) (.slice Ao10 t476.length co10) t476) := ⟨(by rw [hw]; exact (by (with_reducible repeat (first | apply Kd.R_alloc | apply Kd.R_drewN | apply Kd.R_drew)); exact Kd.R_mono (Kd.R_far (p := ⟨gb482, 1, none⟩) (Kd.R_far (p := ⟨gb482, 0, none⟩) (Kd.R_types HO478.out BK482.out (by decide)) (fun _ hk => hk.2) (.slice Ao10 t476.length co10)) (fun _ hk => hk.2) (.slice Ao12 t479.length co12)) (fun _ hk => trivial)))⟩; have n1_ : Aside0 (Kd.R k46 46 w13 w.heap.size (fun _ => True) (.slice Ao12 t479.length co12) t479) := ⟨(by rw [hw]; exact (by (with_reducible repeat (first | apply Kd.R_alloc | apply Kd.R_drewN | apply Kd.R_drew)); exact Kd.R_mono (Kd.R_far (p := ⟨gb482, 1, none⟩) (Kd.R_far (p := ⟨gb482, 0, none⟩) (Kd.R_types HO481.out BK482.out (by decide)) (fun _ hk => hk.2) (.slice Ao10 t476.length co10)) (fun _ hk => hk.2) (.slice Ao12 t479.length co12)) (fun _ hk => trivial)))⟩; have n2_ : Aside0 (w13.heap[gb482]? = some (.cells #[.slice Ao10 t476.length co10, .slice Ao12 t479.length co12] 31 (0, 0))) := ⟨(by rw [hw]; exact (by apply blk_fin; (focus ((with_reducible repeat (first | apply blk_putQ | refine blk_drewN ?_ _ | refine blk_drew ?_ | refine blk_alloc ?_ _)); exact BK482.out)); first | (simp only [List.setIfInBounds_toArray, List.set_cons_zero, List.set_cons_succ]; done) | rfl))⟩; have n3_ : Aside0 (Below w.heap.size w w13) := ⟨(by rw [hw]; exact z14_37)⟩; clear hw HO478 HO481 BK482 HB; have HO478 := n0_; have HO481 := n1_; have BK482 := n2_; have HB := n3_; clear n0_ n1_ n2_ n3_; obtain ⟨_, _, _, _⟩ := be_2 BK482.out) | ((with_reducible refine gate_callee (f := 8) rfl ?_); refine goesL_ (some 16) rfl rfl Try.func8 (by kernel_rfl) rfl #[.agg #[.slice Ao10 t476.length co10, .slice Ao12 t479.length co12]] rfl z14_38 ?_; (with_reducible refine (impl_FlatOf.calls k _ _ t476 (fun k_ => some k_ = (.slice Ao12 t479.length co12 : Value).ownBlock) _ _ t479 t483 _ ?side1 ?side2 ?side3 A5.out).mono ?_); (case side1 => exact z14_46); (case side2 => exact (Kd.R_reads' HO478.out).2.1); (case side3 => exact Kd.R_V (Kd.R_tight rfl (Kd.R_types (Kd.R_apart' (HO481.out) (Kd.R_typed HO478.out) (by decide)) BK482.out (by decide)))); rintro e w15 ⟨v484, rfl, ho0, hb⟩; refine ⟨_, rfl, ?_⟩; have n0_ := mk0 (Kd.R_below (pkR HO478) hb); have n1_ := mk0 (Kd.R_below (pkR HO481) hb); have n2_ := mk0 (Kd.S_lower (Kd.S_new' (Kd.S_mono (ok' := fun k_ => True) ho0 (fun _ hk_ => trivial)) (Kd.R_lt (pkR HO481))) (below_size z14_37)); have n3_ := mk0 (blk_belowB BK482 (pkb BK482) hb); have n4_ := mk0 (below_step z14_37 hb); clear HO478 HO481 BK482 HB; have HO478 := n0_; have HO481 := n1_; have HO485 := n2_; have BK482 := n3_; have HB := n4_; clear n0_ n1_ n2_ n3_ n4_; (try clear hb); (try clear hk); (try clear ho0); obtain ⟨_, _, _, _⟩ := be_2 BK482.out) | ((with_reducible refine gate_callee (f := 16) rfl ?_); refine goesL_ (some 18) rfl rfl Try.func16 (by kernel_rfl) rfl #[.agg #[.slice Ao10 t476.length co10, .slice Ao12 t479.length co12]] rfl z14_38 ?_; (with_reducible refine (impl_Hull.calls k _ _ t476 _ _ t479 t486 t487 t488 t489 _ ?side1 ?side2 ?side3 ?side4 A6.out).mono ?_); (case side1 => exact z14_46); (case side2 => exact (Kd.R_reads' HO478.out).2.1); (case side3 => repeat (first | exact (Kd.R_reads' HO481.out).2.2 | (with_reducible refine Kd.C_alloc ?_ _) | (with_reducible refine Kd.C_drewN ?_ _) | (with_reducible refine Kd.C_drew ?_))); (case side4 => exact (Kd.R_reads' HO481.out).2.1); rintro e w17 ⟨rfl, hb⟩; refine ⟨_, rfl, ?_⟩; have n0_ := mk0 (Kd.R_below (pkR HO478) hb); have n1_ := mk0 (Kd.R_below (pkR HO481) hb); have n2_ := mk0 (Kd.S_below (pkS HO485) hb); have n3_ := mk0 (blk_belowB BK482 (pkb BK482) hb); have n4_ := mk0 (below_step z14_37 hb); clear HO478 HO481 HO485 BK482 HB; have HO478 := n0_; have HO481 := n1_; have HO485 := n2_; have BK482 := n3_; have HB := n4_; clear n0_ n1_ n2_ n3_ n4_; (try clear hb); (try clear hk)) | ((with_reducible refine gate_dst (N := 5) rfl ?_); (try (refine gate_guard (by rfl) ?_; dsimp only)); refine boxz (cs := #[.int .i64 0, .int .i64 0, .int .i64 0, .int .i64 0]) (t := 42) rfl ?_; intro gb490 hg w18 hbox hb; have n0_ := mk0 (Kd.R_below (pkR HO478) hb); have n1_ := mk0 (Kd.R_below (pkR HO481) hb); have n2_ := mk0 (Kd.S_below (pkS HO485) hb); have n3_ := mk0 (blk_belowB BK482 (pkb BK482) hb); have n4_ := mk0 (below_step z14_37 hb); have n5_ := mk0 (hbox); have GW490 := mk0 (ge_go (a := w.heap.size) hg (below_size z14_37)); have GE490 := GW490; have NB482_490 := mk0 (nb_lt hg (blk_ltB BK482 (pkb BK482))); have NB490_482 := mk0 (nb_gt hg (blk_ltB BK482 (pkb BK482))); clear HO478 HO481 HO485 BK482 HB; have HO478 := n0_; have HO481 := n1_; have HO485 := n2_; have BK482 := n3_; have HB := n4_; have BK490 := n5_; clear n0_ n1_ n2_ n3_ n4_ n5_ ; clear hb hbox hg; have hnb19 := NB490_482.out; have hnc19 := NB482_490.out; obtain ⟨_, _, _, _, _, _, _, _⟩ := be_4 BK490.out))
 (try simp only [Act.put, List.setIfInBounds_toArray, List.set_cons_zero, List.set_cons_succ])
 go_cut [28] (fun v28 wc => ∃ (kq : Nat) (x28_6 : Bool), v28 = .bool x28_6 ∧ Aside0 (laws_FnFlats.j0 kq t483 x28_6 t476 t479 t486 t487 t488 t489 = some r) ∧ Aside0 (kq ≤ k) ∧ Aside0 (Kd.S (Kd.slice 46 k46) 29 wc w.heap.size (fun k_ => some k_ ≠ ((.slice Ao12 t479.length co12) : Value).ownBlock) v484 t483) ∧ Aside0 (Kd.R (Kd.int .i64) 3 wc w.heap.size (fun _ => True) (.slice Ao10 t476.length co10) t476) ∧ Aside0 (Kd.R k46 46 wc w.heap.size (fun _ => True) (.slice Ao12 t479.length co12) t479) ∧ Aside0 (wc.heap[gb482]? = some (.cells #[(.slice Ao10 t476.length co10), (.slice Ao12 t479.length co12)] 31 (0, 0))) ∧ Aside0 (wc.heap[gb490]? = some (.cells #[.int .i64 t486, .int .i64 t487, .int .i64 t488, .int .i64 t489] 42 (0, 0))) ∧ Aside0 (Below w.heap.size w wc))
 case first =>
  have H := HC7.out; clear HC7
  replace H := Option.bind_eq_some_iff.mp H
  obtain ⟨t491, A210, H⟩ := H
  try dsimp only at H
  have A21 := mk0 A210
  clear A210
  replace H := Option.bind_eq_some_iff.mp H
  obtain ⟨t494, A220, H⟩ := H
  try dsimp only at H
  have A22 := mk0 A220
  clear A220
  by_cases c23 : t494 = true
  rotate_left
  ·replace c23 := Bool.eq_false_iff.mpr c23
   subst c23
   rw [if_neg (show ¬ (false = true) by decide)] at H
   exact absurd (show r = false from by cases k with | zero => exact absurd H (by simp [laws_FnFlats.j0]) | succ k_ => simp only [laws_FnFlats.j0, if_true] at H; exact (Option.some.inj H).symm) (by rw [hT]; simp)
  subst c23
  rw [if_pos rfl] at H
  have H' := mk0 H
  clear H; have hnb24 := NB482_490.out; have hnc24 := NB490_482.out
  obtain ⟨_, _, _, _⟩ := be_2 BK482.out
  go_wp2_with (first | ((with_reducible refine gate_callee (f := 6) rfl ?_); refine goesL_ (some 21) rfl rfl Try.func6 (by kernel_rfl) rfl #[.agg #[.slice Ao10 t476.length co10, .slice Ao12 t479.length co12]] rfl z14_38 ?_; (with_reducible refine (spec_FlatOf.calls k _ _ t476 _ _ t479 t491 _ ?side1 ?side2 ?side3 ?side4 A21.out).mono ?_); (case side1 => refine (Kd.R_reads' (e := 3) (base := w.heap.size) (ok := fun k_ => True) (n := t476.length) (c := co10) ?_).2.2; exact z14_41); (case side2 => exact (Kd.R_reads' HO478.out).2.1); (case side3 => refine (Kd.R_reads' (e := 46) (base := w.heap.size) (ok := fun k_ => True) (n := t479.length) (c := co12) ?_).2.2; exact z14_39); (case side4 => exact (Kd.R_reads' HO481.out).2.1); rintro e w26 ⟨v492, rfl, ho0, hb⟩; refine ⟨_, rfl, ?_⟩; have n0_ := mk0 (Kd.R_below z14_41 hb); have n1_ := mk0 (Kd.R_below z14_39 hb); have n2_ := mk0 (Kd.S_elder' z14_42 (Kd.S_base ho0) hb); have n3_ := mk0 (Kd.S_lower (Kd.S_new' (Kd.S_new' ho0 (Kd.R_lt z14_39)) (Kd.S_lt z14_42)) (below_size z14_36)); have n4_ := mk0 (blk_belowB BK482 (by (with_reducible repeat (first | refine blk_drewN ?_ _ | refine blk_drew ?_ | refine blk_alloc ?_ _)); refine blk_far ?_ NB482_490.out _; (with_reducible repeat (first | refine blk_drewN ?_ _ | refine blk_drew ?_ | refine blk_alloc ?_ _)); refine blk_far ?_ NB482_490.out _; (with_reducible repeat (first | refine blk_drewN ?_ _ | refine blk_drew ?_ | refine blk_alloc ?_ _)); refine blk_far ?_ NB482_490.out _; (with_reducible repeat (first | refine blk_drewN ?_ _ | refine blk_drew ?_ | refine blk_alloc ?_ _)); refine blk_far ?_ NB482_490.out _; (with_reducible repeat (first | refine blk_drewN ?_ _ | refine blk_drew ?_ | refine blk_alloc ?_ _)); exact BK482.out) hb); have n5_ := mk0 (blk_below (g := gb490) (o := .cells #[.int .i64 t486, .int .i64 t487, .int .i64 t488, .int .i64 t489] 42 (0, 0)) (by apply blk_fin; (focus ((with_reducible repeat (first | apply blk_putQ | refine blk_drewN ?_ _ | refine blk_drew ?_ | refine blk_alloc ?_ _)); exact BK490.out)); first | (simp only [List.setIfInBounds_toArray, List.set_cons_zero, List.set_cons_succ]; done) | rfl) hb); have n6_ := mk0 (below_step z14_36 hb); clear HO478 HO481 HO485 BK482 BK490 HB; have HO478 := n0_; have HO481 := n1_; have HO485 := n2_; have HO493 := n3_; have BK482 := n4_; have BK490 := n5_; have HB := n6_; clear n0_ n1_ n2_ n3_ n4_ n5_ n6_; (try clear hb); (try clear hk); (try clear ho0); obtain ⟨Ao27, co27, eo27⟩ := Kd.S_slice HO485.out; subst eo27; obtain ⟨Ao28, co28, eo28⟩ := Kd.S_slice HO493.out; subst eo28) | ((with_reducible refine gate_callee (f := 17) rfl ?_); refine goesL_ (some 22) rfl rfl Try.func17 (by kernel_rfl) rfl #[.slice Ao27 t483.length co27, .slice Ao28 t491.length co28] rfl z14_38 ?_; (with_reducible refine (laws_sameLines.calls k _ _ t483 _ _ t491 true _ ?side1 ?side2 ?side3 ?side4 A22.out).mono ?_); (case side1 => repeat (first | exact (Kd.S_reads' HO485.out).2.2 | (with_reducible refine Kd.C_alloc ?_ _) | (with_reducible refine Kd.C_drewN ?_ _) | (with_reducible refine Kd.C_drew ?_))); (case side2 => exact (Kd.S_reads' HO485.out).2.1); (case side3 => repeat (first | exact (Kd.S_reads' HO493.out).2.2 | (with_reducible refine Kd.C_alloc ?_ _) | (with_reducible refine Kd.C_drewN ?_ _) | (with_reducible refine Kd.C_drew ?_))); (case side4 => exact (Kd.S_reads' HO493.out).2.1); rintro e w' ⟨rfl, ⟨nd, rfl⟩⟩; refine ⟨_, rfl, ?_⟩))
  go_meet
  case rel => exact ⟨_, (((t483.length : Int) == 0)), rs0, H', ⟨(by first | omega | exact Nat.le_refl _)⟩, ⟨(by (with_reducible repeat (first | apply Kd.S_alloc | apply Kd.S_drewN | apply Kd.S_drew)); exact Kd.S_mono HO485.out (fun _ hk => hk.1.2))⟩, ⟨pkR HO478⟩, ⟨pkR HO481⟩, ⟨pkb BK482⟩, ⟨pkb BK490⟩, ⟨z14_36⟩⟩
 case rest =>
  clear HC7; try clear c1
  try clear c2
  try clear p2
  try clear c3
  try clear c4
  try clear c6
  try clear c8
  try clear c14
  try clear c15
  try clear c16
  try clear c17
  try clear c19
  try clear c23
  try clear c24
  try clear hcz11_0
  try clear hcz11_1
  try clear hcz14_0
  try clear hcz14_1
  try clear hcz16_0
  try clear hcz16_1
  try clear hcz25_0
  try clear hcz25_1
  try clear hfz11_0
  try clear hfz11_1
  try clear hfz14_0
  try clear hfz14_1
  try clear hfz16_0
  try clear hfz16_1
  try clear hfz25_0
  try clear hfz25_1
  obtain ⟨kq, x28_6, rfl, HA, HJ6, HO_4, HO_483000, HO_483001, BK482, BK490, HB⟩ := hcut
  cases kq with
  | zero => exact absurd HA.out (by simp [laws_FnFlats.j0])
  | succ kj6 =>
   have H := HA.out; clear HA
   simp only [laws_FnFlats.j0] at H
   by_cases c29 : x28_6 = true
   ·subst c29
    rw [if_pos rfl] at H
    obtain rfl := Option.some.inj H
    exact absurd hT Bool.false_ne_true
   replace c29 := Bool.eq_false_iff.mpr c29
   subst c29
   rw [if_neg (show ¬ (false = true) by decide)] at H
   have H' := mk0 H
   clear H
   go_wp2
   go_loopg [6, 7] kj6 (fun kq v6 v7 w' => ∃ (x6_2 : Int) (x7_2 : Int), v6 = .int .i64 x6_2 ∧ v7 = .int .i64 x7_2 ∧ Aside0 (laws_FnFlats.l0 kq t483 x6_2 x7_2 t476 t479 t486 t487 t488 t489 = some r) ∧ Aside0 (kq ≤ kj6) ∧ Aside0 (Kd.S (Kd.slice 46 k46) 29 w' w.heap.size (fun k_ => some k_ ≠ ((.slice Ao12 t479.length co12) : Value).ownBlock) v484 t483) ∧ Aside0 (Kd.R (Kd.int .i64) 3 w' w.heap.size (fun _ => True) (.slice Ao10 t476.length co10) t476) ∧ Aside0 (Kd.R k46 46 w' w.heap.size (fun _ => True) (.slice Ao12 t479.length co12) t479) ∧ Aside0 (w'.heap[gb482]? = some (.cells #[(.slice Ao10 t476.length co10), (.slice Ao12 t479.length co12)] 31 (0, 0))) ∧ Aside0 (w'.heap[gb490]? = some (.cells #[.int .i64 t486, .int .i64 t487, .int .i64 t488, .int .i64 t489] 42 (0, 0))) ∧ Aside0 (Below w.heap.size w w'))
   case atStart => exact ⟨(0), (0), rs0, rs0, H', ⟨Nat.le_refl _⟩, ⟨pkS HO_4⟩, ⟨pkR HO_483000⟩, ⟨pkR HO_483001⟩, ⟨pkb BK482⟩, ⟨pkb BK490⟩, ⟨z14_36⟩⟩
   case round =>
    clear H'
    try clear c1
    try clear c2
    try clear p2
    try clear c3
    try clear c4
    try clear c6
    try clear c8
    try clear c14
    try clear c15
    try clear c16
    try clear c17
    try clear c19
    try clear c23
    try clear c24
    try clear c29
    try clear hcz11_0
    try clear hcz11_1
    try clear hcz14_0
    try clear hcz14_1
    try clear hcz16_0
    try clear hcz16_1
    try clear hcz25_0
    try clear hcz25_1
    try clear hfz11_0
    try clear hfz11_1
    try clear hfz14_0
    try clear hfz14_1
    try clear hfz16_0
    try clear hfz16_1
    try clear hfz25_0
    try clear hfz25_1
    try clear p2
    obtain ⟨x6_2, x7_2, rfl, rfl, HA, HK2, HO_4, HO_483000, HO_483001, BK482, BK490, HB⟩ := hrel
    cases gk with
    | zero => exact absurd HA.out (by simp [laws_FnFlats.l0])
    | succ k2 =>
     have H := HA.out; clear HA
     simp only [laws_FnFlats.l0] at H
     by_cases c30 : x7_2 < (t476.length : Int)
     ·rw [if_pos c30] at H
      have c30b0 := decide_eq_true c30
      clear c30
      by_cases c31 : 0 ≤ x7_2
      rotate_left
      ·rw [if_neg c31] at H
       exact absurd H (by simp)
      rw [if_pos c31] at H
      have c31b0 := decide_eq_true c31
      clear c31
      by_cases c32 : (rd t476 x7_2) = 1
      rotate_left
      ·rw [if_neg c32] at H
       have c32b0 : ((rd t476 x7_2) == 1) = false := beq_eq_false_iff_ne.mpr c32
       have c32b1 : ((rd t476 x7_2) != 1) = true := bne_iff_ne.mpr c32
       have H' := mk0 H
       clear H; have hnb35 := NB482_490.out; have hnc35 := NB490_482.out
       obtain ⟨_, _, _, _⟩ := be_2 BK482.out
       have p495 : 0 ≤ (x7_2 : Int) := of_decide_eq_true (by first | (with_reducible assumption) | assumption)
       have q495 : x7_2 < (t476.length : Int) := of_decide_eq_true (by first | (with_reducible assumption) | assumption)
       obtain ⟨ad495, e495, hx495_0⟩ := Kd.at_int (Kd.R_reads' HO_483000.out).2.2 x7_2 p495 q495
       cases e495
       replace p495 := eq_true p495
       replace q495 := eq_true q495
       go_wp2
       go_roundg k2
       case measure => have := HJ6.out; have := HK2.out; omega
       case rel => exact ⟨(x6_2), (wrap64 (x7_2 + 1)), rs0, rs0, H', ⟨(by have := HJ6.out; have := HK2.out; omega)⟩, ⟨pkS HO_4⟩, ⟨pkR HO_483000⟩, ⟨pkR HO_483001⟩, ⟨pkb BK482⟩, ⟨pkb BK490⟩, ⟨z14_36⟩⟩
      rw [if_pos c32] at H
      have c32b0 : ((rd t476 x7_2) == 1) = true := beq_iff_eq.mpr c32
      have c32b1 : ((rd t476 x7_2) != 1) = false := bne_eq_false_iff_eq.mpr c32
      clear c32
      have H' := mk0 H
      clear H; have hnb33 := NB482_490.out; have hnc33 := NB490_482.out
      obtain ⟨_, _, _, _⟩ := be_2 BK482.out
      have p495 : 0 ≤ (x7_2 : Int) := of_decide_eq_true (by first | (with_reducible assumption) | assumption)
      have q495 : x7_2 < (t476.length : Int) := of_decide_eq_true (by first | (with_reducible assumption) | assumption)
      obtain ⟨ad495, e495, hx495_0⟩ := Kd.at_int (Kd.R_reads' HO_483000.out).2.2 x7_2 p495 q495
      cases e495
      replace p495 := eq_true p495
      replace q495 := eq_true q495
      go_wp2
      go_roundg k2
      case measure => have := HJ6.out; have := HK2.out; omega
      case rel => exact ⟨(wrap64 (x6_2 + 1)), (wrap64 (x7_2 + 1)), rs0, rs0, H', ⟨(by have := HJ6.out; have := HK2.out; omega)⟩, ⟨pkS HO_4⟩, ⟨pkR HO_483000⟩, ⟨pkR HO_483001⟩, ⟨pkb BK482⟩, ⟨pkb BK490⟩, ⟨z14_36⟩⟩
     rw [if_neg c30] at H
     have c30b0 := decide_eq_false c30
     clear c30
     have H' := mk0 H
     clear H; have hnb37 := NB482_490.out; have hnc37 := NB490_482.out
     obtain ⟨_, _, _, _⟩ := be_2 BK482.out
     go_wp2
     go_loopg [8] k2 (fun kq v8 w' => ∃ (x8_3 : Int), v8 = .int .i64 x8_3 ∧ Aside0 (laws_FnFlats.l1 kq t483 x6_2 x8_3 t476 t479 t486 t487 t488 t489 = some r) ∧ Aside0 (kq ≤ k2) ∧ Aside0 (Kd.S (Kd.slice 46 k46) 29 w' w.heap.size (fun k_ => some k_ ≠ ((.slice Ao12 t479.length co12) : Value).ownBlock) v484 t483) ∧ Aside0 (Kd.R (Kd.int .i64) 3 w' w.heap.size (fun _ => True) (.slice Ao10 t476.length co10) t476) ∧ Aside0 (Kd.R k46 46 w' w.heap.size (fun _ => True) (.slice Ao12 t479.length co12) t479) ∧ Aside0 (w'.heap[gb482]? = some (.cells #[(.slice Ao10 t476.length co10), (.slice Ao12 t479.length co12)] 31 (0, 0))) ∧ Aside0 (w'.heap[gb490]? = some (.cells #[.int .i64 t486, .int .i64 t487, .int .i64 t488, .int .i64 t489] 42 (0, 0))) ∧ Aside0 (Below w.heap.size w w'))
     case atStart => exact ⟨(0), rs0, H', ⟨Nat.le_refl _⟩, ⟨pkS HO_4⟩, ⟨pkR HO_483000⟩, ⟨pkR HO_483001⟩, ⟨pkb BK482⟩, ⟨pkb BK490⟩, ⟨z14_36⟩⟩
     case round =>
      clear H'
      try clear c1
      try clear c2
      try clear p2
      try clear c3
      try clear c4
      try clear p4
      try clear q4
      try clear hx4
      try clear c6
      try clear p6
      try clear c8
      try clear c14
      try clear c15
      try clear c16
      try clear c17
      try clear c19
      try clear c23
      try clear c24
      try clear c29
      try clear c30
      try clear c30b0
      try clear c31
      try clear c31b0
      try clear c32
      try clear c32b0
      try clear c32b1
      try clear c33
      try clear c35
      try clear c37
      try clear hcz11_0
      try clear hcz11_1
      try clear hcz14_0
      try clear hcz14_1
      try clear hcz16_0
      try clear hcz16_1
      try clear hcz25_0
      try clear hcz25_1
      try clear hcz34_0
      try clear hcz34_1
      try clear hcz36_0
      try clear hcz36_1
      try clear hcz38_0
      try clear hcz38_1
      try clear hfz11_0
      try clear hfz11_1
      try clear hfz14_0
      try clear hfz14_1
      try clear hfz16_0
      try clear hfz16_1
      try clear hfz25_0
      try clear hfz25_1
      try clear hfz34_0
      try clear hfz34_1
      try clear hfz36_0
      try clear hfz36_1
      try clear hfz38_0
      try clear hfz38_1
      try clear hx495_0
      try clear p2
      try clear p495
      try clear q495
      obtain ⟨x8_3, rfl, HA, HK3, HO_4, HO_483000, HO_483001, BK482, BK490, HB⟩ := hrel
      cases gk with
      | zero => exact absurd HA.out (by simp [laws_FnFlats.l1])
      | succ k3 =>
       have H := HA.out; clear HA
       simp only [laws_FnFlats.l1] at H
       by_cases c39 : x8_3 < (t483.length : Int)
       ·rw [if_pos c39] at H
        have c39b0 := decide_eq_true c39
        clear c39
        have H' := mk0 H
        clear H
        obtain ⟨Ao40, co40, eo40⟩ := Kd.S_slice HO_4.out
        subst eo40
        go_wp2
        go_loopg [9] k3 (fun kq v9 w' => ∃ (x9_4 : Int), v9 = .int .i64 x9_4 ∧ Aside0 (laws_FnFlats.l2 kq t483 x6_2 x8_3 x9_4 t476 t479 t486 t487 t488 t489 = some r) ∧ Aside0 (kq ≤ k3) ∧ Aside0 (Kd.S (Kd.slice 46 k46) 29 w' w.heap.size (fun k_ => some k_ ≠ ((.slice Ao12 t479.length co12) : Value).ownBlock) (.slice Ao40 t483.length co40) t483) ∧ Aside0 (Kd.R (Kd.int .i64) 3 w' w.heap.size (fun _ => True) (.slice Ao10 t476.length co10) t476) ∧ Aside0 (Kd.R k46 46 w' w.heap.size (fun _ => True) (.slice Ao12 t479.length co12) t479) ∧ Aside0 (w'.heap[gb482]? = some (.cells #[(.slice Ao10 t476.length co10), (.slice Ao12 t479.length co12)] 31 (0, 0))) ∧ Aside0 (w'.heap[gb490]? = some (.cells #[.int .i64 t486, .int .i64 t487, .int .i64 t488, .int .i64 t489] 42 (0, 0))) ∧ Aside0 (Below w.heap.size w w'))
        case atStart => exact ⟨(0), rs0, H', ⟨Nat.le_refl _⟩, ⟨pkS HO_4⟩, ⟨pkR HO_483000⟩, ⟨pkR HO_483001⟩, ⟨pkb BK482⟩, ⟨pkb BK490⟩, ⟨z14_36⟩⟩
        case round =>
         clear H'
         try clear c1
         try clear c2
         try clear p2
         try clear c3
         try clear c4
         try clear p4
         try clear q4
         try clear hx4
         try clear c6
         try clear p6
         try clear c8
         try clear c14
         try clear c15
         try clear c16
         try clear c17
         try clear c19
         try clear c23
         try clear c24
         try clear c29
         try clear c30
         try clear c30b0
         try clear c31
         try clear c31b0
         try clear c32
         try clear c32b0
         try clear c32b1
         try clear c33
         try clear c35
         try clear c37
         try clear c39
         try clear c39b0
         try clear hcz11_0
         try clear hcz11_1
         try clear hcz14_0
         try clear hcz14_1
         try clear hcz16_0
         try clear hcz16_1
         try clear hcz25_0
         try clear hcz25_1
         try clear hcz34_0
         try clear hcz34_1
         try clear hcz36_0
         try clear hcz36_1
         try clear hcz38_0
         try clear hcz38_1
         try clear hfz11_0
         try clear hfz11_1
         try clear hfz14_0
         try clear hfz14_1
         try clear hfz16_0
         try clear hfz16_1
         try clear hfz25_0
         try clear hfz25_1
         try clear hfz34_0
         try clear hfz34_1
         try clear hfz36_0
         try clear hfz36_1
         try clear hfz38_0
         try clear hfz38_1
         try clear hx495_0
         try clear p2
         try clear p4
         try clear p495
         try clear p6
         try clear q4
         try clear q495
         obtain ⟨x9_4, rfl, HA, HK4, HO_4, HO_483000, HO_483001, BK482, BK490, HB⟩ := hrel
         cases gk with
         | zero => exact absurd HA.out (by simp [laws_FnFlats.l2])
         | succ k4 =>
          have H := HA.out; clear HA
          simp only [laws_FnFlats.l2] at H
          by_cases c41 : 0 ≤ x8_3
          rotate_left
          ·rw [if_neg c41] at H
           exact absurd H (by simp)
          rw [if_pos c41] at H
          have c41b0 := decide_eq_true c41
          clear c41
          by_cases c42 : x8_3 < (t483.length : Int)
          rotate_left
          ·rw [if_neg c42] at H
           exact absurd H (by simp)
          rw [if_pos c42] at H
          have c42b0 := decide_eq_true c42
          clear c42
          by_cases c43 : x9_4 < ((rd_L2 t483 x8_3).length : Int)
          rotate_left
          ·rw [if_neg c43] at H
           have c43b0 := decide_eq_false c43
           clear c43
           have H' := mk0 H
           clear H
           have p506 : 0 ≤ (x8_3 : Int) := of_decide_eq_true (by first | (with_reducible assumption) | assumption)
           have q506 : x8_3 < (t483.length : Int) := of_decide_eq_true (by first | (with_reducible assumption) | assumption)
           obtain ⟨ad506, A506_0, c506_0, e506, hx506_0, hl506_0, hi506_0⟩ := at_L2 (Kd.S_reads' HO_4.out).2.2 x8_3 p506 q506
           cases e506
           obtain ⟨ce506, hce506, hMe506, hcc506⟩ := Kd.S_get HO_4.out [] x8_3 p506 z14_47
           obtain ⟨ve506_0, rfl, ge506_0⟩ := hMe506
           have hv506_0 := hcc506 0 _ rfl
           rw [Nat.add_zero, show ((Kd.slice 46 k46)).sz = 1 from rfl, Nat.mul_one] at hv506_0
           replace hv506_0 := Option.some.inj (hv506_0.symm.trans hx506_0)
           rw [hv506_0] at ge506_0
           have HL506_0 := mk0 (show Kd.R k46 46 _ _ _ _ (rd_L2 t483 x8_3) from ge506_0)
           clear hv506_0 ge506_0 hcc506 hce506
           have HR506_0 := mk0 hi506_0
           have HC506_0 := mk0 hl506_0
           clear hi506_0 hl506_0
           replace p506 := eq_true p506
           replace q506 := eq_true q506
           go_wp2
           go_roundg k4
           case measure => have := HJ6.out; have := HK2.out; have := HK3.out; have := HK4.out; omega
           case rel => exact ⟨(wrap64 (x8_3 + 1)), rs0, H', ⟨(by have := HJ6.out; have := HK2.out; have := HK3.out; have := HK4.out; omega)⟩, ⟨pkS HO_4⟩, ⟨pkR HO_483000⟩, ⟨pkR HO_483001⟩, ⟨pkb BK482⟩, ⟨pkb BK490⟩, ⟨z14_36⟩⟩
          rw [if_pos c43] at H
          have c43b0 := decide_eq_true c43
          clear c43
          by_cases c44 : 0 ≤ x9_4
          rotate_left
          ·rw [if_neg c44] at H
           exact absurd H (by simp)
          rw [if_pos c44] at H
          have c44b0 := decide_eq_true c44
          clear c44
          replace H := Option.bind_eq_some_iff.mp H
          obtain ⟨t509, A450, H⟩ := H
          try dsimp only at H
          have A45 := mk0 A450
          clear A450
          by_cases c46 : t509 = true
          rotate_left
          ·replace c46 := Bool.eq_false_iff.mpr c46
           subst c46
           rw [if_neg (show ¬ (false = true) by decide)] at H
           obtain rfl := Option.some.inj H
           exact absurd hT Bool.false_ne_true
          subst c46
          rw [if_pos rfl] at H
          have H' := mk0 H
          clear H
          have p506 : 0 ≤ (x8_3 : Int) := of_decide_eq_true (by first | (with_reducible assumption) | assumption)
          have q506 : x8_3 < (t483.length : Int) := of_decide_eq_true (by first | (with_reducible assumption) | assumption)
          obtain ⟨ad506, A506_0, c506_0, e506, hx506_0, hl506_0, hi506_0⟩ := at_L2 (Kd.S_reads' HO_4.out).2.2 x8_3 p506 q506
          cases e506
          obtain ⟨ce506, hce506, hMe506, hcc506⟩ := Kd.S_get HO_4.out [] x8_3 p506 z14_47
          obtain ⟨ve506_0, rfl, ge506_0⟩ := hMe506
          have hv506_0 := hcc506 0 _ rfl
          rw [Nat.add_zero, show ((Kd.slice 46 k46)).sz = 1 from rfl, Nat.mul_one] at hv506_0
          replace hv506_0 := Option.some.inj (hv506_0.symm.trans hx506_0)
          rw [hv506_0] at ge506_0
          have HL506_0 := mk0 (show Kd.R k46 46 _ _ _ _ (rd_L2 t483 x8_3) from ge506_0)
          clear hv506_0 ge506_0 hcc506 hce506
          have HR506_0 := mk0 hi506_0
          have HC506_0 := mk0 hl506_0
          clear hi506_0 hl506_0
          replace p506 := eq_true p506
          replace q506 := eq_true q506
          try go_wp2
          have n0_ := mk0 (Kd.S_drew HO_4.out)
          have n1_ := mk0 (Kd.R_drew HO_483000.out)
          have n2_ := mk0 (Kd.R_drew HO_483001.out)
          have n3_ := mk0 (Kd.R_drew HL506_0.out)
          have n4_ := mk0 (blk_drew BK482.out)
          have n5_ := mk0 (blk_drew BK490.out)
          have n6_ := mk0 (Kd.C_drew HR506_0.out)
          have n7_ := mk0 (below_drew1 HB.out)
          clear HO_4 HO_483000 HO_483001 HL506_0 BK482 BK490 HR506_0 HB; have HO_4 := n0_; have HO_483000 := n1_; have HO_483001 := n2_; have HL506_0 := n3_; have BK482 := n4_; have BK490 := n5_; have HR506_0 := n6_; have HB := n7_; clear n0_ n1_ n2_ n3_ n4_ n5_ n6_ n7_
          have p507 : 0 ≤ (x8_3 : Int) := of_decide_eq_true (by first | (with_reducible assumption) | assumption)
          have q507 : x8_3 < (t483.length : Int) := of_decide_eq_true (by first | (with_reducible assumption) | assumption)
          obtain ⟨ad507, A507_0, c507_0, e507, hx507_0, hl507_0, hi507_0⟩ := at_L2 (Kd.S_reads' HO_4.out).2.2 x8_3 p507 q507
          obtain rfl : ad506 = ad507 := (by injection e507)
          obtain ⟨ce507, hce507, hMe507, hcc507⟩ := Kd.S_get HO_4.out [] x8_3 p507 (by first | exact q507 | exact of_decide_eq_true (by first | (with_reducible assumption) | assumption) | (have e_ := (Kd.S_reads' HO_4.out).1; omega))
          obtain ⟨ve507_0, rfl, ge507_0⟩ := hMe507
          have hv507_0 := hcc507 0 _ rfl
          rw [Nat.add_zero, show ((Kd.slice 46 k46)).sz = 1 from rfl, Nat.mul_one] at hv507_0
          replace hv507_0 := Option.some.inj (hv507_0.symm.trans hx507_0)
          rw [hv507_0] at ge507_0
          have HL507_0 := mk0 (show Kd.R k46 46 _ _ _ _ (rd_L2 t483 x8_3) from ge507_0)
          clear hv507_0 ge507_0 hcc507 hce507
          have HR507_0 := mk0 hi507_0
          have HC507_0 := mk0 hl507_0
          clear hi507_0 hl507_0
          replace p507 := eq_true p507
          replace q507 := eq_true q507
          have p508 : 0 ≤ (x9_4 : Int) := of_decide_eq_true (by first | (with_reducible assumption) | assumption)
          have q508 : x9_4 < ((rd_L2 t483 x8_3).length : Int) := of_decide_eq_true (by first | (with_reducible assumption) | assumption)
          obtain ⟨ad508, e508, hx508_0, hx508_1⟩ := at_T46 z14_44 x9_4 p508 q508
          cases e508
          replace p508 := eq_true p508
          replace q508 := eq_true q508
          refine start_ (n := 10) (S := fun w' => w'.cell? ⟨gb490, 0, none⟩ = some (.int .i64 t486) ∧ w'.cell? ⟨gb490, 1, none⟩ = some (.int .i64 t487) ∧ w'.cell? ⟨gb490, 2, none⟩ = some (.int .i64 t488) ∧ w'.cell? ⟨gb490, 3, none⟩ = some (.int .i64 t489) ∧ w'.cell? (ad506.add (x8_3).toNat) = some (.slice (some ad508) (rd_L2 t483 x8_3).length c507_0) ∧ w'.cell? (ad508.add ((x9_4).toNat * 2)) = some (.int .i64 ((rd_T46 (rd_L2 t483 x8_3) x9_4).f0)) ∧ w'.cell? ⟨(ad508.add ((x9_4).toNat * 2)).block, (ad508.add ((x9_4).toNat * 2)).off + 1, none⟩ = some (.int .i64 ((rd_T46 (rd_L2 t483 x8_3) x9_4).f1))) (ds := []) #[false, false, false, false, false, false, false, false, false, false] (by kernel_rfl) rfl rfl ⟨(blk_cell BK490.out 0).trans rfl, (blk_cell BK490.out 1).trans rfl, (blk_cell BK490.out 2).trans rfl, (blk_cell BK490.out 3).trans rfl, hx507_0, hx508_0, hx508_1⟩ (fun hHeld => ?_); refine with_tabW laws_FnFlats.tab20 laws_FnFlats.bits20 (fun HT_ HW_ => ?_)
          generalize wr.drew = w47 at HO_4 HO_483000 HO_483001 HL506_0 BK482 BK490 HR506_0 HB HL507_0 HR507_0 hx507_0 hx508_0 hx508_1 hHeld ⊢
          refine pzv (i := 1) (N := 60) (v := ?_) (a' := ?_) (bA 10 2) HT_ ?_ ?_ ?_
          rotate_left
          ·intro w'
           go_simp; with_reducible rfl
          rotate_left
          ·exact x14_put
          refine pzv (i := 2) (N := 61) (v := ?_) (a' := ?_) (bA 10 6) HT_ ?_ ?_ ?_
          rotate_left
          ·intro w'
           go_simp; with_reducible rfl
          rotate_left
          ·exact x14_put
          refine pzv (i := 3) (N := 62) (v := ?_) (a' := ?_) (bA 10 14) HT_ ?_ ?_ ?_
          rotate_left
          ·intro w'
           go_simp; with_reducible rfl
          rotate_left
          ·exact x14_put
          refine pzv (i := 5) (N := 64) (v := ?_) (a' := ?_) (bA 10 46) HT_ ?_ ?_ ?_
          rotate_left
          ·intro w'
           go_simp; with_reducible rfl
          rotate_left
          ·exact x14_put
          refine take_ (i := 0) (N := some 59) (v := ?_) (a' := ?_) (bA 10 47) rfl rfl (take_ofW HT_.out HW_.out (by kernel_rfl)) (fun _ _ _ h => h) (Or.inl ⟨by rfl, ?_⟩) hHeld ?_ ?_
          rotate_left
          ·rintro w' ⟨s0, s1, s2, s3, s4, s5, s6⟩
           go_simp; with_reducible rfl
          rotate_left
          ·exact x14_put
          refine take_ (i := 4) (N := some 63) (v := ?_) (a' := ?_) (bA 10 63) rfl rfl (take_ofW HT_.out HW_.out (by kernel_rfl)) (fun _ _ _ h => h) (Or.inl ⟨by rfl, ?_⟩) hHeld ?_ ?_
          rotate_left
          ·rintro w' ⟨s0, s1, s2, s3, s4, s5, s6⟩
           go_simp; with_reducible rfl
          rotate_left
          ·exact x14_put
          refine pzv (i := 6) (N := 65) (v := ?_) (a' := ?_) (bA 10 127) HT_ ?_ ?_ ?_
          rotate_left
          ·intro w'
           go_simp; with_reducible rfl
          rotate_left
          ·exact x14_put
          refine take_ (i := 7) (N := some 66) (v := ?_) (a' := ?_) (bA 10 255) rfl rfl (take_ofW HT_.out HW_.out (by kernel_rfl)) (fun _ _ _ h => h) (Or.inl ⟨by rfl, ?_⟩) hHeld ?_ ?_
          rotate_left
          ·rintro w' ⟨s0, s1, s2, s3, s4, s5, s6⟩
           go_simp; with_reducible rfl
          rotate_left
          ·exact x14_put
          refine one_ (i := 8) (N := some 67) (bA 10 511) rfl rfl (one_of HT_.out (by kernel_rfl)) (by decide) (fun K hK => ?_)
          refine goes_ Try.func18 (by kernel_rfl) rfl #[.agg #[.int .i64 t486, .int .i64 t487, .int .i64 t488, .int .i64 t489], .agg #[.int .i64 ((rd_T46 (rd_L2 t483 x8_3) x9_4).f0), .int .i64 ((rd_T46 (rd_L2 t483 x8_3) x9_4).f1)]] (by rfl) rfl rfl z14_38 ?_
          with_reducible refine (spec_InBox.calls t486 t487 t488 t489 ((rd_T46 (rd_L2 t483 x8_3) x9_4).f0) ((rd_T46 (rd_L2 t483 x8_3) x9_4).f1) true _ A45.out).mono ?_
          rintro e w48 ⟨rfl, hb⟩
          have HS4_ := (hb.cell (World.block_lt_of_cell? _ _ (hHeld.2.2.2.2.1))).trans (hHeld.2.2.2.2.1)
          have HS5_ := (hb.cell (World.block_lt_of_cell? _ _ (hHeld.2.2.2.2.2.1))).trans (hHeld.2.2.2.2.2.1)
          have HS6_ := (hb.cell (World.block_lt_of_cell? _ _ (hHeld.2.2.2.2.2.2))).trans (hHeld.2.2.2.2.2.2)
          refine ⟨_, rfl, ?_⟩
          have n0_ := mk0 (Kd.S_below (pkS HO_4) hb)
          have n1_ := mk0 (Kd.R_below (pkR HO_483000) hb)
          have n2_ := mk0 (Kd.R_below (pkR HO_483001) hb)
          have n3_ := mk0 (Kd.R_below (pkR HL506_0) hb)
          have n4_ := mk0 (Kd.R_below (pkR HL507_0) hb)
          have n5_ := mk0 (blk_belowB BK482 (pkb BK482) hb)
          have n6_ := mk0 (blk_belowB BK490 (pkb BK490) hb)
          have n7_ := mk0 (Kd.C_below (by repeat (first | (with_reducible exact HR506_0.out) | (with_reducible refine Kd.C_alloc ?_ _) | (with_reducible refine Kd.C_drewN ?_ _) | (with_reducible refine Kd.C_drew ?_) | exact HR506_0.out)) hb)
          have n8_ := mk0 (Kd.C_below z14_44 hb)
          have n9_ := mk0 (below_step z14_36 hb)
          clear HO_4 HO_483000 HO_483001 HL506_0 HL507_0 BK482 BK490 HR506_0 HR507_0 HB; have HO_4 := n0_; have HO_483000 := n1_; have HO_483001 := n2_; have HL506_0 := n3_; have HL507_0 := n4_; have BK482 := n5_; have BK490 := n6_; have HR506_0 := n7_; have HR507_0 := n8_; have HB := n9_; clear n0_ n1_ n2_ n3_ n4_ n5_ n6_ n7_ n8_ n9_; (try clear hb); (try clear hb2); (try clear hk); (try clear hi)
          refine hK.out _ _ ⟨(blk_cell BK490.out 0).trans rfl, (blk_cell BK490.out 1).trans rfl, (blk_cell BK490.out 2).trans rfl, (blk_cell BK490.out 3).trans rfl, HS4_, HS5_, HS6_⟩ (fun hHeld => ?_)
          clear hK K
          refine norm_ (a' := ?_) ?_ ?_
          rotate_left
          ·show Act.put _ (some 67) _ = _
           simp only [Act.put, List.setIfInBounds_toArray, List.set_cons_zero, List.set_cons_succ, i64_w, i32_w]
           rfl
          refine pzv (i := 9) (N := 68) (v := ?_) (a' := ?_) (bA 10 1023) HT_ ?_ ?_ ?_
          rotate_left
          ·intro w'
           go_simp; with_reducible rfl
          rotate_left
          ·exact x14_put
          refine done_ (done_of HT_.out (by kernel_rfl)) ?_
          try go_wp2
          go_roundg k4
          case measure => have := HJ6.out; have := HK2.out; have := HK3.out; have := HK4.out; omega
          case rel => exact ⟨(wrap64 (x9_4 + 1)), rs0, H', ⟨(by have := HJ6.out; have := HK2.out; have := HK3.out; have := HK4.out; omega)⟩, ⟨pkS HO_4⟩, ⟨pkR HO_483000⟩, ⟨pkR HO_483001⟩, ⟨pkb BK482⟩, ⟨pkb BK490⟩, ⟨z14_36⟩⟩
       rw [if_neg c39] at H
       have c39b0 := decide_eq_false c39
       clear c39
       obtain ⟨ji49, hji49⟩ : ∃ j_ : Int, (wrap64 ((t483.length : Int) - 1)) = j_ := ⟨_, rfl⟩
       replace H : (if 0 ≤ (ji49) then (if (ji49) < (t483.length : Int) then (if 0 ≤ (wrap64 ((t476.length : Int) - 1)) then (if (wrap64 ((t476.length : Int) - 1)) < (t476.length : Int) then (if (rd t476 (wrap64 ((t476.length : Int) - 1))) = 5 then (if 0 < ((rd_L2 t483 (ji49)).length : Int) then (if 0 ≤ (wrap64 (((rd_L2 t483 (ji49)).length : Int) - 1)) then (if (wrap64 (((rd_L2 t483 (ji49)).length : Int) - 1)) < ((rd_L2 t483 (ji49)).length : Int) then (if (!(((rd_T46 (rd_L2 t483 (ji49)) 0).f0) == ((rd_T46 (rd_L2 t483 (ji49)) (wrap64 (((rd_L2 t483 (ji49)).length : Int) - 1))).f0)) || (!(((rd_T46 (rd_L2 t483 (ji49)) 0).f1) == ((rd_T46 (rd_L2 t483 (ji49)) (wrap64 (((rd_L2 t483 (ji49)).length : Int) - 1))).f1)))) = true then (some false) else (if x6_2 = (t483.length : Int) then (if 0 < (t483.length : Int) then (if 0 < ((rd_L2 t483 0).length : Int) then (if 0 < (t479.length : Int) then (some (((rd_T46 (rd_L2 t483 0) 0).f0) == ((rd_T46 t479 0).f0) && (((rd_T46 (rd_L2 t483 0) 0).f1) == ((rd_T46 t479 0).f1)))) else (none)) else (none)) else (none)) else (some false))) else (none)) else (none)) else (none)) else (if x6_2 = (t483.length : Int) then (if 0 < (t483.length : Int) then (if 0 < ((rd_L2 t483 0).length : Int) then (if 0 < (t479.length : Int) then (some (((rd_T46 (rd_L2 t483 0) 0).f0) == ((rd_T46 t479 0).f0) && (((rd_T46 (rd_L2 t483 0) 0).f1) == ((rd_T46 t479 0).f1)))) else (none)) else (none)) else (none)) else (some false))) else (none)) else (none)) else (none)) else (none)) = some r := by first | (rw [hji49] at H; exact H) | (simp only [hji49] at H ⊢; exact H)
       have hji49w : (IntKind.i64.wrap ((t483.length : Int) - 1)) = ji49 := (i64_w _).trans hji49
       by_cases c50 : 0 ≤ (ji49)
       rotate_left
       ·rw [if_neg c50] at H
        exact absurd H (by simp)
       rw [if_pos c50] at H
       have c50b0 := decide_eq_true c50
       clear c50
       by_cases c51 : (ji49) < (t483.length : Int)
       rotate_left
       ·rw [if_neg c51] at H
        exact absurd H (by simp)
       rw [if_pos c51] at H
       have c51b0 := decide_eq_true c51
       clear c51
       obtain ⟨ji52, hji52⟩ : ∃ j_ : Int, (wrap64 ((t476.length : Int) - 1)) = j_ := ⟨_, rfl⟩
       replace H : (if 0 ≤ (ji52) then (if (ji52) < (t476.length : Int) then (if (rd t476 (ji52)) = 5 then (if 0 < ((rd_L2 t483 (ji49)).length : Int) then (if 0 ≤ (wrap64 (((rd_L2 t483 (ji49)).length : Int) - 1)) then (if (wrap64 (((rd_L2 t483 (ji49)).length : Int) - 1)) < ((rd_L2 t483 (ji49)).length : Int) then (if (!(((rd_T46 (rd_L2 t483 (ji49)) 0).f0) == ((rd_T46 (rd_L2 t483 (ji49)) (wrap64 (((rd_L2 t483 (ji49)).length : Int) - 1))).f0)) || (!(((rd_T46 (rd_L2 t483 (ji49)) 0).f1) == ((rd_T46 (rd_L2 t483 (ji49)) (wrap64 (((rd_L2 t483 (ji49)).length : Int) - 1))).f1)))) = true then (some false) else (if x6_2 = (t483.length : Int) then (if 0 < (t483.length : Int) then (if 0 < ((rd_L2 t483 0).length : Int) then (if 0 < (t479.length : Int) then (some (((rd_T46 (rd_L2 t483 0) 0).f0) == ((rd_T46 t479 0).f0) && (((rd_T46 (rd_L2 t483 0) 0).f1) == ((rd_T46 t479 0).f1)))) else (none)) else (none)) else (none)) else (some false))) else (none)) else (none)) else (none)) else (if x6_2 = (t483.length : Int) then (if 0 < (t483.length : Int) then (if 0 < ((rd_L2 t483 0).length : Int) then (if 0 < (t479.length : Int) then (some (((rd_T46 (rd_L2 t483 0) 0).f0) == ((rd_T46 t479 0).f0) && (((rd_T46 (rd_L2 t483 0) 0).f1) == ((rd_T46 t479 0).f1)))) else (none)) else (none)) else (none)) else (some false))) else (none)) else (none)) = some r := by first | (rw [hji52] at H; exact H) | (simp only [hji52] at H ⊢; exact H)
       have hji52w : (IntKind.i64.wrap ((t476.length : Int) - 1)) = ji52 := (i64_w _).trans hji52
       by_cases c53 : 0 ≤ (ji52)
       rotate_left
       ·rw [if_neg c53] at H
        exact absurd H (by simp)
       rw [if_pos c53] at H
       have c53b0 := decide_eq_true c53
       clear c53
       by_cases c54 : (ji52) < (t476.length : Int)
       rotate_left
       ·rw [if_neg c54] at H
        exact absurd H (by simp)
       rw [if_pos c54] at H
       have c54b0 := decide_eq_true c54
       clear c54
       by_cases c55 : (rd t476 (ji52)) = 5
       rotate_left
       ·rw [if_neg c55] at H
        have c55b0 : ((rd t476 (ji52)) == 5) = false := beq_eq_false_iff_ne.mpr c55
        have c55b1 : ((rd t476 (ji52)) != 5) = true := bne_iff_ne.mpr c55
        by_cases c68 : x6_2 = (t483.length : Int)
        rotate_left
        ·rw [if_neg c68] at H
         have c68b0 : (x6_2 == (t483.length : Int)) = false := beq_eq_false_iff_ne.mpr c68
         have c68b1 : (x6_2 != (t483.length : Int)) = true := bne_iff_ne.mpr c68
         obtain rfl := Option.some.inj H
         exact absurd hT Bool.false_ne_true
        rw [if_pos c68] at H
        have c68b0 : (x6_2 == (t483.length : Int)) = true := beq_iff_eq.mpr c68
        have c68b1 : (x6_2 != (t483.length : Int)) = false := bne_eq_false_iff_eq.mpr c68
        clear c68
        by_cases c69 : 0 < (t483.length : Int)
        rotate_left
        ·rw [if_neg c69] at H
         exact absurd H (by simp)
        rw [if_pos c69] at H
        have c69b0 := decide_eq_true c69
        have c69b1 : decide (0 < t483.length) = true := decide_eq_true (by omega)
        clear c69
        by_cases c70 : 0 < ((rd_L2 t483 0).length : Int)
        rotate_left
        ·rw [if_neg c70] at H
         exact absurd H (by simp)
        rw [if_pos c70] at H
        have c70b0 := decide_eq_true c70
        have c70b1 : decide (0 < (rd_L2 t483 0).length) = true := decide_eq_true (by omega)
        clear c70
        by_cases c71 : 0 < (t479.length : Int)
        rotate_left
        ·rw [if_neg c71] at H
         exact absurd H (by simp)
        rw [if_pos c71] at H
        have c71b0 := decide_eq_true c71
        have c71b1 : decide (0 < t479.length) = true := decide_eq_true (by omega)
        clear c71
        obtain rfl := Option.some.inj H
        simp only [Option.some.injEq, Prod.mk.injEq] at H
        obtain ⟨rfl⟩ := H
        obtain ⟨Ao72, co72, eo72⟩ := Kd.S_slice HO_4.out
        subst eo72
        have p496 : 0 ≤ ((ji49) : Int) := of_decide_eq_true (by first | (with_reducible assumption) | assumption)
        have q496 : (ji49) < (t483.length : Int) := of_decide_eq_true (by first | (with_reducible assumption) | assumption)
        obtain ⟨ad496, A496_0, c496_0, e496, hx496_0, hl496_0, hi496_0⟩ := at_L2 (Kd.S_reads' HO_4.out).2.2 (ji49) p496 q496
        cases e496
        obtain ⟨ce496, hce496, hMe496, hcc496⟩ := Kd.S_get HO_4.out [] (ji49) p496 z14_48
        obtain ⟨ve496_0, rfl, ge496_0⟩ := hMe496
        have hv496_0 := hcc496 0 _ rfl
        rw [Nat.add_zero, show ((Kd.slice 46 k46)).sz = 1 from rfl, Nat.mul_one] at hv496_0
        replace hv496_0 := Option.some.inj (hv496_0.symm.trans hx496_0)
        rw [hv496_0] at ge496_0
        have HL496_0 := mk0 (show Kd.R k46 46 _ _ _ _ (rd_L2 t483 (ji49)) from ge496_0)
        clear hv496_0 ge496_0 hcc496 hce496
        have HR496_0 := mk0 hi496_0
        have HC496_0 := mk0 hl496_0
        clear hi496_0 hl496_0
        replace p496 := eq_true p496
        replace q496 := eq_true q496
        try go_wp2
        have n0_ := mk0 (Kd.S_drew HO_4.out)
        have n1_ := mk0 (Kd.R_drew HO_483000.out)
        have n2_ := mk0 (Kd.R_drew HO_483001.out)
        have n3_ := mk0 (Kd.R_drew HL496_0.out)
        have n4_ := mk0 (blk_drew BK482.out)
        have n5_ := mk0 (blk_drew BK490.out)
        have n6_ := mk0 (Kd.C_drew HR496_0.out)
        have n7_ := mk0 (below_drew1 HB.out)
        clear HO_4 HO_483000 HO_483001 HL496_0 BK482 BK490 HR496_0 HB; have HO_4 := n0_; have HO_483000 := n1_; have HO_483001 := n2_; have HL496_0 := n3_; have BK482 := n4_; have BK490 := n5_; have HR496_0 := n6_; have HB := n7_; clear n0_ n1_ n2_ n3_ n4_ n5_ n6_ n7_
        have p497 : 0 ≤ ((ji52) : Int) := of_decide_eq_true (by first | (with_reducible assumption) | assumption)
        have q497 : (ji52) < (t476.length : Int) := of_decide_eq_true (by first | (with_reducible assumption) | assumption)
        obtain ⟨ad497, e497, hx497_0⟩ := Kd.at_int (Kd.R_reads' HO_483000.out).2.2 (ji52) p497 q497
        cases e497
        replace p497 := eq_true p497
        replace q497 := eq_true q497
        refine start_ (n := 21) (S := fun w' => w'.cell? ⟨gb482, 0, none⟩ = some (.slice (some ad497) t476.length co10) ∧ w'.cell? ⟨gb482, 1, none⟩ = some (.slice Ao12 t479.length co12) ∧ w'.cell? (ad497.add ((ji52)).toNat) = some (.int .i64 (rd t476 (ji52)))) (ds := []) y14_0 (by kernel_rfl) rfl rfl ⟨(blk_cell BK482.out 0).trans rfl, (blk_cell BK482.out 1).trans rfl, hx497_0⟩ (fun hHeld => ?_); refine with_tabW laws_FnFlats.tab23 laws_FnFlats.bits23 (fun HT_ HW_ => ?_)
        generalize wr.drew = w73 at HO_4 HO_483000 HO_483001 HL496_0 BK482 BK490 HR496_0 HB hx497_0 hHeld ⊢
        refine pzv (i := 0) (N := 75) (v := ?_) (a' := ?_) y14_7 HT_ ?_ ?_ ?_
        rotate_left
        ·intro w'
         go_simp; with_reducible rfl
        rotate_left
        ·exact x14_put
        refine pzv (i := 2) (N := 77) (v := ?_) (a' := ?_) y14_9 HT_ ?_ ?_ ?_
        rotate_left
        ·intro w'
         go_simp; with_reducible rfl
        rotate_left
        ·exact x14_put
        refine take_ (i := 1) (N := some 76) (v := ?_) (a' := ?_) y14_11 rfl rfl (take_ofW HT_.out HW_.out (by kernel_rfl)) (fun _ _ _ h => h) (Or.inl ⟨by rfl, ?_⟩) hHeld ?_ ?_
        rotate_left
        ·rintro w' ⟨s0, s1, s2⟩
         go_simp; with_reducible rfl
        rotate_left
        ·exact x14_put
        refine take_ (i := 3) (N := some 78) (v := ?_) (a' := ?_) y14_13 rfl rfl (take_ofW HT_.out HW_.out (by kernel_rfl)) (fun _ _ _ h => h) (Or.inl ⟨by rfl, ?_⟩) hHeld ?_ ?_
        rotate_left
        ·rintro w' ⟨s0, s1, s2⟩
         go_simp; with_reducible rfl
        rotate_left
        ·exact x14_put
        refine pzv (i := 4) (N := 79) (v := ?_) (a' := ?_) y14_16 HT_ ?_ ?_ ?_
        rotate_left
        ·intro w'
         go_simp; with_reducible rfl
        rotate_left
        ·exact x14_put
        refine pzv (i := 5) (N := 80) (v := ?_) (a' := ?_) y14_18 HT_ ?_ ?_ ?_
        rotate_left
        ·intro w'
         go_simp; with_reducible rfl
        rotate_left
        ·exact x14_put
        refine pzv (i := 6) (N := 81) (v := ?_) (a' := ?_) y14_21 HT_ ?_ ?_ ?_
        rotate_left
        ·intro w'
         go_simp; with_reducible rfl
        rotate_left
        ·exact x14_put
        refine take_ (i := 7) (N := some 82) (v := ?_) (a' := ?_) y14_25 rfl rfl (take_ofW HT_.out HW_.out (by kernel_rfl)) (fun _ _ _ h => h) (Or.inl ⟨by rfl, ?_⟩) hHeld ?_ ?_
        rotate_left
        ·rintro w' ⟨s0, s1, s2⟩
         go_simp; with_reducible rfl
        rotate_left
        ·exact x14_put
        refine pzv (i := 8) (N := 83) (v := ?_) (a' := ?_) y14_28 HT_ ?_ ?_ ?_
        rotate_left
        ·intro w'
         go_simp; with_reducible rfl
        rotate_left
        ·exact x14_put
        refine pzv (i := 9) (N := 84) (v := ?_) (a' := ?_) y14_31 HT_ ?_ ?_ ?_
        rotate_left
        ·intro w'
         go_simp; with_reducible rfl
        rotate_left
        ·exact x14_put
        refine pzu (i := 10) (N := 85) (a' := ?_) y14_32 HT_ ?_ ?_
        rotate_left
        ·exact x14_put
        refine pzu (i := 11) (N := 86) (a' := ?_) y14_34 HT_ ?_ ?_
        rotate_left
        ·exact x14_put
        refine pzu (i := 12) (N := 87) (a' := ?_) (bA 21 8191) HT_ ?_ ?_
        rotate_left
        ·exact x14_put
        refine pzu (i := 13) (N := 88) (a' := ?_) (bA 21 16383) HT_ ?_ ?_
        rotate_left
        ·exact x14_put
        refine pzu (i := 14) (N := 89) (a' := ?_) (bA 21 32767) HT_ ?_ ?_
        rotate_left
        ·exact x14_put
        refine pzu (i := 15) (N := 90) (a' := ?_) (bA 21 65535) HT_ ?_ ?_
        rotate_left
        ·exact x14_put
        refine pzu (i := 16) (N := 91) (a' := ?_) (bA 21 131071) HT_ ?_ ?_
        rotate_left
        ·exact x14_put
        refine pzu (i := 17) (N := 92) (a' := ?_) y14_50 HT_ ?_ ?_
        rotate_left
        ·exact x14_put
        refine pzu (i := 18) (N := 93) (a' := ?_) y14_51 HT_ ?_ ?_
        rotate_left
        ·exact x14_put
        refine pzu (i := 19) (N := 94) (a' := ?_) y14_52 HT_ ?_ ?_
        rotate_left
        ·exact x14_put
        refine pzv (i := 20) (N := 95) (v := ?_) (a' := ?_) y14_53 HT_ ?_ ?_ ?_
        rotate_left
        ·intro w'
         go_simp; with_reducible rfl
        rotate_left
        ·exact x14_put
        refine done_ (done_of HT_.out (by kernel_rfl)) ?_
        try go_wp2
        have n0_ := mk0 (Kd.S_drew HO_4.out)
        have n1_ := mk0 (Kd.R_drew HO_483000.out)
        have n2_ := mk0 (Kd.R_drew HO_483001.out)
        have n3_ := mk0 (Kd.R_drew HL496_0.out)
        have n4_ := mk0 (blk_drew BK482.out)
        have n5_ := mk0 (blk_drew BK490.out)
        have n6_ := mk0 (Kd.C_drew HR496_0.out)
        have n7_ := mk0 (below_drew1 HB.out)
        clear HO_4 HO_483000 HO_483001 HL496_0 BK482 BK490 HR496_0 HB; have HO_4 := n0_; have HO_483000 := n1_; have HO_483001 := n2_; have HL496_0 := n3_; have BK482 := n4_; have BK490 := n5_; have HR496_0 := n6_; have HB := n7_; clear n0_ n1_ n2_ n3_ n4_ n5_ n6_ n7_
        have p503 : 0 ≤ (0 : Int) := (by omega)
        have q503 : 0 < (t483.length : Int) := of_decide_eq_true (by first | (with_reducible assumption) | assumption)
        obtain ⟨ad503, A503_0, c503_0, e503, hx503_0, hl503_0, hi503_0⟩ := at_L2 (Kd.S_reads' HO_4.out).2.2 0 p503 q503
        obtain rfl : ad496 = ad503 := (by injection e503)
        obtain ⟨ce503, hce503, hMe503, hcc503⟩ := Kd.S_get HO_4.out [] 0 p503 (by first | exact q503 | exact of_decide_eq_true (by first | (with_reducible assumption) | assumption) | (have e_ := (Kd.S_reads' HO_4.out).1; omega))
        obtain ⟨ve503_0, rfl, ge503_0⟩ := hMe503
        have hv503_0 := hcc503 0 _ rfl
        rw [Nat.add_zero, show ((Kd.slice 46 k46)).sz = 1 from rfl, Nat.mul_one] at hv503_0
        replace hv503_0 := Option.some.inj (hv503_0.symm.trans hx503_0)
        rw [hv503_0] at ge503_0
        have HL503_0 := mk0 (show Kd.R k46 46 _ _ _ _ (rd_L2 t483 0) from ge503_0)
        clear hv503_0 ge503_0 hcc503 hce503
        have qi503 : (0 < t483.length) = True := eq_true (by omega)
        (try rw [show ((0 : Int)).toNat = 0 from rfl] at hx503_0)
        (try rw [Addr.add_zero'] at hx503_0)
        have HR503_0 := mk0 hi503_0
        have HC503_0 := mk0 hl503_0
        clear hi503_0 hl503_0
        replace p503 := eq_true p503
        replace q503 := eq_true q503
        have p504 : 0 ≤ (0 : Int) := (by omega)
        have q504 : 0 < ((rd_L2 t483 0).length : Int) := of_decide_eq_true (by first | (with_reducible assumption) | assumption)
        obtain ⟨ad504, e504, hx504_0, hx504_1⟩ := at_T46 (by repeat (first | (with_reducible exact HR503_0.out) | (with_reducible refine Kd.C_alloc ?_ _) | (with_reducible refine Kd.C_drewN ?_ _) | (with_reducible refine Kd.C_drew ?_) | exact HR503_0.out)) 0 p504 q504
        cases e504
        have qi504 : (0 < (rd_L2 t483 0).length) = True := eq_true (by omega)
        (try rw [show ((0 : Int)).toNat = 0 from rfl] at hx504_0)
        (try rw [show 0 * 2 = 0 from rfl] at hx504_0)
        (try rw [Addr.add_zero'] at hx504_0)
        (try rw [show ((0 : Int)).toNat = 0 from rfl] at hx504_1)
        (try rw [show 0 * 2 = 0 from rfl] at hx504_1)
        (try rw [Addr.add_zero'] at hx504_1)
        replace p504 := eq_true p504
        replace q504 := eq_true q504
        have p505 : 0 ≤ (0 : Int) := (by omega)
        have q505 : 0 < (t479.length : Int) := of_decide_eq_true (by first | (with_reducible assumption) | assumption)
        (try (obtain ⟨Aq505, cq505, eq505⟩ := Kd.R_slice HO_483001.out; subst eq505))
        obtain ⟨ad505, e505, hx505_0, hx505_1⟩ := at_T46 (Kd.R_reads' HO_483001.out).2.2 0 p505 q505
        cases e505
        have qi505 : (0 < t479.length) = True := eq_true (by omega)
        (try rw [show ((0 : Int)).toNat = 0 from rfl] at hx505_0)
        (try rw [show 0 * 2 = 0 from rfl] at hx505_0)
        (try rw [Addr.add_zero'] at hx505_0)
        (try rw [show ((0 : Int)).toNat = 0 from rfl] at hx505_1)
        (try rw [show 0 * 2 = 0 from rfl] at hx505_1)
        (try rw [Addr.add_zero'] at hx505_1)
        replace p505 := eq_true p505
        replace q505 := eq_true q505
        refine start_ (n := 17) (S := fun w' => w'.cell? ⟨gb482, 0, none⟩ = some (.slice (some ad497) t476.length co10) ∧ w'.cell? ⟨gb482, 1, none⟩ = some (.slice (some ad505) t479.length co12) ∧ w'.cell? ad496 = some (.slice (some ad504) (rd_L2 t483 0).length c503_0) ∧ w'.cell? ad504 = some (.int .i64 ((rd_T46 (rd_L2 t483 0) 0).f0)) ∧ w'.cell? ⟨ad504.block, ad504.off + 1, none⟩ = some (.int .i64 ((rd_T46 (rd_L2 t483 0) 0).f1)) ∧ w'.cell? ad505 = some (.int .i64 ((rd_T46 t479 0).f0)) ∧ w'.cell? ⟨ad505.block, ad505.off + 1, none⟩ = some (.int .i64 ((rd_T46 t479 0).f1))) (ds := []) y14_1 (by kernel_rfl) rfl rfl ⟨(blk_cell BK482.out 0).trans rfl, (blk_cell BK482.out 1).trans rfl, hx503_0, hx504_0, hx504_1, hx505_0, hx505_1⟩ (fun hHeld => ?_); refine with_tabW laws_FnFlats.tab25 laws_FnFlats.bits25 (fun HT_ HW_ => ?_)
        generalize w73.drew = w74 at HO_4 HO_483000 HO_483001 HL496_0 BK482 BK490 HR496_0 HB HL503_0 HR503_0 hx503_0 hx504_0 hx504_1 hx505_0 hx505_1 hHeld ⊢
        refine pzv (i := 0) (N := 96) (v := ?_) (a' := ?_) y14_8 HT_ ?_ ?_ ?_
        rotate_left
        ·intro w'
         go_simp; with_reducible rfl
        rotate_left
        ·exact x14_put
        refine pzv (i := 1) (N := 97) (v := ?_) (a' := ?_) y14_10 HT_ ?_ ?_ ?_
        rotate_left
        ·intro w'
         go_simp; with_reducible rfl
        rotate_left
        ·exact x14_put
        refine pzv (i := 2) (N := 98) (v := ?_) (a' := ?_) y14_12 HT_ ?_ ?_ ?_
        rotate_left
        ·intro w'
         go_simp; with_reducible rfl
        rotate_left
        ·exact x14_put
        refine pzv (i := 3) (N := 99) (v := ?_) (a' := ?_) y14_14 HT_ ?_ ?_ ?_
        rotate_left
        ·intro w'
         go_simp; with_reducible rfl
        rotate_left
        ·exact x14_put
        refine pzv (i := 4) (N := 100) (v := ?_) (a' := ?_) y14_17 HT_ ?_ ?_ ?_
        rotate_left
        ·intro w'
         go_simp; with_reducible rfl
        rotate_left
        ·exact x14_put
        refine pzv (i := 5) (N := 101) (v := ?_) (a' := ?_) y14_19 HT_ ?_ ?_ ?_
        rotate_left
        ·intro w'
         go_simp; with_reducible rfl
        rotate_left
        ·exact x14_put
        refine pzv (i := 6) (N := 102) (v := ?_) (a' := ?_) y14_22 HT_ ?_ ?_ ?_
        rotate_left
        ·intro w'
         go_simp; with_reducible rfl
        rotate_left
        ·exact x14_put
        refine pzv (i := 10) (N := 106) (v := ?_) (a' := ?_) y14_23 HT_ ?_ ?_ ?_
        rotate_left
        ·intro w'
         go_simp; with_reducible rfl
        rotate_left
        ·exact x14_put
        refine take_ (i := 7) (N := some 103) (v := ?_) (a' := ?_) y14_26 rfl rfl (take_ofW HT_.out HW_.out (by kernel_rfl)) (fun _ _ _ h => h) (Or.inl ⟨by rfl, ?_⟩) hHeld ?_ ?_
        rotate_left
        ·rintro w' ⟨s0, s1, s2, s3, s4, s5, s6⟩
         go_simp; with_reducible rfl
        rotate_left
        ·exact x14_put
        refine pzv (i := 8) (N := 104) (v := ?_) (a' := ?_) y14_29 HT_ ?_ ?_ ?_
        rotate_left
        ·intro w'
         go_simp; with_reducible rfl
        rotate_left
        ·exact x14_put
        refine take_ (i := 9) (N := some 105) (v := ?_) (a' := ?_) y14_33 rfl rfl (take_ofW HT_.out HW_.out (by kernel_rfl)) (fun _ _ _ h => h) (Or.inl ⟨by rfl, ?_⟩) hHeld ?_ ?_
        rotate_left
        ·rintro w' ⟨s0, s1, s2, s3, s4, s5, s6⟩
         go_simp; with_reducible rfl
        rotate_left
        ·exact x14_put
        refine take_ (i := 11) (N := some 107) (v := ?_) (a' := ?_) y14_35 rfl rfl (take_ofW HT_.out HW_.out (by kernel_rfl)) (fun _ _ _ h => h) (Or.inl ⟨by rfl, ?_⟩) hHeld ?_ ?_
        rotate_left
        ·rintro w' ⟨s0, s1, s2, s3, s4, s5, s6⟩
         go_simp; with_reducible rfl
        rotate_left
        ·exact x14_put
        refine pzv (i := 12) (N := 108) (v := ?_) (a' := ?_) y14_42 HT_ ?_ ?_ ?_
        rotate_left
        ·intro w'
         go_simp; with_reducible rfl
        rotate_left
        ·exact x14_put
        refine take_ (i := 13) (N := some 109) (v := ?_) (a' := ?_) y14_44 rfl rfl (take_ofW HT_.out HW_.out (by kernel_rfl)) (fun _ _ _ h => h) (Or.inl ⟨by rfl, ?_⟩) hHeld ?_ ?_
        rotate_left
        ·rintro w' ⟨s0, s1, s2, s3, s4, s5, s6⟩
         go_simp; with_reducible rfl
        rotate_left
        ·exact x14_put
        refine pzv (i := 14) (N := 110) (v := ?_) (a' := ?_) y14_46 HT_ ?_ ?_ ?_
        rotate_left
        ·intro w'
         go_simp; with_reducible rfl
        rotate_left
        ·exact x14_put
        refine pzv (i := 15) (N := 111) (v := ?_) (a' := ?_) y14_48 HT_ ?_ ?_ ?_
        rotate_left
        ·intro w'
         go_simp; with_reducible rfl
        rotate_left
        ·exact x14_put
        refine pzv (i := 16) (N := 2) (v := ?_) (a' := ?_) y14_54 HT_ ?_ ?_ ?_
        rotate_left
        ·intro w'
         go_simp; with_reducible rfl
        rotate_left
        ·exact x14_put
        refine done_ (done_of HT_.out (by kernel_rfl)) ?_
        try go_wp2
        go_ret
        exact ⟨(by first | rfl | (simp [errW_none, errW_some] <;> rfl) | (simp only [← hji49, ← hji52]; first | rfl | (simp [errW_none, errW_some] <;> rfl)) | (simp [*, errW_none, errW_some] <;> rfl)), z14_36⟩
       rw [if_pos c55] at H
       have c55b0 : ((rd t476 (ji52)) == 5) = true := beq_iff_eq.mpr c55
       have c55b1 : ((rd t476 (ji52)) != 5) = false := bne_eq_false_iff_eq.mpr c55
       clear c55
       by_cases c56 : 0 < ((rd_L2 t483 (ji49)).length : Int)
       rotate_left
       ·rw [if_neg c56] at H
        exact absurd H (by simp)
       rw [if_pos c56] at H
       have c56b0 := decide_eq_true c56
       have c56b1 : decide (0 < (rd_L2 t483 (ji49)).length) = true := decide_eq_true (by omega)
       clear c56
       obtain ⟨ji57, hji57⟩ : ∃ j_ : Int, (wrap64 (((rd_L2 t483 (ji49)).length : Int) - 1)) = j_ := ⟨_, rfl⟩
       replace H : (if 0 ≤ (ji57) then (if (ji57) < ((rd_L2 t483 (ji49)).length : Int) then (if (!(((rd_T46 (rd_L2 t483 (ji49)) 0).f0) == ((rd_T46 (rd_L2 t483 (ji49)) (ji57)).f0)) || (!(((rd_T46 (rd_L2 t483 (ji49)) 0).f1) == ((rd_T46 (rd_L2 t483 (ji49)) (ji57)).f1)))) = true then (some false) else (if x6_2 = (t483.length : Int) then (if 0 < (t483.length : Int) then (if 0 < ((rd_L2 t483 0).length : Int) then (if 0 < (t479.length : Int) then (some (((rd_T46 (rd_L2 t483 0) 0).f0) == ((rd_T46 t479 0).f0) && (((rd_T46 (rd_L2 t483 0) 0).f1) == ((rd_T46 t479 0).f1)))) else (none)) else (none)) else (none)) else (some false))) else (none)) else (none)) = some r := by first | (rw [hji57] at H; exact H) | (simp only [hji57] at H ⊢; exact H)
       have hji57w : (IntKind.i64.wrap (((rd_L2 t483 (ji49)).length : Int) - 1)) = ji57 := (i64_w _).trans hji57
       by_cases c58 : 0 ≤ (ji57)
       rotate_left
       ·rw [if_neg c58] at H
        exact absurd H (by simp)
       rw [if_pos c58] at H
       have c58b0 := decide_eq_true c58
       clear c58
       by_cases c59 : (ji57) < ((rd_L2 t483 (ji49)).length : Int)
       rotate_left
       ·rw [if_neg c59] at H
        exact absurd H (by simp)
       rw [if_pos c59] at H
       have c59b0 := decide_eq_true c59
       clear c59
       by_cases c60 : (!(((rd_T46 (rd_L2 t483 (ji49)) 0).f0) == ((rd_T46 (rd_L2 t483 (ji49)) (ji57)).f0)) || (!(((rd_T46 (rd_L2 t483 (ji49)) 0).f1) == ((rd_T46 (rd_L2 t483 (ji49)) (ji57)).f1)))) = true
       ·rw [if_pos c60] at H
        have c60b0 : (!(((rd_T46 (rd_L2 t483 (ji49)) 0).f0) == ((rd_T46 (rd_L2 t483 (ji49)) (ji57)).f0)) || (!(((rd_T46 (rd_L2 t483 (ji49)) 0).f1) == ((rd_T46 (rd_L2 t483 (ji49)) (ji57)).f1)))) = true := c60
        clear c60
        obtain rfl := Option.some.inj H
        exact absurd hT Bool.false_ne_true
       rw [if_neg c60] at H
       have c60b0 : (!(((rd_T46 (rd_L2 t483 (ji49)) 0).f0) == ((rd_T46 (rd_L2 t483 (ji49)) (ji57)).f0)) || (!(((rd_T46 (rd_L2 t483 (ji49)) 0).f1) == ((rd_T46 (rd_L2 t483 (ji49)) (ji57)).f1)))) = false := by simpa using c60
       clear c60
       by_cases c61 : x6_2 = (t483.length : Int)
       rotate_left
       ·rw [if_neg c61] at H
        have c61b0 : (x6_2 == (t483.length : Int)) = false := beq_eq_false_iff_ne.mpr c61
        have c61b1 : (x6_2 != (t483.length : Int)) = true := bne_iff_ne.mpr c61
        obtain rfl := Option.some.inj H
        exact absurd hT Bool.false_ne_true
       rw [if_pos c61] at H
       have c61b0 : (x6_2 == (t483.length : Int)) = true := beq_iff_eq.mpr c61
       have c61b1 : (x6_2 != (t483.length : Int)) = false := bne_eq_false_iff_eq.mpr c61
       clear c61
       by_cases c62 : 0 < (t483.length : Int)
       rotate_left
       ·rw [if_neg c62] at H
        exact absurd H (by simp)
       rw [if_pos c62] at H
       have c62b0 := decide_eq_true c62
       have c62b1 : decide (0 < t483.length) = true := decide_eq_true (by omega)
       clear c62
       by_cases c63 : 0 < ((rd_L2 t483 0).length : Int)
       rotate_left
       ·rw [if_neg c63] at H
        exact absurd H (by simp)
       rw [if_pos c63] at H
       have c63b0 := decide_eq_true c63
       have c63b1 : decide (0 < (rd_L2 t483 0).length) = true := decide_eq_true (by omega)
       clear c63
       by_cases c64 : 0 < (t479.length : Int)
       rotate_left
       ·rw [if_neg c64] at H
        exact absurd H (by simp)
       rw [if_pos c64] at H
       have c64b0 := decide_eq_true c64
       have c64b1 : decide (0 < t479.length) = true := decide_eq_true (by omega)
       clear c64
       obtain rfl := Option.some.inj H
       simp only [Option.some.injEq, Prod.mk.injEq] at H
       obtain ⟨rfl⟩ := H
       obtain ⟨Ao65, co65, eo65⟩ := Kd.S_slice HO_4.out
       subst eo65
       have p496 : 0 ≤ ((ji49) : Int) := of_decide_eq_true (by first | (with_reducible assumption) | assumption)
       have q496 : (ji49) < (t483.length : Int) := of_decide_eq_true (by first | (with_reducible assumption) | assumption)
       obtain ⟨ad496, A496_0, c496_0, e496, hx496_0, hl496_0, hi496_0⟩ := at_L2 (Kd.S_reads' HO_4.out).2.2 (ji49) p496 q496
       cases e496
       obtain ⟨ce496, hce496, hMe496, hcc496⟩ := Kd.S_get HO_4.out [] (ji49) p496 z14_48
       obtain ⟨ve496_0, rfl, ge496_0⟩ := hMe496
       have hv496_0 := hcc496 0 _ rfl
       rw [Nat.add_zero, show ((Kd.slice 46 k46)).sz = 1 from rfl, Nat.mul_one] at hv496_0
       replace hv496_0 := Option.some.inj (hv496_0.symm.trans hx496_0)
       rw [hv496_0] at ge496_0
       have HL496_0 := mk0 (show Kd.R k46 46 _ _ _ _ (rd_L2 t483 (ji49)) from ge496_0)
       clear hv496_0 ge496_0 hcc496 hce496
       have HR496_0 := mk0 hi496_0
       have HC496_0 := mk0 hl496_0
       clear hi496_0 hl496_0
       replace p496 := eq_true p496
       replace q496 := eq_true q496
       try go_wp2
       have n0_ := mk0 (Kd.S_drew HO_4.out)
       have n1_ := mk0 (Kd.R_drew HO_483000.out)
       have n2_ := mk0 (Kd.R_drew HO_483001.out)
       have n3_ := mk0 (Kd.R_drew HL496_0.out)
       have n4_ := mk0 (blk_drew BK482.out)
       have n5_ := mk0 (blk_drew BK490.out)
       have n6_ := mk0 (Kd.C_drew HR496_0.out)
       have n7_ := mk0 (below_drew1 HB.out)
       clear HO_4 HO_483000 HO_483001 HL496_0 BK482 BK490 HR496_0 HB; have HO_4 := n0_; have HO_483000 := n1_; have HO_483001 := n2_; have HL496_0 := n3_; have BK482 := n4_; have BK490 := n5_; have HR496_0 := n6_; have HB := n7_; clear n0_ n1_ n2_ n3_ n4_ n5_ n6_ n7_
       have p497 : 0 ≤ ((ji52) : Int) := of_decide_eq_true (by first | (with_reducible assumption) | assumption)
       have q497 : (ji52) < (t476.length : Int) := of_decide_eq_true (by first | (with_reducible assumption) | assumption)
       obtain ⟨ad497, e497, hx497_0⟩ := Kd.at_int (Kd.R_reads' HO_483000.out).2.2 (ji52) p497 q497
       cases e497
       replace p497 := eq_true p497
       replace q497 := eq_true q497
       have p498 : 0 ≤ (0 : Int) := (by omega)
       have q498 : 0 < ((rd_L2 t483 (ji49)).length : Int) := of_decide_eq_true (by first | (with_reducible assumption) | assumption)
       obtain ⟨ad498, e498, hx498_0, hx498_1⟩ := at_T46 z14_45 0 p498 q498
       cases e498
       have qi498 : (0 < (rd_L2 t483 (ji49)).length) = True := eq_true (by omega)
       (try rw [show ((0 : Int)).toNat = 0 from rfl] at hx498_0)
       (try rw [show 0 * 2 = 0 from rfl] at hx498_0)
       (try rw [Addr.add_zero'] at hx498_0)
       (try rw [show ((0 : Int)).toNat = 0 from rfl] at hx498_1)
       (try rw [show 0 * 2 = 0 from rfl] at hx498_1)
       (try rw [Addr.add_zero'] at hx498_1)
       replace p498 := eq_true p498
       replace q498 := eq_true q498
       have p499 : 0 ≤ ((ji57) : Int) := of_decide_eq_true (by first | (with_reducible assumption) | assumption)
       have q499 : (ji57) < ((rd_L2 t483 (ji49)).length : Int) := of_decide_eq_true (by first | (with_reducible assumption) | assumption)
       obtain ⟨ad499, e499, hx499_0, hx499_1⟩ := at_T46 z14_45 (ji57) p499 q499
       obtain rfl : ad498 = ad499 := (by injection e499)
       replace p499 := eq_true p499
       replace q499 := eq_true q499
       refine start_ (n := 21) (S := fun w' => w'.cell? ⟨gb482, 0, none⟩ = some (.slice (some ad497) t476.length co10) ∧ w'.cell? ⟨gb482, 1, none⟩ = some (.slice Ao12 t479.length co12) ∧ w'.cell? (ad497.add ((ji52)).toNat) = some (.int .i64 (rd t476 (ji52))) ∧ w'.cell? ad498 = some (.int .i64 ((rd_T46 (rd_L2 t483 (ji49)) 0).f0)) ∧ w'.cell? ⟨ad498.block, ad498.off + 1, none⟩ = some (.int .i64 ((rd_T46 (rd_L2 t483 (ji49)) 0).f1)) ∧ w'.cell? (ad498.add (((ji57)).toNat * 2)) = some (.int .i64 ((rd_T46 (rd_L2 t483 (ji49)) (ji57)).f0)) ∧ w'.cell? ⟨(ad498.add (((ji57)).toNat * 2)).block, (ad498.add (((ji57)).toNat * 2)).off + 1, none⟩ = some (.int .i64 ((rd_T46 (rd_L2 t483 (ji49)) (ji57)).f1))) (ds := []) y14_0 (by kernel_rfl) rfl rfl ⟨(blk_cell BK482.out 0).trans rfl, (blk_cell BK482.out 1).trans rfl, hx497_0, hx498_0, hx498_1, hx499_0, hx499_1⟩ (fun hHeld => ?_); refine with_tabW laws_FnFlats.tab23 laws_FnFlats.bits23 (fun HT_ HW_ => ?_)
       generalize wr.drew = w66 at HO_4 HO_483000 HO_483001 HL496_0 BK482 BK490 HR496_0 HB hx497_0 hx498_0 hx498_1 hx499_0 hx499_1 hHeld ⊢
       refine pzv (i := 0) (N := 75) (v := ?_) (a' := ?_) y14_7 HT_ ?_ ?_ ?_
       rotate_left
       ·intro w'
        go_simp; with_reducible rfl
       rotate_left
       ·exact x14_put
       refine pzv (i := 2) (N := 77) (v := ?_) (a' := ?_) y14_9 HT_ ?_ ?_ ?_
       rotate_left
       ·intro w'
        go_simp; with_reducible rfl
       rotate_left
       ·exact x14_put
       refine take_ (i := 1) (N := some 76) (v := ?_) (a' := ?_) y14_11 rfl rfl (take_ofW HT_.out HW_.out (by kernel_rfl)) (fun _ _ _ h => h) (Or.inl ⟨by rfl, ?_⟩) hHeld ?_ ?_
       rotate_left
       ·rintro w' ⟨s0, s1, s2, s3, s4, s5, s6⟩
        go_simp; with_reducible rfl
       rotate_left
       ·exact x14_put
       refine take_ (i := 3) (N := some 78) (v := ?_) (a' := ?_) y14_13 rfl rfl (take_ofW HT_.out HW_.out (by kernel_rfl)) (fun _ _ _ h => h) (Or.inl ⟨by rfl, ?_⟩) hHeld ?_ ?_
       rotate_left
       ·rintro w' ⟨s0, s1, s2, s3, s4, s5, s6⟩
        go_simp; with_reducible rfl
       rotate_left
       ·exact x14_put
       refine pzv (i := 4) (N := 79) (v := ?_) (a' := ?_) y14_16 HT_ ?_ ?_ ?_
       rotate_left
       ·intro w'
        go_simp; with_reducible rfl
       rotate_left
       ·exact x14_put
       refine pzv (i := 5) (N := 80) (v := ?_) (a' := ?_) y14_18 HT_ ?_ ?_ ?_
       rotate_left
       ·intro w'
        go_simp; with_reducible rfl
       rotate_left
       ·exact x14_put
       refine pzv (i := 6) (N := 81) (v := ?_) (a' := ?_) y14_21 HT_ ?_ ?_ ?_
       rotate_left
       ·intro w'
        go_simp; with_reducible rfl
       rotate_left
       ·exact x14_put
       refine take_ (i := 7) (N := some 82) (v := ?_) (a' := ?_) y14_25 rfl rfl (take_ofW HT_.out HW_.out (by kernel_rfl)) (fun _ _ _ h => h) (Or.inl ⟨by rfl, ?_⟩) hHeld ?_ ?_
       rotate_left
       ·rintro w' ⟨s0, s1, s2, s3, s4, s5, s6⟩
        go_simp; with_reducible rfl
       rotate_left
       ·exact x14_put
       refine pzv (i := 8) (N := 83) (v := ?_) (a' := ?_) y14_28 HT_ ?_ ?_ ?_
       rotate_left
       ·intro w'
        go_simp; with_reducible rfl
       rotate_left
       ·exact x14_put
       refine pzv (i := 9) (N := 84) (v := ?_) (a' := ?_) y14_31 HT_ ?_ ?_ ?_
       rotate_left
       ·intro w'
        go_simp; with_reducible rfl
       rotate_left
       ·exact x14_put
       refine pzv (i := 10) (N := 85) (v := ?_) (a' := ?_) y14_32 HT_ ?_ ?_ ?_
       rotate_left
       ·intro w'
        go_simp; with_reducible rfl
       rotate_left
       ·exact x14_put
       refine pzv (i := 11) (N := 86) (v := ?_) (a' := ?_) y14_34 HT_ ?_ ?_ ?_
       rotate_left
       ·intro w'
        go_simp; with_reducible rfl
       rotate_left
       ·exact x14_put
       refine pzv (i := 13) (N := 88) (v := ?_) (a' := ?_) (bA 21 12287) HT_ ?_ ?_ ?_
       rotate_left
       ·intro w'
        go_simp; with_reducible rfl
       rotate_left
       ·exact x14_put
       refine pzv (i := 14) (N := 89) (v := ?_) (a' := ?_) (bA 21 28671) HT_ ?_ ?_ ?_
       rotate_left
       ·intro w'
        go_simp; with_reducible rfl
       rotate_left
       ·exact x14_put
       refine pzv (i := 15) (N := 90) (v := ?_) (a' := ?_) (bA 21 61439) HT_ ?_ ?_ ?_
       rotate_left
       ·intro w'
        go_simp; with_reducible rfl
       rotate_left
       ·exact x14_put
       refine pzv (i := 16) (N := 91) (v := ?_) (a' := ?_) (bA 21 126975) HT_ ?_ ?_ ?_
       rotate_left
       ·intro w'
        go_simp; with_reducible rfl
       rotate_left
       ·exact x14_put
       refine pzv (i := 17) (N := 92) (v := ?_) (a' := ?_) (bA 21 258047) HT_ ?_ ?_ ?_
       rotate_left
       ·intro w'
        go_simp; with_reducible rfl
       rotate_left
       ·exact x14_put
       refine take_ (i := 12) (N := some 87) (v := ?_) (a' := ?_) y14_50 rfl rfl (take_ofW HT_.out HW_.out (by kernel_rfl)) (fun _ _ _ h => h) (Or.inl ⟨by rfl, ?_⟩) hHeld ?_ ?_
       rotate_left
       ·rintro w' ⟨s0, s1, s2, s3, s4, s5, s6⟩
        go_simp; with_reducible rfl
       rotate_left
       ·exact x14_put
       refine take_ (i := 18) (N := some 93) (v := ?_) (a' := ?_) y14_51 rfl rfl (take_ofW HT_.out HW_.out (by kernel_rfl)) (fun _ _ _ h => h) (Or.inl ⟨by rfl, ?_⟩) hHeld ?_ ?_
       rotate_left
       ·rintro w' ⟨s0, s1, s2, s3, s4, s5, s6⟩
        go_simp; with_reducible rfl
       rotate_left
       ·exact x14_put
       refine pzv (i := 19) (N := 94) (v := ?_) (a' := ?_) y14_52 HT_ ?_ ?_ ?_
       rotate_left
       ·intro w'
        go_simp; with_reducible rfl
       rotate_left
       ·exact x14_put
       refine pzv (i := 20) (N := 95) (v := ?_) (a' := ?_) y14_53 HT_ ?_ ?_ ?_
       rotate_left
       ·intro w'
        go_simp; with_reducible rfl
       rotate_left
       ·exact x14_put
       refine done_ (done_of HT_.out (by kernel_rfl)) ?_
       try go_wp2
       have n0_ := mk0 (Kd.S_drew HO_4.out)
       have n1_ := mk0 (Kd.R_drew HO_483000.out)
       have n2_ := mk0 (Kd.R_drew HO_483001.out)
       have n3_ := mk0 (Kd.R_drew HL496_0.out)
       have n4_ := mk0 (blk_drew BK482.out)
       have n5_ := mk0 (blk_drew BK490.out)
       have n6_ := mk0 (Kd.C_drew HR496_0.out)
       have n7_ := mk0 (below_drew1 HB.out)
       clear HO_4 HO_483000 HO_483001 HL496_0 BK482 BK490 HR496_0 HB; have HO_4 := n0_; have HO_483000 := n1_; have HO_483001 := n2_; have HL496_0 := n3_; have BK482 := n4_; have BK490 := n5_; have HR496_0 := n6_; have HB := n7_; clear n0_ n1_ n2_ n3_ n4_ n5_ n6_ n7_
       have p500 : 0 ≤ (0 : Int) := (by omega)
       have q500 : 0 < (t483.length : Int) := of_decide_eq_true (by first | (with_reducible assumption) | assumption)
       obtain ⟨ad500, A500_0, c500_0, e500, hx500_0, hl500_0, hi500_0⟩ := at_L2 (Kd.S_reads' HO_4.out).2.2 0 p500 q500
       obtain rfl : ad496 = ad500 := (by injection e500)
       obtain ⟨ce500, hce500, hMe500, hcc500⟩ := Kd.S_get HO_4.out [] 0 p500 (by first | exact q500 | exact of_decide_eq_true (by first | (with_reducible assumption) | assumption) | (have e_ := (Kd.S_reads' HO_4.out).1; omega))
       obtain ⟨ve500_0, rfl, ge500_0⟩ := hMe500
       have hv500_0 := hcc500 0 _ rfl
       rw [Nat.add_zero, show ((Kd.slice 46 k46)).sz = 1 from rfl, Nat.mul_one] at hv500_0
       replace hv500_0 := Option.some.inj (hv500_0.symm.trans hx500_0)
       rw [hv500_0] at ge500_0
       have HL500_0 := mk0 (show Kd.R k46 46 _ _ _ _ (rd_L2 t483 0) from ge500_0)
       clear hv500_0 ge500_0 hcc500 hce500
       have qi500 : (0 < t483.length) = True := eq_true (by omega)
       (try rw [show ((0 : Int)).toNat = 0 from rfl] at hx500_0)
       (try rw [Addr.add_zero'] at hx500_0)
       have HR500_0 := mk0 hi500_0
       have HC500_0 := mk0 hl500_0
       clear hi500_0 hl500_0
       replace p500 := eq_true p500
       replace q500 := eq_true q500
       have p501 : 0 ≤ (0 : Int) := (by omega)
       have q501 : 0 < ((rd_L2 t483 0).length : Int) := of_decide_eq_true (by first | (with_reducible assumption) | assumption)
       obtain ⟨ad501, e501, hx501_0, hx501_1⟩ := at_T46 (by repeat (first | (with_reducible exact HR500_0.out) | (with_reducible refine Kd.C_alloc ?_ _) | (with_reducible refine Kd.C_drewN ?_ _) | (with_reducible refine Kd.C_drew ?_) | exact HR500_0.out)) 0 p501 q501
       cases e501
       have qi501 : (0 < (rd_L2 t483 0).length) = True := eq_true (by omega)
       (try rw [show ((0 : Int)).toNat = 0 from rfl] at hx501_0)
       (try rw [show 0 * 2 = 0 from rfl] at hx501_0)
       (try rw [Addr.add_zero'] at hx501_0)
       (try rw [show ((0 : Int)).toNat = 0 from rfl] at hx501_1)
       (try rw [show 0 * 2 = 0 from rfl] at hx501_1)
       (try rw [Addr.add_zero'] at hx501_1)
       replace p501 := eq_true p501
       replace q501 := eq_true q501
       have p502 : 0 ≤ (0 : Int) := (by omega)
       have q502 : 0 < (t479.length : Int) := of_decide_eq_true (by first | (with_reducible assumption) | assumption)
       (try (obtain ⟨Aq502, cq502, eq502⟩ := Kd.R_slice HO_483001.out; subst eq502))
       obtain ⟨ad502, e502, hx502_0, hx502_1⟩ := at_T46 (Kd.R_reads' HO_483001.out).2.2 0 p502 q502
       cases e502
       have qi502 : (0 < t479.length) = True := eq_true (by omega)
       (try rw [show ((0 : Int)).toNat = 0 from rfl] at hx502_0)
       (try rw [show 0 * 2 = 0 from rfl] at hx502_0)
       (try rw [Addr.add_zero'] at hx502_0)
       (try rw [show ((0 : Int)).toNat = 0 from rfl] at hx502_1)
       (try rw [show 0 * 2 = 0 from rfl] at hx502_1)
       (try rw [Addr.add_zero'] at hx502_1)
       replace p502 := eq_true p502
       replace q502 := eq_true q502
       refine start_ (n := 17) (S := fun w' => w'.cell? ⟨gb482, 0, none⟩ = some (.slice (some ad497) t476.length co10) ∧ w'.cell? ⟨gb482, 1, none⟩ = some (.slice (some ad502) t479.length co12) ∧ w'.cell? ad496 = some (.slice (some ad501) (rd_L2 t483 0).length c500_0) ∧ w'.cell? ad501 = some (.int .i64 ((rd_T46 (rd_L2 t483 0) 0).f0)) ∧ w'.cell? ⟨ad501.block, ad501.off + 1, none⟩ = some (.int .i64 ((rd_T46 (rd_L2 t483 0) 0).f1)) ∧ w'.cell? ad502 = some (.int .i64 ((rd_T46 t479 0).f0)) ∧ w'.cell? ⟨ad502.block, ad502.off + 1, none⟩ = some (.int .i64 ((rd_T46 t479 0).f1))) (ds := []) y14_1 (by kernel_rfl) rfl rfl ⟨(blk_cell BK482.out 0).trans rfl, (blk_cell BK482.out 1).trans rfl, hx500_0, hx501_0, hx501_1, hx502_0, hx502_1⟩ (fun hHeld => ?_); refine with_tabW laws_FnFlats.tab25 laws_FnFlats.bits25 (fun HT_ HW_ => ?_)
       generalize w66.drew = w67 at HO_4 HO_483000 HO_483001 HL496_0 BK482 BK490 HR496_0 HB HL500_0 HR500_0 hx500_0 hx501_0 hx501_1 hx502_0 hx502_1 hHeld ⊢
       refine pzv (i := 0) (N := 96) (v := ?_) (a' := ?_) y14_8 HT_ ?_ ?_ ?_
       rotate_left
       ·intro w'
        go_simp; with_reducible rfl
       rotate_left
       ·exact x14_put
       refine pzv (i := 1) (N := 97) (v := ?_) (a' := ?_) y14_10 HT_ ?_ ?_ ?_
       rotate_left
       ·intro w'
        go_simp; with_reducible rfl
       rotate_left
       ·exact x14_put
       refine pzv (i := 2) (N := 98) (v := ?_) (a' := ?_) y14_12 HT_ ?_ ?_ ?_
       rotate_left
       ·intro w'
        go_simp; with_reducible rfl
       rotate_left
       ·exact x14_put
       refine pzv (i := 3) (N := 99) (v := ?_) (a' := ?_) y14_14 HT_ ?_ ?_ ?_
       rotate_left
       ·intro w'
        go_simp; with_reducible rfl
       rotate_left
       ·exact x14_put
       refine pzv (i := 4) (N := 100) (v := ?_) (a' := ?_) y14_17 HT_ ?_ ?_ ?_
       rotate_left
       ·intro w'
        go_simp; with_reducible rfl
       rotate_left
       ·exact x14_put
       refine pzv (i := 5) (N := 101) (v := ?_) (a' := ?_) y14_19 HT_ ?_ ?_ ?_
       rotate_left
       ·intro w'
        go_simp; with_reducible rfl
       rotate_left
       ·exact x14_put
       refine pzv (i := 6) (N := 102) (v := ?_) (a' := ?_) y14_22 HT_ ?_ ?_ ?_
       rotate_left
       ·intro w'
        go_simp; with_reducible rfl
       rotate_left
       ·exact x14_put
       refine pzv (i := 10) (N := 106) (v := ?_) (a' := ?_) y14_23 HT_ ?_ ?_ ?_
       rotate_left
       ·intro w'
        go_simp; with_reducible rfl
       rotate_left
       ·exact x14_put
       refine take_ (i := 7) (N := some 103) (v := ?_) (a' := ?_) y14_26 rfl rfl (take_ofW HT_.out HW_.out (by kernel_rfl)) (fun _ _ _ h => h) (Or.inl ⟨by rfl, ?_⟩) hHeld ?_ ?_
       rotate_left
       ·rintro w' ⟨s0, s1, s2, s3, s4, s5, s6⟩
        go_simp; with_reducible rfl
       rotate_left
       ·exact x14_put
       refine pzv (i := 8) (N := 104) (v := ?_) (a' := ?_) y14_29 HT_ ?_ ?_ ?_
       rotate_left
       ·intro w'
        go_simp; with_reducible rfl
       rotate_left
       ·exact x14_put
       refine take_ (i := 9) (N := some 105) (v := ?_) (a' := ?_) y14_33 rfl rfl (take_ofW HT_.out HW_.out (by kernel_rfl)) (fun _ _ _ h => h) (Or.inl ⟨by rfl, ?_⟩) hHeld ?_ ?_
       rotate_left
       ·rintro w' ⟨s0, s1, s2, s3, s4, s5, s6⟩
        go_simp; with_reducible rfl
       rotate_left
       ·exact x14_put
       refine take_ (i := 11) (N := some 107) (v := ?_) (a' := ?_) y14_35 rfl rfl (take_ofW HT_.out HW_.out (by kernel_rfl)) (fun _ _ _ h => h) (Or.inl ⟨by rfl, ?_⟩) hHeld ?_ ?_
       rotate_left
       ·rintro w' ⟨s0, s1, s2, s3, s4, s5, s6⟩
        go_simp; with_reducible rfl
       rotate_left
       ·exact x14_put
       refine pzv (i := 12) (N := 108) (v := ?_) (a' := ?_) y14_42 HT_ ?_ ?_ ?_
       rotate_left
       ·intro w'
        go_simp; with_reducible rfl
       rotate_left
       ·exact x14_put
       refine take_ (i := 13) (N := some 109) (v := ?_) (a' := ?_) y14_44 rfl rfl (take_ofW HT_.out HW_.out (by kernel_rfl)) (fun _ _ _ h => h) (Or.inl ⟨by rfl, ?_⟩) hHeld ?_ ?_
       rotate_left
       ·rintro w' ⟨s0, s1, s2, s3, s4, s5, s6⟩
        go_simp; with_reducible rfl
       rotate_left
       ·exact x14_put
       refine pzv (i := 14) (N := 110) (v := ?_) (a' := ?_) y14_46 HT_ ?_ ?_ ?_
       rotate_left
       ·intro w'
        go_simp; with_reducible rfl
       rotate_left
       ·exact x14_put
       refine pzv (i := 15) (N := 111) (v := ?_) (a' := ?_) y14_48 HT_ ?_ ?_ ?_
       rotate_left
       ·intro w'
        go_simp; with_reducible rfl
       rotate_left
       ·exact x14_put
       refine pzv (i := 16) (N := 2) (v := ?_) (a' := ?_) y14_54 HT_ ?_ ?_ ?_
       rotate_left
       ·intro w'
        go_simp; with_reducible rfl
       rotate_left
       ·exact x14_put
       refine done_ (done_of HT_.out (by kernel_rfl)) ?_
       try go_wp2
       go_ret
       exact ⟨(by first | rfl | (simp [errW_none, errW_some] <;> rfl) | (simp only [← hji49, ← hji52, ← hji57]; first | rfl | (simp [errW_none, errW_some] <;> rfl)) | (simp [*, errW_none, errW_some] <;> rfl)), z14_36⟩

/-- THE ONE PURE STATEMENT of laws_FnFlats: yours. -/
def laws_FnFlats.Pure : Prop := ∀ (l0 : List Int), l0.length ≤ maxLen → l0.length * 1 ≤ 140737488351232 → (∀ x ∈ l0, (Lit.int .u8 x).wf = true) → ∃ k, laws_FnFlats.f k l0 = some true
theorem laws_FnFlats.walk (P : laws_FnFlats.Pure) (a0 : Option Addr) (len0 cap0 : Nat) (z0 : List Int) (w : World) (w0 : (a0 = none ∧ len0 = 0 ∧ cap0 = 0 ∧ z0 = []) ∨ ∃ x, a0 = some x ∧ len0 ≤ cap0 ∧ cap0 ≤ maxLen ∧ z0.length = cap0 ∧ (∀ i, i < z0.length → w.cell? (x.add i) = some (.int .u8 (z0.getD i 0))) ∧ ∀ n ∈ z0, (Lit.int .u8 n).wf = true) (y0 : len0 * 1 ≤ 140737488351232) :
  Calls Try.prog 4 #[.slice a0 len0 cap0] w fun e w' => e = .returned (.bool true) ∧ Below w.heap.size w w' := by
 obtain ⟨l0, rfl, hr0, hm0, hw0, hc0⟩ := ReadsInt.ofRowC w0
 obtain ⟨k, h⟩ := P l0 hm0 y0 hw0
 refine (laws_FnFlats.calls k _ _ l0 true w (Kd.C_of_reads (d := (0 : Int)) (h1 := fun _ => rfl) hr0) hc0 rfl h).mono ?_
 rintro e w' ⟨rfl, hd⟩
 exact ⟨rfl, hd⟩

end Go.Proofs.Ytdpnimngndemiaa.MFnFlats
