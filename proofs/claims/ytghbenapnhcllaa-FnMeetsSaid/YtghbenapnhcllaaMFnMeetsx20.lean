/- Functions of the program as Lean functions, and the proof that a call comes to just these: machine text of this session's own program (myprint.py). -/
import Derived.Test.YtghbenapnhcllaaMFnMeetsx0
import Derived.Test.YtghbenapnhcllaaMFnMeetsx3
import Derived.Test.YtghbenapnhcllaaMFnMeetsx13
import Derived.Test.YtghbenapnhcllaaMFnMeetsx14
import Derived.Test.YtghbenapnhcllaaMFnMeetsx18
import Derived.Test.YtghbenapnhcllaaMFnMeetsx19
namespace Go.Proofs.Ytghbenapnhcllaa.MFnMeets
open Go.RowKit Go.Proofs.YtghbenapnhcllaaW.PrintWords Go.Proofs.YtghbenapnhcllaaW.PrintLast Go.Proofs.YtghbenapnhcllaaW.PrintMore
attribute [local go_sem] max2_int min2_int max_two min_two max_three min_three max_four min_four   -- for this text's walks alone
set_option linter.unusedVariables false
set_option linter.unusedSimpArgs false

def y20_0 : Array Bool := (bA 18 0)
def y20_2 : Array Bool := (bA 18 1)
def y20_4 : Array Bool := (bA 18 3)
def y20_6 : Array Bool := (bA 18 7)
def y20_8 : Array Bool := (bA 18 15)
def y20_10 : Array Bool := (bA 18 31)
def y20_12 : Array Bool := (bA 18 63)
def y20_14 : Array Bool := (bA 18 127)
def y20_16 : Array Bool := (bA 18 255)
def y20_18 : Array Bool := (bA 18 511)
def y20_20 : Array Bool := (bA 18 1023)
def y20_22 : Array Bool := (bA 18 2047)
def y20_23 : Array Bool := (bA 18 4095)
def y20_24 : Array Bool := (bA 18 8191)
def y20_25 : Array Bool := (bA 18 16383)
def y20_26 : Array Bool := (bA 18 32767)
def y20_27 : Array Bool := (bA 18 65535)
def y20_28 : Array Bool := (bA 18 131071)
def y20_29 : Array Bool := (bA 18 262143)
theorem x20_put {P : Prop} (h : P := by simp only [Act.put, List.setIfInBounds_toArray, List.set_cons_zero, List.set_cons_succ, i64_w, i32_w]; rfl) : P := h
theorem z20_20 {P : Prop} (h : P := by repeat (first | (with_reducible first | exact HB.out | apply below_alloc | apply pw_below_drewN | apply below_drew1 | refine below_set ?_ GE504.out | refine below_set ?_ GE505.out | refine below_set ?_ GE513.out) | exact HB.out)) : P := h
theorem z20_21 {P : Prop} (h : P := by (with_reducible repeat (first | apply Kd.R_alloc | apply Kd.R_drewN | apply Kd.R_drew)); exact (Kd.R_mono (Kd.R_mono (Kd.R_far (p := ⟨gb505, 4, none⟩) (Kd.R_far (p := ⟨gb505, 3, none⟩) (Kd.R_far (p := ⟨gb505, 2, none⟩) (Kd.R_far (p := ⟨gb505, 1, none⟩) (Kd.R_far (p := ⟨gb505, 0, none⟩) (Kd.R_far (p := ⟨gb504, 4, none⟩) (Kd.R_far (p := ⟨gb504, 3, none⟩) (Kd.R_far (p := ⟨gb504, 2, none⟩) (Kd.R_far (p := ⟨gb504, 1, none⟩) (Kd.R_far (p := ⟨gb504, 0, none⟩) (Kd.R_types (Kd.R_types HO496.out BK504.out (by decide)) BK505.out (by decide)) (fun _ hk => hk.1.2) (.int .i64 t490)) (fun _ hk => hk.1.2) (.int .i64 t491)) (fun _ hk => hk.1.2) (.int .i64 t492)) (fun _ hk => hk.1.2) (.int .i64 t493)) (fun _ hk => hk.1.2) (.slice Ao12 t494.length co12)) (fun _ hk => hk.2) (.int .i64 t497)) (fun _ hk => hk.2) (.int .i64 t498)) (fun _ hk => hk.2) (.int .i64 t499)) (fun _ hk => hk.2) (.int .i64 t500)) (fun _ hk => hk.2) (.slice Ao14 t501.length co14)) (fun _ h_ => h_.1)) (fun _ h_ => h_.1))) : P := h
theorem z20_22 {P : Prop} (h : P := by (with_reducible repeat (first | apply Kd.R_alloc | apply Kd.R_drewN | apply Kd.R_drew)); exact (Kd.R_mono (Kd.R_mono (Kd.R_far (p := ⟨gb505, 4, none⟩) (Kd.R_far (p := ⟨gb505, 3, none⟩) (Kd.R_far (p := ⟨gb505, 2, none⟩) (Kd.R_far (p := ⟨gb505, 1, none⟩) (Kd.R_far (p := ⟨gb505, 0, none⟩) (Kd.R_far (p := ⟨gb504, 4, none⟩) (Kd.R_far (p := ⟨gb504, 3, none⟩) (Kd.R_far (p := ⟨gb504, 2, none⟩) (Kd.R_far (p := ⟨gb504, 1, none⟩) (Kd.R_far (p := ⟨gb504, 0, none⟩) (Kd.R_types (Kd.R_types HO503.out BK504.out (by decide)) BK505.out (by decide)) (fun _ hk => hk.1.2) (.int .i64 t490)) (fun _ hk => hk.1.2) (.int .i64 t491)) (fun _ hk => hk.1.2) (.int .i64 t492)) (fun _ hk => hk.1.2) (.int .i64 t493)) (fun _ hk => hk.1.2) (.slice Ao12 t494.length co12)) (fun _ hk => hk.2) (.int .i64 t497)) (fun _ hk => hk.2) (.int .i64 t498)) (fun _ hk => hk.2) (.int .i64 t499)) (fun _ hk => hk.2) (.int .i64 t500)) (fun _ hk => hk.2) (.slice Ao14 t501.length co14)) (fun _ h_ => h_.1)) (fun _ h_ => h_.1))) : P := h
theorem z20_23 {P : Prop} (h : P := by (try simp only [List.map_toArray, List.map_cons, List.map_nil]); first | done | rfl | (simp only [List.length_drop, List.length_take]; rfl)) : P := h
theorem z20_24 {P : Prop} (h : P := by repeat (first | (with_reducible first | exact HB.out | apply below_alloc | apply pw_below_drewN | apply below_drew1) | exact HB.out)) : P := h
theorem z20_25 {P : Prop} (h : P := by repeat (first | (with_reducible first | exact HB.out | apply below_alloc | apply pw_below_drewN | apply below_drew1 | refine below_set ?_ GE504.out | refine below_set ?_ GE505.out) | exact HB.out)) : P := h
theorem z20_26 {P : Prop} (h : P := by repeat (first | exact (Kd.R_reads' HO_505004.out).2.2 | (with_reducible refine Kd.C_alloc ?_ _) | (with_reducible refine Kd.C_drewN ?_ _) | (with_reducible refine Kd.C_drew ?_))) : P := h
theorem z20_27 {P : Prop} (h : P := by repeat (first | (with_reducible first | exact HB.out | apply below_alloc | apply pw_below_drewN | apply below_drew1 | refine below_set ?_ GE504.out) | exact HB.out)) : P := h
theorem z20_28 {P : Prop} (h : P := by repeat (first | exact HR0.out | (with_reducible refine Kd.C_alloc ?_ _) | (with_reducible refine Kd.C_drewN ?_ _) | (with_reducible refine Kd.C_drew ?_))) : P := h
theorem z20_29 {P : Prop} (h : P := by repeat (first | exact (Kd.R_reads' HO512.out).2.2 | (with_reducible refine Kd.C_alloc ?_ _) | (with_reducible refine Kd.C_drewN ?_ _) | (with_reducible refine Kd.C_drew ?_))) : P := h
theorem z20_30 {P : Prop} (h : P := by have := HJ5.out; have := HK2.out; have := HK3.out; have := HK4.out; omega) : P := h
/-! ### laws_FnMeets: function 5 -/
mutual
def laws_FnMeets.j0 : Nat → Bool → Int → Int → Int → Int → List Int → Int → Int → Int → Int → List Int → Int → Int → Int → Int → List Int → Option (Bool)
 | 0, _, _, _, _, _, _, _, _, _, _, _, _, _, _, _, _ => none
 | k + 1, x32, x505000, x505001, x505002, x505003, x505004, x506000, x506001, x506002, x506003, x506004, x514000, x514001, x514002, x514003, x514004 => if x32 = true then (some false) else (laws_FnMeets.l0 k (-3) x505000 x505001 x505002 x505003 x505004 x506000 x506001 x506002 x506003 x506004 x514000 x514001 x514002 x514003 x514004)
def laws_FnMeets.l0 : Nat → Int → Int → Int → Int → Int → List Int → Int → Int → Int → Int → List Int → Int → Int → Int → Int → List Int → Option (Bool)
 | 0, _, _, _, _, _, _, _, _, _, _, _, _, _, _, _, _ => none
 | k + 1, x6, x505000, x505001, x505002, x505003, x505004, x506000, x506001, x506002, x506003, x506004, x514000, x514001, x514002, x514003, x514004 => if x6 < 16 then (laws_FnMeets.l1 k x6 (-3) x505000 x505001 x505002 x505003 x505004 x506000 x506001 x506002 x506003 x506004 x514000 x514001 x514002 x514003 x514004) else ((impl_MeetMask.f k x505000 x505001 x505002 x505003 x505004 x505000 x505001 x505002 x505003 x505004).bind fun bt523 => ((laws_sameMask.f k bt523.1 bt523.2.1 bt523.2.2.1 bt523.2.2.2.1 bt523.2.2.2.2 x505000 x505001 x505002 x505003 x505004).bind fun t530 => (some t530)))
def laws_FnMeets.l1 : Nat → Int → Int → Int → Int → Int → Int → List Int → Int → Int → Int → Int → List Int → Int → Int → Int → Int → List Int → Option (Bool)
 | 0, _, _, _, _, _, _, _, _, _, _, _, _, _, _, _, _, _ => none
 | k + 1, x6, x7, x505000, x505001, x505002, x505003, x505004, x506000, x506001, x506002, x506003, x506004, x514000, x514001, x514002, x514003, x514004 => if x7 < 16 then ((impl_BitsAt.f k x505000 x505001 x505002 x505003 x505004 x7 x6).bind fun t531 => ((impl_BitsAt.f k x506000 x506001 x506002 x506003 x506004 x7 x6).bind fun t532 => ((impl_BitsAt.f k x514000 x514001 x514002 x514003 x514004 x7 x6).bind fun t533 => (laws_FnMeets.l2 k x6 x7 t531 t532 t533 1 x505000 x505001 x505002 x505003 x505004 x506000 x506001 x506002 x506003 x506004 x514000 x514001 x514002 x514003 x514004)))) else (laws_FnMeets.l0 k (wrap64 (x6 + 1)) x505000 x505001 x505002 x505003 x505004 x506000 x506001 x506002 x506003 x506004 x514000 x514001 x514002 x514003 x514004)
def laws_FnMeets.l2 : Nat → Int → Int → Int → Int → Int → Int → Int → Int → Int → Int → List Int → Int → Int → Int → Int → List Int → Int → Int → Int → Int → List Int → Option (Bool)
 | 0, _, _, _, _, _, _, _, _, _, _, _, _, _, _, _, _, _, _, _, _, _ => none
 | k + 1, x6, x7, x8, x9, x10, x11, x505000, x505001, x505002, x505003, x505004, x506000, x506001, x506002, x506003, x506004, x514000, x514001, x514002, x514003, x514004 => if x11 ≤ 8 then (if x11 = 0 then (none) else (if (Int.tmod (wrap64 (Int.tdiv x8 x11)) 2) = 1 then (if (((Int.tmod (wrap64 (Int.tdiv x10 x11)) 2) == 1) != ((Int.tmod (wrap64 (Int.tdiv x9 x11)) 2) == 1)) = true then (some false) else (laws_FnMeets.l2 k x6 x7 x8 x9 x10 (wrap64 (2 * x11)) x505000 x505001 x505002 x505003 x505004 x506000 x506001 x506002 x506003 x506004 x514000 x514001 x514002 x514003 x514004)) else (if (((Int.tmod (wrap64 (Int.tdiv x10 x11)) 2) == 1) != false) = true then (some false) else (laws_FnMeets.l2 k x6 x7 x8 x9 x10 (wrap64 (2 * x11)) x505000 x505001 x505002 x505003 x505004 x506000 x506001 x506002 x506003 x506004 x514000 x514001 x514002 x514003 x514004)))) else (laws_FnMeets.l1 k x6 (wrap64 (x7 + 1)) x505000 x505001 x505002 x505003 x505004 x506000 x506001 x506002 x506003 x506004 x514000 x514001 x514002 x514003 x514004)
end
def laws_FnMeets.f (k : Nat) (l0 : List Int) : Option (Bool) := (laws_big.f l0).bind fun t489 => (if t489 = true then (some true) else ((spec_DrawMasks.f k l0).bind fun bt490 => ((impl_MeetMask.f k bt490.1 bt490.2.1 bt490.2.2.1 bt490.2.2.2.1 bt490.2.2.2.2.1 bt490.2.2.2.2.2.1 bt490.2.2.2.2.2.2.1 bt490.2.2.2.2.2.2.2.1 bt490.2.2.2.2.2.2.2.2.1 bt490.2.2.2.2.2.2.2.2.2).bind fun bt506 => ((impl_MaskOk.f k bt506.1 bt506.2.1 bt506.2.2.1 bt506.2.2.2.1 bt506.2.2.2.2).bind fun t514 => (if t514 = true then ((spec_MeetMask.f k bt490.1 bt490.2.1 bt490.2.2.1 bt490.2.2.2.1 bt490.2.2.2.2.1 bt490.2.2.2.2.2.1 bt490.2.2.2.2.2.2.1 bt490.2.2.2.2.2.2.2.1 bt490.2.2.2.2.2.2.2.2.1 bt490.2.2.2.2.2.2.2.2.2).bind fun bt515 => ((laws_sameMask.f k bt506.1 bt506.2.1 bt506.2.2.1 bt506.2.2.2.1 bt506.2.2.2.2 bt515.1 bt515.2.1 bt515.2.2.1 bt515.2.2.2.1 bt515.2.2.2.2).bind fun t522 => (laws_FnMeets.j0 k (!t522) bt490.1 bt490.2.1 bt490.2.2.1 bt490.2.2.2.1 bt490.2.2.2.2.1 bt490.2.2.2.2.2.1 bt490.2.2.2.2.2.2.1 bt490.2.2.2.2.2.2.2.1 bt490.2.2.2.2.2.2.2.2.1 bt490.2.2.2.2.2.2.2.2.2 bt506.1 bt506.2.1 bt506.2.2.1 bt506.2.2.2.1 bt506.2.2.2.2))) else (laws_FnMeets.j0 k true bt490.1 bt490.2.1 bt490.2.2.1 bt490.2.2.2.1 bt490.2.2.2.2.1 bt490.2.2.2.2.2.1 bt490.2.2.2.2.2.2.1 bt490.2.2.2.2.2.2.2.1 bt490.2.2.2.2.2.2.2.2.1 bt490.2.2.2.2.2.2.2.2.2 bt506.1 bt506.2.1 bt506.2.2.1 bt506.2.2.2.1 bt506.2.2.2.2))))))
theorem laws_FnMeets.mono_l : ∀ k, (∀ y0 y1 y2 y3 y4 y5 y6 y7 y8 y9 y10 y11 y12 y13 y14 y15, LeO (laws_FnMeets.j0 k y0 y1 y2 y3 y4 y5 y6 y7 y8 y9 y10 y11 y12 y13 y14 y15) (laws_FnMeets.j0 (k + 1) y0 y1 y2 y3 y4 y5 y6 y7 y8 y9 y10 y11 y12 y13 y14 y15)) ∧ (∀ y0 y1 y2 y3 y4 y5 y6 y7 y8 y9 y10 y11 y12 y13 y14 y15, LeO (laws_FnMeets.l0 k y0 y1 y2 y3 y4 y5 y6 y7 y8 y9 y10 y11 y12 y13 y14 y15) (laws_FnMeets.l0 (k + 1) y0 y1 y2 y3 y4 y5 y6 y7 y8 y9 y10 y11 y12 y13 y14 y15)) ∧ (∀ y0 y1 y2 y3 y4 y5 y6 y7 y8 y9 y10 y11 y12 y13 y14 y15 y16, LeO (laws_FnMeets.l1 k y0 y1 y2 y3 y4 y5 y6 y7 y8 y9 y10 y11 y12 y13 y14 y15 y16) (laws_FnMeets.l1 (k + 1) y0 y1 y2 y3 y4 y5 y6 y7 y8 y9 y10 y11 y12 y13 y14 y15 y16)) ∧ (∀ y0 y1 y2 y3 y4 y5 y6 y7 y8 y9 y10 y11 y12 y13 y14 y15 y16 y17 y18 y19 y20, LeO (laws_FnMeets.l2 k y0 y1 y2 y3 y4 y5 y6 y7 y8 y9 y10 y11 y12 y13 y14 y15 y16 y17 y18 y19 y20) (laws_FnMeets.l2 (k + 1) y0 y1 y2 y3 y4 y5 y6 y7 y8 y9 y10 y11 y12 y13 y14 y15 y16 y17 y18 y19 y20))
 | 0 => ⟨fun _ _ _ _ _ _ _ _ _ _ _ _ _ _ _ _ r h => by simp [laws_FnMeets.j0] at h, fun _ _ _ _ _ _ _ _ _ _ _ _ _ _ _ _ r h => by simp [laws_FnMeets.l0] at h, fun _ _ _ _ _ _ _ _ _ _ _ _ _ _ _ _ _ r h => by simp [laws_FnMeets.l1] at h, fun _ _ _ _ _ _ _ _ _ _ _ _ _ _ _ _ _ _ _ _ _ r h => by simp [laws_FnMeets.l2] at h⟩
 | k + 1 => by
  obtain ⟨ih0, ih1, ih2, ih3⟩ := laws_FnMeets.mono_l k
  refine ⟨?_, ?_, ?_, ?_⟩
  ·intro y0 y1 y2 y3 y4 y5 y6 y7 y8 y9 y10 y11 y12 y13 y14 y15
   unfold laws_FnMeets.j0
   repeat' first
   | (with_reducible exact ih0 _ _ _ _ _ _ _ _ _ _ _ _ _ _ _ _)
   | (with_reducible exact ih1 _ _ _ _ _ _ _ _ _ _ _ _ _ _ _ _)
   | (with_reducible exact ih2 _ _ _ _ _ _ _ _ _ _ _ _ _ _ _ _ _)
   | (with_reducible exact ih3 _ _ _ _ _ _ _ _ _ _ _ _ _ _ _ _ _ _ _ _ _)
   | (with_reducible exact impl_BitsAt.mono _ _ _ _ _ _ _ _)
   | (with_reducible exact impl_MaskOk.mono _ _ _ _ _ _)
   | (with_reducible exact impl_MeetMask.mono _ _ _ _ _ _ _ _ _ _ _)
   | (with_reducible exact laws_sameMask.mono _ _ _ _ _ _ _ _ _ _ _)
   | (with_reducible exact spec_DrawMasks.mono _ _)
   | (with_reducible exact spec_MeetMask.mono _ _ _ _ _ _ _ _ _ _ _)
   | (with_reducible exact LeO.refl _)
   | (with_reducible exact LeO.none _)
   | (with_reducible refine LeO.ite ?_ ?_)
   | (with_reducible refine LeO.bind ?_ (fun _ => ?_))
  ·intro y0 y1 y2 y3 y4 y5 y6 y7 y8 y9 y10 y11 y12 y13 y14 y15
   unfold laws_FnMeets.l0
   repeat' first
   | (with_reducible exact ih0 _ _ _ _ _ _ _ _ _ _ _ _ _ _ _ _)
   | (with_reducible exact ih1 _ _ _ _ _ _ _ _ _ _ _ _ _ _ _ _)
   | (with_reducible exact ih2 _ _ _ _ _ _ _ _ _ _ _ _ _ _ _ _ _)
   | (with_reducible exact ih3 _ _ _ _ _ _ _ _ _ _ _ _ _ _ _ _ _ _ _ _ _)
   | (with_reducible exact impl_BitsAt.mono _ _ _ _ _ _ _ _)
   | (with_reducible exact impl_MaskOk.mono _ _ _ _ _ _)
   | (with_reducible exact impl_MeetMask.mono _ _ _ _ _ _ _ _ _ _ _)
   | (with_reducible exact laws_sameMask.mono _ _ _ _ _ _ _ _ _ _ _)
   | (with_reducible exact spec_DrawMasks.mono _ _)
   | (with_reducible exact spec_MeetMask.mono _ _ _ _ _ _ _ _ _ _ _)
   | (with_reducible exact LeO.refl _)
   | (with_reducible exact LeO.none _)
   | (with_reducible refine LeO.ite ?_ ?_)
   | (with_reducible refine LeO.bind ?_ (fun _ => ?_))
  ·intro y0 y1 y2 y3 y4 y5 y6 y7 y8 y9 y10 y11 y12 y13 y14 y15 y16
   unfold laws_FnMeets.l1
   repeat' first
   | (with_reducible exact ih0 _ _ _ _ _ _ _ _ _ _ _ _ _ _ _ _)
   | (with_reducible exact ih1 _ _ _ _ _ _ _ _ _ _ _ _ _ _ _ _)
   | (with_reducible exact ih2 _ _ _ _ _ _ _ _ _ _ _ _ _ _ _ _ _)
   | (with_reducible exact ih3 _ _ _ _ _ _ _ _ _ _ _ _ _ _ _ _ _ _ _ _ _)
   | (with_reducible exact impl_BitsAt.mono _ _ _ _ _ _ _ _)
   | (with_reducible exact impl_MaskOk.mono _ _ _ _ _ _)
   | (with_reducible exact impl_MeetMask.mono _ _ _ _ _ _ _ _ _ _ _)
   | (with_reducible exact laws_sameMask.mono _ _ _ _ _ _ _ _ _ _ _)
   | (with_reducible exact spec_DrawMasks.mono _ _)
   | (with_reducible exact spec_MeetMask.mono _ _ _ _ _ _ _ _ _ _ _)
   | (with_reducible exact LeO.refl _)
   | (with_reducible exact LeO.none _)
   | (with_reducible refine LeO.ite ?_ ?_)
   | (with_reducible refine LeO.bind ?_ (fun _ => ?_))
  ·intro y0 y1 y2 y3 y4 y5 y6 y7 y8 y9 y10 y11 y12 y13 y14 y15 y16 y17 y18 y19 y20
   unfold laws_FnMeets.l2
   repeat' first
   | (with_reducible exact ih0 _ _ _ _ _ _ _ _ _ _ _ _ _ _ _ _)
   | (with_reducible exact ih1 _ _ _ _ _ _ _ _ _ _ _ _ _ _ _ _)
   | (with_reducible exact ih2 _ _ _ _ _ _ _ _ _ _ _ _ _ _ _ _ _)
   | (with_reducible exact ih3 _ _ _ _ _ _ _ _ _ _ _ _ _ _ _ _ _ _ _ _ _)
   | (with_reducible exact impl_BitsAt.mono _ _ _ _ _ _ _ _)
   | (with_reducible exact impl_MaskOk.mono _ _ _ _ _ _)
   | (with_reducible exact impl_MeetMask.mono _ _ _ _ _ _ _ _ _ _ _)
   | (with_reducible exact laws_sameMask.mono _ _ _ _ _ _ _ _ _ _ _)
   | (with_reducible exact spec_DrawMasks.mono _ _)
   | (with_reducible exact spec_MeetMask.mono _ _ _ _ _ _ _ _ _ _ _)
   | (with_reducible exact LeO.refl _)
   | (with_reducible exact LeO.none _)
   | (with_reducible refine LeO.ite ?_ ?_)
   | (with_reducible refine LeO.bind ?_ (fun _ => ?_))
theorem laws_FnMeets.mono : ∀ a0 k, LeO (laws_FnMeets.f k a0) (laws_FnMeets.f (k + 1) a0) := by
 intro a0 k
 obtain ⟨ih0, ih1, ih2, ih3⟩ := laws_FnMeets.mono_l k
 unfold laws_FnMeets.f
 repeat' first
   | (with_reducible exact ih0 _ _ _ _ _ _ _ _ _ _ _ _ _ _ _ _)
   | (with_reducible exact ih1 _ _ _ _ _ _ _ _ _ _ _ _ _ _ _ _)
   | (with_reducible exact ih2 _ _ _ _ _ _ _ _ _ _ _ _ _ _ _ _ _)
   | (with_reducible exact ih3 _ _ _ _ _ _ _ _ _ _ _ _ _ _ _ _ _ _ _ _ _)
   | (with_reducible exact impl_BitsAt.mono _ _ _ _ _ _ _ _)
   | (with_reducible exact impl_MaskOk.mono _ _ _ _ _ _)
   | (with_reducible exact impl_MeetMask.mono _ _ _ _ _ _ _ _ _ _ _)
   | (with_reducible exact laws_sameMask.mono _ _ _ _ _ _ _ _ _ _ _)
   | (with_reducible exact spec_DrawMasks.mono _ _)
   | (with_reducible exact spec_MeetMask.mono _ _ _ _ _ _ _ _ _ _ _)
   | (with_reducible exact LeO.refl _)
   | (with_reducible exact LeO.none _)
   | (with_reducible refine LeO.ite ?_ ?_)
   | (with_reducible refine LeO.bind ?_ (fun _ => ?_))
def laws_FnMeets.T5 : Bool × List (List Nat × List Nat) := (true, [([], []), ([0], [0]), ([1], [1]), ([2, 1], [2]), ([3], [3]), ([3], [3]), ([3], [3]), ([5, 6, 3, 3], [3, 5, 6]), ([4, 7, 7, 3], [3, 4, 7]), ([8, 3], [3, 8]), ([3, 9], [3, 9])])
def laws_FnMeets.B5 : List Nat := [0, 1, 3, 7, 15, 15, 15, 111, 255, 511, 1023]
theorem laws_FnMeets.tab5 : rtab .any (opsOf Try.f5 5) = laws_FnMeets.T5 := by kernel_rfl
theorem laws_FnMeets.bits5 : waitsOk laws_FnMeets.T5.2 laws_FnMeets.B5 = true := by kernel_rfl
def laws_FnMeets.T19 : Bool × List (List Nat × List Nat) := (true, [([], []), ([], []), ([0, 1], [0, 1]), ([2], [2]), ([3], [3]), ([], []), ([], []), ([5, 6], [5, 6]), ([7], [7]), ([8], [8]), ([9], [9]), ([10], [10]), ([10], [10]), ([11, 12, 10], [10, 11, 12]), ([13, 10], [10, 13]), ([14, 10], [10, 14]), ([10, 15], [10, 15]), ([4, 16], [4, 16])])
def laws_FnMeets.B19 : List Nat := [0, 0, 3, 7, 15, 0, 0, 96, 224, 480, 992, 2016, 2016, 8160, 16352, 32736, 65504, 131071]
theorem laws_FnMeets.tab19 : rtab .any (opsOf Try.f5 19) = laws_FnMeets.T19 := by kernel_rfl
theorem laws_FnMeets.bits19 : waitsOk laws_FnMeets.T19.2 laws_FnMeets.B19 = true := by kernel_rfl
set_option maxHeartbeats 8000000 in
set_option maxRecDepth 100000 in
theorem laws_FnMeets.calls (k : Nat) (A0 : Option Addr) (c0 : Nat) (l0 : List Int) (r : Bool) (w : World) (hr0 : Kd.C (Kd.int .u8) w A0 l0.length l0) (hc0 : l0.length ≤ c0) (hT : r = true) (h : laws_FnMeets.f k l0 = some r) :
  Calls Try.prog 5 #[.slice A0 l0.length c0] w fun e w' => e = .returned (.bool r) ∧ Below w.heap.size w w' := by
 have hu65 := Try.underlying65
 have HR0 := mk0 hr0
 have HC0 := mk0 hc0
 clear hr0 hc0
 have HB := mk0 (Below.refl w.heap.size w)
 have H : ((laws_big.f l0).bind fun t489 => (if t489 = true then (some true) else ((spec_DrawMasks.f k l0).bind fun bt490 => ((impl_MeetMask.f k bt490.1 bt490.2.1 bt490.2.2.1 bt490.2.2.2.1 bt490.2.2.2.2.1 bt490.2.2.2.2.2.1 bt490.2.2.2.2.2.2.1 bt490.2.2.2.2.2.2.2.1 bt490.2.2.2.2.2.2.2.2.1 bt490.2.2.2.2.2.2.2.2.2).bind fun bt506 => ((impl_MaskOk.f k bt506.1 bt506.2.1 bt506.2.2.1 bt506.2.2.2.1 bt506.2.2.2.2).bind fun t514 => (if t514 = true then ((spec_MeetMask.f k bt490.1 bt490.2.1 bt490.2.2.1 bt490.2.2.2.1 bt490.2.2.2.2.1 bt490.2.2.2.2.2.1 bt490.2.2.2.2.2.2.1 bt490.2.2.2.2.2.2.2.1 bt490.2.2.2.2.2.2.2.2.1 bt490.2.2.2.2.2.2.2.2.2).bind fun bt515 => ((laws_sameMask.f k bt506.1 bt506.2.1 bt506.2.2.1 bt506.2.2.2.1 bt506.2.2.2.2 bt515.1 bt515.2.1 bt515.2.2.1 bt515.2.2.2.1 bt515.2.2.2.2).bind fun t522 => (laws_FnMeets.j0 k (!t522) bt490.1 bt490.2.1 bt490.2.2.1 bt490.2.2.2.1 bt490.2.2.2.2.1 bt490.2.2.2.2.2.1 bt490.2.2.2.2.2.2.1 bt490.2.2.2.2.2.2.2.1 bt490.2.2.2.2.2.2.2.2.1 bt490.2.2.2.2.2.2.2.2.2 bt506.1 bt506.2.1 bt506.2.2.1 bt506.2.2.2.1 bt506.2.2.2.2))) else (laws_FnMeets.j0 k true bt490.1 bt490.2.1 bt490.2.2.1 bt490.2.2.2.1 bt490.2.2.2.2.1 bt490.2.2.2.2.2.1 bt490.2.2.2.2.2.2.1 bt490.2.2.2.2.2.2.2.1 bt490.2.2.2.2.2.2.2.2.1 bt490.2.2.2.2.2.2.2.2.2 bt506.1 bt506.2.1 bt506.2.2.1 bt506.2.2.2.1 bt506.2.2.2.2))))))) = some r := h
 clear h
 replace H := Option.bind_eq_some_iff.mp H
 obtain ⟨t489, A20, H⟩ := H
 try dsimp only at H
 have A2 := mk0 A20
 clear A20
 by_cases c3 : t489 = true
 ·subst c3
  rw [if_pos rfl] at H
  obtain rfl := Option.some.inj H
  simp only [Option.some.injEq, Prod.mk.injEq] at H
  obtain ⟨rfl⟩ := H
  go_enter Try.func5, Try.ntmps5
  go_wp2_with (first | ((with_reducible refine gate_callee (f := 24) rfl ?_); refine goesL_ (some 13) rfl rfl Try.func24 (by kernel_rfl) rfl #[.slice A0 l0.length c0] rfl z20_23 ?_; (with_reducible refine (laws_big.calls _ _ l0 true _ ?side1 ?side2 A2.out).mono ?_); (case side1 => exact z20_28); (case side2 => exact HC0.out); rintro e w' ⟨rfl, ⟨nd, rfl⟩⟩; refine ⟨_, rfl, ?_⟩))
  go_ret
  exact ⟨(by first | rfl | (simp [errW_none, errW_some] <;> rfl) | (simp [*, errW_none, errW_some] <;> rfl)), z20_24⟩
 replace c3 := Bool.eq_false_iff.mpr c3
 subst c3
 rw [if_neg (show ¬ (false = true) by decide)] at H
 replace H := Option.bind_eq_some_iff.mp H
 obtain ⟨⟨t490, t491, t492, t493, t494, t497, t498, t499, t500, t501⟩, A40, H⟩ := H
 try dsimp only at H
 have A4 := mk0 A40
 clear A40
 replace H := Option.bind_eq_some_iff.mp H
 obtain ⟨⟨t506, t507, t508, t509, t510⟩, A50, H⟩ := H
 try dsimp only at H
 have A5 := mk0 A50
 clear A50
 have HC6 := mk0 H
 clear H
 go_enter Try.func5, Try.ntmps5
 go_upto_region 5 with (first | ((with_reducible refine gate_callee (f := 24) rfl ?_); refine goesL_ (some 13) rfl rfl Try.func24 (by kernel_rfl) rfl #[.slice A0 l0.length c0] rfl z20_23 ?_; (with_reducible refine (laws_big.calls _ _ l0 false _ ?side1 ?side2 A2.out).mono ?_); (case side1 => exact z20_28); (case side2 => exact HC0.out); rintro e w' ⟨rfl, ⟨nd, rfl⟩⟩; refine ⟨_, rfl, ?_⟩) | ((with_reducible refine gate_callee (f := 25) rfl ?_); refine goesL_ (some 16) rfl rfl Try.func25 (by kernel_rfl) rfl #[.slice A0 l0.length c0] rfl z20_23 ?_; (with_reducible refine (spec_DrawMasks.calls k _ _ l0 t490 t491 t492 t493 t494 t497 t498 t499 t500 t501 _ ?side1 ?side2 A4.out).mono ?_); (case side1 => exact z20_28); (case side2 => exact HC0.out); rintro e w7 ⟨v495, v502, rfl, ho0, ho1, hb⟩; refine ⟨_, rfl, ?_⟩; have n0_ := mk0 (Kd.R_lower ho0 (below_size z20_24)); have n1_ := mk0 (Kd.R_lower ho1 (below_size z20_24)); have n2_ := mk0 (below_step z20_24 hb); clear HB; have HO496 := n0_; have HO503 := n1_; have HB := n2_; clear n0_ n1_ n2_; (try clear hb); (try clear hk); (try clear ho0); (try clear ho1)) | ((with_reducible refine gate_dst (N := 3) rfl ?_); refine boxz (cs := #[.int .i64 0, .int .i64 0, .int .i64 0, .int .i64 0, .slice none 0 0]) (t := 65) rfl ?_; intro gb504 hg w8 hbox hb; have n0_ := mk0 (Kd.R_below (pkR HO496) hb); have n1_ := mk0 (Kd.R_below (pkR HO503) hb); have n2_ := mk0 (below_step z20_24 hb); have n3_ := mk0 (hbox); have GW504 := mk0 (ge_go (a := w.heap.size) hg (below_size z20_24)); have GE504 := GW504; clear HO496 HO503 HB; have HO496 := n0_; have HO503 := n1_; have HB := n2_; have BK504 := n3_; clear n0_ n1_ n2_ n3_ ; clear hb hbox hg) | ((with_reducible refine gate_dst (N := 4) rfl ?_); refine boxz (cs := #[.int .i64 0, .int .i64 0, .int .i64 0, .int .i64 0, .slice none 0 0]) (t := 65) rfl ?_; intro gb505 hg w9 hbox hb; have n0_ := mk0 (Kd.R_below (pkR HO496) hb); have n1_ := mk0 (Kd.R_below (pkR HO503) hb); have n2_ := mk0 (blk_belowB BK504 (pkb BK504) hb); have n3_ := mk0 (below_step z20_27 hb); have n4_ := mk0 (hbox); have GW505 := mk0 (ge_go (a := w.heap.size) hg (below_size z20_27)); have GE505 := GW505; have NB504_505 := mk0 (nb_lt hg (blk_ltB BK504 (pkb BK504))); have NB505_504 := mk0 (nb_gt hg (blk_ltB BK504 (pkb BK504))); clear HO496 HO503 BK504 HB; have HO496 := n0_; have HO503 := n1_; have BK504 := n2_; have HB := n3_; have BK505 := n4_; clear n0_ n1_ n2_ n3_ n4_ ; clear hb hbox hg; have hnb10 := NB504_505.out; have hnc10 := NB505_504.out; obtain ⟨_, _, _, _, _, _, _, _, _, _⟩ := be_5 BK504.out; obtain ⟨Ao12, co12, eo12⟩ := Kd.R_slice HO496.out; subst eo12; obtain ⟨_, _, _, _, _, _, _, _, _, _⟩ := be_5 BK505.out; obtain ⟨Ao14, co14, eo14⟩ := Kd.R_slice HO503.out; subst eo14) | ((with_reducible refine gate_callee (f := 26) rfl ?_); refine goesL_ (some 21) rfl rfl Try.func26 (by kernel_rfl) rfl #[.agg #[.int .i64 t490, .int .i64 t491, .int .i64 t492, .int .i64 t493, .slice Ao12 t494.length co12], .agg #[.int .i64 t497, .int .i64 t498, .int .i64 t499, .int .i64 t500, .slice Ao14 t501.length co14]] rfl z20_23 ?_; (with_reducible refine (impl_MeetMask.calls k t490 t491 t492 t493 _ _ t494 t497 t498 t499 t500 _ _ t501 t506 t507 t508 t509 t510 _ ?side1 ?side2 ?side3 ?side4 A5.out).mono ?_); (case side1 => refine (Kd.R_reads' (e := 3) (base := w.heap.size) (ok := fun k_ => some k_ ≠ (.slice Ao14 t501.length co14 : Value).ownBlock) (n := t494.length) (c := co12) ?_).2.2; exact z20_21); (case side2 => exact (Kd.R_reads' HO496.out).2.1); (case side3 => refine (Kd.R_reads' (e := 3) (base := w.heap.size) (ok := fun k_ => some k_ ≠ (.slice Ao12 t494.length co12 : Value).ownBlock) (n := t501.length) (c := co14) ?_).2.2; exact z20_22); (case side4 => exact (Kd.R_reads' HO503.out).2.1); rintro e w15 ⟨v511, rfl, ho0, hb⟩; refine ⟨_, rfl, ?_⟩; have n0_ := mk0 (Kd.R_elder' z20_21 (Kd.R_base ho0) hb); have n1_ := mk0 (Kd.R_elder' z20_22 (Kd.R_base ho0) hb); have n2_ := mk0 (Kd.R_lower (Kd.R_new' (Kd.R_new' ho0 (Kd.R_lt z20_21)) (Kd.R_lt z20_22)) (below_size z20_25)); have n3_ := mk0 (blk_below (g := gb504) (o := .cells #[.int .i64 t490, .int .i64 t491, .int .i64 t492, .int .i64 t493, .slice Ao12 t494.length co12] 65 (0, 0)) (by apply blk_fin; (focus ((with_reducible repeat (first | apply blk_putQ | refine blk_farQ NB504_505.out ?_ | refine blk_drewN ?_ _ | refine blk_drew ?_ | refine blk_alloc ?_ _)); exact BK504.out)); first | (simp only [List.setIfInBounds_toArray, List.set_cons_zero, List.set_cons_succ]; done) | rfl) hb); have n4_ := mk0 (blk_below (g := gb505) (o := .cells #[.int .i64 t497, .int .i64 t498, .int .i64 t499, .int .i64 t500, .slice Ao14 t501.length co14] 65 (0, 0)) (by apply blk_fin; (focus ((with_reducible repeat (first | apply blk_putQ | refine blk_farQ NB505_504.out ?_ | refine blk_drewN ?_ _ | refine blk_drew ?_ | refine blk_alloc ?_ _)); exact BK505.out)); first | (simp only [List.setIfInBounds_toArray, List.set_cons_zero, List.set_cons_succ]; done) | rfl) hb); have n5_ := mk0 (below_step z20_25 hb); clear HO496 HO503 BK504 BK505 HB; have HO496 := n0_; have HO503 := n1_; have HO512 := n2_; have BK504 := n3_; have BK505 := n4_; have HB := n5_; clear n0_ n1_ n2_ n3_ n4_ n5_; (try clear hb); (try clear hk); (try clear ho0)) | ((with_reducible refine gate_dst (N := 5) rfl ?_); refine boxz (cs := #[.int .i64 0, .int .i64 0, .int .i64 0, .int .i64 0, .slice none 0 0]) (t := 65) rfl ?_; intro gb513 hg w16 hbox hb; have n0_ := mk0 (Kd.R_below (pkR HO496) hb); have n1_ := mk0 (Kd.R_below (pkR HO503) hb); have n2_ := mk0 (Kd.R_below (pkR HO512) hb); have n3_ := mk0 (blk_belowB BK504 (pkb BK504) hb); have n4_ := mk0 (blk_belowB BK505 (pkb BK505) hb); have n5_ := mk0 (below_step z20_25 hb); have n6_ := mk0 (hbox); have GW513 := mk0 (ge_go (a := w.heap.size) hg (below_size z20_25)); have GE513 := GW513; have NB504_513 := mk0 (nb_lt hg (blk_ltB BK504 (pkb BK504))); have NB513_504 := mk0 (nb_gt hg (blk_ltB BK504 (pkb BK504))); have NB505_513 := mk0 (nb_lt hg (blk_ltB BK505 (pkb BK505))); have NB513_505 := mk0 (nb_gt hg (blk_ltB BK505 (pkb BK505))); clear HO496 HO503 HO512 BK504 BK505 HB; have HO496 := n0_; have HO503 := n1_; have HO512 := n2_; have BK504 := n3_; have BK505 := n4_; have HB := n5_; have BK513 := n6_; clear n0_ n1_ n2_ n3_ n4_ n5_ n6_ ; clear hb hbox hg; have hnb17 := NB513_504.out; have hnc17 := NB504_513.out; have hnb18 := NB513_505.out; have hnc18 := NB505_513.out; obtain ⟨_, _, _, _, _, _, _, _, _, _⟩ := be_5 BK513.out; obtain ⟨Ao20, co20, eo20⟩ := Kd.R_slice HO512.out; subst eo20))
 (try simp only [Act.put, List.setIfInBounds_toArray, List.set_cons_zero, List.set_cons_succ])
 go_cut [32] (fun v32 wc => ∃ (kq : Nat) (x32_5 : Bool), v32 = .bool x32_5 ∧ Aside0 (laws_FnMeets.j0 kq x32_5 t490 t491 t492 t493 t494 t497 t498 t499 t500 t501 t506 t507 t508 t509 t510 = some r) ∧ Aside0 (kq ≤ k) ∧ Aside0 (Kd.R (Kd.int .i64) 3 wc w.heap.size (fun k_ => some k_ ≠ ((.slice Ao14 t501.length co14) : Value).ownBlock ∧ some k_ ≠ ((.slice Ao20 t510.length co20) : Value).ownBlock) (.slice Ao12 t494.length co12) t494) ∧ Aside0 (Kd.R (Kd.int .i64) 3 wc w.heap.size (fun k_ => some k_ ≠ ((.slice Ao12 t494.length co12) : Value).ownBlock ∧ some k_ ≠ ((.slice Ao20 t510.length co20) : Value).ownBlock) (.slice Ao14 t501.length co14) t501) ∧ Aside0 (Kd.R (Kd.int .i64) 3 wc w.heap.size (fun k_ => some k_ ≠ ((.slice Ao12 t494.length co12) : Value).ownBlock ∧ some k_ ≠ ((.slice Ao14 t501.length co14) : Value).ownBlock) (.slice Ao20 t510.length co20) t510) ∧ Aside0 (wc.heap[gb504]? = some (.cells #[.int .i64 t490, .int .i64 t491, .int .i64 t492, .int .i64 t493, (.slice Ao12 t494.length co12)] 65 (0, 0))) ∧ Aside0 (wc.heap[gb505]? = some (.cells #[.int .i64 t497, .int .i64 t498, .int .i64 t499, .int .i64 t500, (.slice Ao14 t501.length co14)] 65 (0, 0))) ∧ Aside0 (wc.heap[gb513]? = some (.cells #[.int .i64 t506, .int .i64 t507, .int .i64 t508, .int .i64 t509, (.slice Ao20 t510.length co20)] 65 (0, 0))) ∧ Aside0 (Below w.heap.size w wc))
 case first =>
  have H := HC6.out; clear HC6
  replace H := Option.bind_eq_some_iff.mp H
  obtain ⟨t514, A210, H⟩ := H
  try dsimp only at H
  have A21 := mk0 A210
  clear A210
  by_cases c22 : t514 = true
  rotate_left
  ·replace c22 := Bool.eq_false_iff.mpr c22
   subst c22
   rw [if_neg (show ¬ (false = true) by decide)] at H
   exact absurd (show r = false from by cases k with | zero => exact absurd H (by simp [laws_FnMeets.j0]) | succ k_ => simp only [laws_FnMeets.j0, if_true] at H; exact (Option.some.inj H).symm) (by rw [hT]; simp)
  subst c22
  rw [if_pos rfl] at H
  replace H := Option.bind_eq_some_iff.mp H
  obtain ⟨⟨t515, t516, t517, t518, t519⟩, A230, H⟩ := H
  try dsimp only at H
  have A23 := mk0 A230
  clear A230
  replace H := Option.bind_eq_some_iff.mp H
  obtain ⟨t522, A240, H⟩ := H
  try dsimp only at H
  have A24 := mk0 A240
  clear A240
  have H' := mk0 H
  clear H
  try go_wp2
  obtain ⟨w25, hw_⟩ : ∃ w_ : World, w_ = (((((w16.setCell ⟨gb513, 0, none⟩ (.int .i64 t506)).setCell ⟨gb513, 1, none⟩ (.int .i64 t507)).setCell ⟨gb513, 2, none⟩ (.int .i64 t508)).setCell ⟨gb513, 3, none⟩ (.int .i64 t509)).setCell ⟨gb513, 4, none⟩ (.slice Ao20 t510.length co20)) := ⟨_, rfl⟩
  have n0_ : Aside0 (Kd.R (Kd.int .i64) 3 w25 w.heap.size (fun k_ => some k_ ≠ (.slice Ao14 t501.length co14 : Value).ownBlock ∧ some k_ ≠ (.slice Ao20 t510.length co20 : Value).ownBlock) (.slice Ao12 t494.length co12) t494) := ⟨(by rw [hw_]; exact (by (with_reducible repeat (first | apply Kd.R_alloc | apply Kd.R_drewN | apply Kd.R_drew)); exact Kd.R_mono (Kd.R_far (p := ⟨gb513, 4, none⟩) (Kd.R_far (p := ⟨gb513, 3, none⟩) (Kd.R_far (p := ⟨gb513, 2, none⟩) (Kd.R_far (p := ⟨gb513, 1, none⟩) (Kd.R_far (p := ⟨gb513, 0, none⟩) (Kd.R_types HO496.out BK513.out (by decide)) (fun _ hk => hk.2) (.int .i64 t506)) (fun _ hk => hk.2) (.int .i64 t507)) (fun _ hk => hk.2) (.int .i64 t508)) (fun _ hk => hk.2) (.int .i64 t509)) (fun _ hk => hk.2) (.slice Ao20 t510.length co20)) (fun _ hk => ⟨hk.1.1, hk.1.2⟩)))⟩
  have n1_ : Aside0 (Kd.R (Kd.int .i64) 3 w25 w.heap.size (fun k_ => some k_ ≠ (.slice Ao12 t494.length co12 : Value).ownBlock ∧ some k_ ≠ (.slice Ao20 t510.length co20 : Value).ownBlock) (.slice Ao14 t501.length co14) t501) := ⟨(by rw [hw_]; exact (by (with_reducible repeat (first | apply Kd.R_alloc | apply Kd.R_drewN | apply Kd.R_drew)); exact Kd.R_mono (Kd.R_far (p := ⟨gb513, 4, none⟩) (Kd.R_far (p := ⟨gb513, 3, none⟩) (Kd.R_far (p := ⟨gb513, 2, none⟩) (Kd.R_far (p := ⟨gb513, 1, none⟩) (Kd.R_far (p := ⟨gb513, 0, none⟩) (Kd.R_types HO503.out BK513.out (by decide)) (fun _ hk => hk.2) (.int .i64 t506)) (fun _ hk => hk.2) (.int .i64 t507)) (fun _ hk => hk.2) (.int .i64 t508)) (fun _ hk => hk.2) (.int .i64 t509)) (fun _ hk => hk.2) (.slice Ao20 t510.length co20)) (fun _ hk => ⟨hk.1.1, hk.1.2⟩)))⟩
  have n2_ : Aside0 (Kd.R (Kd.int .i64) 3 w25 w.heap.size (fun k_ => some k_ ≠ (.slice Ao12 t494.length co12 : Value).ownBlock ∧ some k_ ≠ (.slice Ao14 t501.length co14 : Value).ownBlock) (.slice Ao20 t510.length co20) t510) := ⟨(by rw [hw_]; exact (by (with_reducible repeat (first | apply Kd.R_alloc | apply Kd.R_drewN | apply Kd.R_drew)); exact Kd.R_mono (Kd.R_far (p := ⟨gb513, 4, none⟩) (Kd.R_far (p := ⟨gb513, 3, none⟩) (Kd.R_far (p := ⟨gb513, 2, none⟩) (Kd.R_far (p := ⟨gb513, 1, none⟩) (Kd.R_far (p := ⟨gb513, 0, none⟩) (Kd.R_types HO512.out BK513.out (by decide)) (fun _ hk => hk.2) (.int .i64 t506)) (fun _ hk => hk.2) (.int .i64 t507)) (fun _ hk => hk.2) (.int .i64 t508)) (fun _ hk => hk.2) (.int .i64 t509)) (fun _ hk => hk.2) (.slice Ao20 t510.length co20)) (fun _ hk => ⟨hk.1.1.2, hk.1.2⟩)))⟩
  have n3_ : Aside0 (w25.heap[gb504]? = some (.cells #[.int .i64 t490, .int .i64 t491, .int .i64 t492, .int .i64 t493, .slice Ao12 t494.length co12] 65 (0, 0))) := ⟨(by rw [hw_]; exact (by (with_reducible repeat (first | refine blk_drewN ?_ _ | refine blk_drew ?_ | refine blk_alloc ?_ _)); refine blk_far ?_ NB504_513.out _; (with_reducible repeat (first | refine blk_drewN ?_ _ | refine blk_drew ?_ | refine blk_alloc ?_ _)); refine blk_far ?_ NB504_513.out _; (with_reducible repeat (first | refine blk_drewN ?_ _ | refine blk_drew ?_ | refine blk_alloc ?_ _)); refine blk_far ?_ NB504_513.out _; (with_reducible repeat (first | refine blk_drewN ?_ _ | refine blk_drew ?_ | refine blk_alloc ?_ _)); refine blk_far ?_ NB504_513.out _; (with_reducible repeat (first | refine blk_drewN ?_ _ | refine blk_drew ?_ | refine blk_alloc ?_ _)); refine blk_far ?_ NB504_513.out _; (with_reducible repeat (first | refine blk_drewN ?_ _ | refine blk_drew ?_ | refine blk_alloc ?_ _)); exact BK504.out))⟩
  have n4_ : Aside0 (w25.heap[gb505]? = some (.cells #[.int .i64 t497, .int .i64 t498, .int .i64 t499, .int .i64 t500, .slice Ao14 t501.length co14] 65 (0, 0))) := ⟨(by rw [hw_]; exact (by (with_reducible repeat (first | refine blk_drewN ?_ _ | refine blk_drew ?_ | refine blk_alloc ?_ _)); refine blk_far ?_ NB505_513.out _; (with_reducible repeat (first | refine blk_drewN ?_ _ | refine blk_drew ?_ | refine blk_alloc ?_ _)); refine blk_far ?_ NB505_513.out _; (with_reducible repeat (first | refine blk_drewN ?_ _ | refine blk_drew ?_ | refine blk_alloc ?_ _)); refine blk_far ?_ NB505_513.out _; (with_reducible repeat (first | refine blk_drewN ?_ _ | refine blk_drew ?_ | refine blk_alloc ?_ _)); refine blk_far ?_ NB505_513.out _; (with_reducible repeat (first | refine blk_drewN ?_ _ | refine blk_drew ?_ | refine blk_alloc ?_ _)); refine blk_far ?_ NB505_513.out _; (with_reducible repeat (first | refine blk_drewN ?_ _ | refine blk_drew ?_ | refine blk_alloc ?_ _)); exact BK505.out))⟩
  have n5_ : Aside0 (w25.heap[gb513]? = some (.cells #[.int .i64 t506, .int .i64 t507, .int .i64 t508, .int .i64 t509, .slice Ao20 t510.length co20] 65 (0, 0))) := ⟨(by rw [hw_]; exact (by (with_reducible repeat (first | refine blk_drewN ?_ _ | refine blk_drew ?_ | refine blk_alloc ?_ _)); refine blk_put (cs := #[.int .i64 t506, .int .i64 t507, .int .i64 t508, .int .i64 t509, .slice none 0 0]) ?_ 4 _ rfl; (with_reducible repeat (first | refine blk_drewN ?_ _ | refine blk_drew ?_ | refine blk_alloc ?_ _)); refine blk_put (cs := #[.int .i64 t506, .int .i64 t507, .int .i64 t508, .int .i64 0, .slice none 0 0]) ?_ 3 _ rfl; (with_reducible repeat (first | refine blk_drewN ?_ _ | refine blk_drew ?_ | refine blk_alloc ?_ _)); refine blk_put (cs := #[.int .i64 t506, .int .i64 t507, .int .i64 0, .int .i64 0, .slice none 0 0]) ?_ 2 _ rfl; (with_reducible repeat (first | refine blk_drewN ?_ _ | refine blk_drew ?_ | refine blk_alloc ?_ _)); refine blk_put (cs := #[.int .i64 t506, .int .i64 0, .int .i64 0, .int .i64 0, .slice none 0 0]) ?_ 1 _ rfl; (with_reducible repeat (first | refine blk_drewN ?_ _ | refine blk_drew ?_ | refine blk_alloc ?_ _)); refine blk_put (cs := #[.int .i64 0, .int .i64 0, .int .i64 0, .int .i64 0, .slice none 0 0]) ?_ 0 _ rfl; (with_reducible repeat (first | refine blk_drewN ?_ _ | refine blk_drew ?_ | refine blk_alloc ?_ _)); exact BK513.out))⟩
  have n6_ : Aside0 (Below w.heap.size w w25) := ⟨(by rw [hw_]; exact z20_20)⟩
  (try clear HO496); (try clear HO503); (try clear HO512); (try clear BK504); (try clear BK505); (try clear BK513); (try clear HB)
  rw [← hw_]; clear hw_; have HO496 := n0_; have HO503 := n1_; have HO512 := n2_; have BK504 := n3_; have BK505 := n4_; have BK513 := n5_; have HB := n6_; clear n0_ n1_ n2_ n3_ n4_ n5_ n6_
  have n0_ := mk0 (Kd.R_drew HO496.out)
  have n1_ := mk0 (Kd.R_drew HO503.out)
  have n2_ := mk0 (Kd.R_drew HO512.out)
  have n3_ := mk0 (blk_drew BK504.out)
  have n4_ := mk0 (blk_drew BK505.out)
  have n5_ := mk0 (blk_drew BK513.out)
  have n6_ := mk0 (below_drew1 HB.out)
  clear HO496 HO503 HO512 BK504 BK505 BK513 HB; have HO496 := n0_; have HO503 := n1_; have HO512 := n2_; have BK504 := n3_; have BK505 := n4_; have BK513 := n5_; have HB := n6_; clear n0_ n1_ n2_ n3_ n4_ n5_ n6_
  refine start_ (n := 11) (S := fun w' => w'.cell? ⟨gb513, 0, none⟩ = some (.int .i64 t506) ∧ w'.cell? ⟨gb513, 1, none⟩ = some (.int .i64 t507) ∧ w'.cell? ⟨gb513, 2, none⟩ = some (.int .i64 t508) ∧ w'.cell? ⟨gb513, 3, none⟩ = some (.int .i64 t509) ∧ w'.cell? ⟨gb513, 4, none⟩ = some (.slice Ao20 t510.length co20) ∧ w'.cell? ⟨gb504, 0, none⟩ = some (.int .i64 t490) ∧ w'.cell? ⟨gb504, 1, none⟩ = some (.int .i64 t491) ∧ w'.cell? ⟨gb504, 2, none⟩ = some (.int .i64 t492) ∧ w'.cell? ⟨gb504, 3, none⟩ = some (.int .i64 t493) ∧ w'.cell? ⟨gb504, 4, none⟩ = some (.slice Ao12 t494.length co12) ∧ w'.cell? ⟨gb505, 0, none⟩ = some (.int .i64 t497) ∧ w'.cell? ⟨gb505, 1, none⟩ = some (.int .i64 t498) ∧ w'.cell? ⟨gb505, 2, none⟩ = some (.int .i64 t499) ∧ w'.cell? ⟨gb505, 3, none⟩ = some (.int .i64 t500) ∧ w'.cell? ⟨gb505, 4, none⟩ = some (.slice Ao14 t501.length co14)) (ds := []) #[false, false, false, false, false, false, false, false, false, false, false] (by kernel_rfl) rfl rfl ⟨(blk_cell BK513.out 0).trans rfl, (blk_cell BK513.out 1).trans rfl, (blk_cell BK513.out 2).trans rfl, (blk_cell BK513.out 3).trans rfl, (blk_cell BK513.out 4).trans rfl, (blk_cell BK504.out 0).trans rfl, (blk_cell BK504.out 1).trans rfl, (blk_cell BK504.out 2).trans rfl, (blk_cell BK504.out 3).trans rfl, (blk_cell BK504.out 4).trans rfl, (blk_cell BK505.out 0).trans rfl, (blk_cell BK505.out 1).trans rfl, (blk_cell BK505.out 2).trans rfl, (blk_cell BK505.out 3).trans rfl, (blk_cell BK505.out 4).trans rfl⟩ (fun hHeld => ?_); refine with_tabW laws_FnMeets.tab5 laws_FnMeets.bits5 (fun HT_ HW_ => ?_)
  generalize w25.drew = w26 at HO496 HO503 HO512 BK504 BK505 BK513 HB hHeld ⊢
  refine take_ (i := 0) (N := some 22) (v := ?_) (a' := ?_) (bA 11 1) rfl rfl (take_ofW HT_.out HW_.out (by kernel_rfl)) (fun _ _ _ h => h) (Or.inl ⟨by rfl, ?_⟩) hHeld ?_ ?_
  rotate_left
  ·rintro w' ⟨s0, s1, s2, s3, s4, s5, s6, s7, s8, s9, s10, s11, s12, s13, s14⟩
   go_simp; with_reducible rfl
  rotate_left
  ·exact x20_put
  refine one_ (i := 1) (N := some 23) (bA 11 3) rfl rfl (one_of HT_.out (by kernel_rfl)) (by decide) (fun K hK => ?_)
  refine goes_ Try.func27 (by kernel_rfl) rfl #[.agg #[.int .i64 t506, .int .i64 t507, .int .i64 t508, .int .i64 t509, .slice Ao20 t510.length co20]] (by rfl) rfl rfl z20_23 ?_
  with_reducible refine (impl_MaskOk.calls k t506 t507 t508 t509 _ _ t510 true _ ?side1 ?side2 A21.out).mono ?_
  (case side1 => exact z20_29)
  (case side2 => exact (Kd.R_reads' HO512.out).2.1)
  rintro e w27 ⟨rfl, hb⟩
  refine ⟨_, rfl, ?_⟩
  have n0_ := mk0 (Kd.R_below (pkR HO496) hb)
  have n1_ := mk0 (Kd.R_below (pkR HO503) hb)
  have n2_ := mk0 (Kd.R_below (pkR HO512) hb)
  have n3_ := mk0 (blk_belowB BK504 (pkb BK504) hb)
  have n4_ := mk0 (blk_belowB BK505 (pkb BK505) hb)
  have n5_ := mk0 (blk_belowB BK513 (pkb BK513) hb)
  have n6_ := mk0 (below_step z20_20 hb)
  clear HO496 HO503 HO512 BK504 BK505 BK513 HB; have HO496 := n0_; have HO503 := n1_; have HO512 := n2_; have BK504 := n3_; have BK505 := n4_; have BK513 := n5_; have HB := n6_; clear n0_ n1_ n2_ n3_ n4_ n5_ n6_; (try clear hb); (try clear hb2); (try clear hk); (try clear hi)
  refine hK.out _ _ ⟨(blk_cell BK513.out 0).trans rfl, (blk_cell BK513.out 1).trans rfl, (blk_cell BK513.out 2).trans rfl, (blk_cell BK513.out 3).trans rfl, (blk_cell BK513.out 4).trans rfl, (blk_cell BK504.out 0).trans rfl, (blk_cell BK504.out 1).trans rfl, (blk_cell BK504.out 2).trans rfl, (blk_cell BK504.out 3).trans rfl, (blk_cell BK504.out 4).trans rfl, (blk_cell BK505.out 0).trans rfl, (blk_cell BK505.out 1).trans rfl, (blk_cell BK505.out 2).trans rfl, (blk_cell BK505.out 3).trans rfl, (blk_cell BK505.out 4).trans rfl⟩ (fun hHeld => ?_)
  clear hK K
  refine norm_ (a' := ?_) ?_ ?_
  rotate_left
  ·show Act.put _ (some 23) _ = _
   simp only [Act.put, List.setIfInBounds_toArray, List.set_cons_zero, List.set_cons_succ, i64_w, i32_w]
   rfl
  refine pzv (i := 2) (N := 24) (v := ?_) (a' := ?_) (bA 11 7) HT_ ?_ ?_ ?_
  rotate_left
  ·intro w'
   go_simp; with_reducible rfl
  rotate_left
  ·exact x20_put
  refine pzv (i := 3) (N := 25) (v := ?_) (a' := ?_) (bA 11 15) HT_ ?_ ?_ ?_
  rotate_left
  ·intro w'
   go_simp; with_reducible rfl
  rotate_left
  ·exact x20_put
  refine take_ (i := 4) (N := some 26) (v := ?_) (a' := ?_) (bA 11 31) rfl rfl (take_ofW HT_.out HW_.out (by kernel_rfl)) (fun _ _ _ h => h) (Or.inl ⟨by rfl, ?_⟩) hHeld ?_ ?_
  rotate_left
  ·rintro w' ⟨s0, s1, s2, s3, s4, s5, s6, s7, s8, s9, s10, s11, s12, s13, s14⟩
   go_simp; with_reducible rfl
  rotate_left
  ·exact x20_put
  refine take_ (i := 5) (N := some 27) (v := ?_) (a' := ?_) (bA 11 63) rfl rfl (take_ofW HT_.out HW_.out (by kernel_rfl)) (fun _ _ _ h => h) (Or.inl ⟨by rfl, ?_⟩) hHeld ?_ ?_
  rotate_left
  ·rintro w' ⟨s0, s1, s2, s3, s4, s5, s6, s7, s8, s9, s10, s11, s12, s13, s14⟩
   go_simp; with_reducible rfl
  rotate_left
  ·exact x20_put
  refine take_ (i := 6) (N := some 28) (v := ?_) (a' := ?_) (bA 11 127) rfl rfl (take_ofW HT_.out HW_.out (by kernel_rfl)) (fun _ _ _ h => h) (Or.inl ⟨by rfl, ?_⟩) hHeld ?_ ?_
  rotate_left
  ·rintro w' ⟨s0, s1, s2, s3, s4, s5, s6, s7, s8, s9, s10, s11, s12, s13, s14⟩
   go_simp; with_reducible rfl
  rotate_left
  ·exact x20_put
  refine one_ (i := 7) (N := some 29) (bA 11 255) rfl rfl (one_of HT_.out (by kernel_rfl)) (by decide) (fun K hK => ?_)
  refine goes_ Try.func29 (by kernel_rfl) rfl #[.agg #[.int .i64 t490, .int .i64 t491, .int .i64 t492, .int .i64 t493, .slice Ao12 t494.length co12], .agg #[.int .i64 t497, .int .i64 t498, .int .i64 t499, .int .i64 t500, .slice Ao14 t501.length co14]] (by rfl) rfl rfl z20_23 ?_
  with_reducible refine (spec_MeetMask.calls k t490 t491 t492 t493 _ _ t494 t497 t498 t499 t500 _ _ t501 t515 t516 t517 t518 t519 _ ?side1 ?side2 ?side3 ?side4 A23.out).mono ?_
  (case side1 => repeat (first | exact (Kd.R_reads' HO496.out).2.2 | (with_reducible refine Kd.C_alloc ?_ _) | (with_reducible refine Kd.C_drewN ?_ _) | (with_reducible refine Kd.C_drew ?_)))
  (case side2 => exact (Kd.R_reads' HO496.out).2.1)
  (case side3 => repeat (first | exact (Kd.R_reads' HO503.out).2.2 | (with_reducible refine Kd.C_alloc ?_ _) | (with_reducible refine Kd.C_drewN ?_ _) | (with_reducible refine Kd.C_drew ?_)))
  (case side4 => exact (Kd.R_reads' HO503.out).2.1)
  rintro e w28 ⟨v520, rfl, ho0, hb⟩
  refine ⟨_, rfl, ?_⟩
  have n0_ := mk0 (Kd.R_elder' (pkR HO496) (Kd.R_base ho0) hb)
  have n1_ := mk0 (Kd.R_elder' (pkR HO503) (Kd.R_base ho0) hb)
  have n2_ := mk0 (Kd.R_elder' (pkR HO512) (Kd.R_base ho0) hb)
  have n3_ := mk0 (Kd.R_lower (Kd.R_new' (Kd.R_new' (Kd.R_new' ho0 (Kd.R_lt (pkR HO496))) (Kd.R_lt (pkR HO503))) (Kd.R_lt (pkR HO512))) (below_size z20_20))
  have n4_ := mk0 (blk_belowB BK504 (pkb BK504) hb)
  have n5_ := mk0 (blk_belowB BK505 (pkb BK505) hb)
  have n6_ := mk0 (blk_belowB BK513 (pkb BK513) hb)
  have n7_ := mk0 (below_step z20_20 hb)
  clear HO496 HO503 HO512 BK504 BK505 BK513 HB; have HO496 := n0_; have HO503 := n1_; have HO512 := n2_; have HO521 := n3_; have BK504 := n4_; have BK505 := n5_; have BK513 := n6_; have HB := n7_; clear n0_ n1_ n2_ n3_ n4_ n5_ n6_ n7_; (try clear hb); (try clear hb2); (try clear hk); (try clear hi); (try clear ho0)
  obtain ⟨Ao29, co29, eo29⟩ := Kd.R_slice HO521.out
  (first | subst eo29 | (injection eo29 with f1_ f2_ f3_; have f4_ := f1_.symm; have f5_ := f3_.symm; clear f1_ f2_ f3_; subst f4_; subst f5_))
  refine hK.out _ _ ⟨(blk_cell BK513.out 0).trans rfl, (blk_cell BK513.out 1).trans rfl, (blk_cell BK513.out 2).trans rfl, (blk_cell BK513.out 3).trans rfl, (blk_cell BK513.out 4).trans rfl, (blk_cell BK504.out 0).trans rfl, (blk_cell BK504.out 1).trans rfl, (blk_cell BK504.out 2).trans rfl, (blk_cell BK504.out 3).trans rfl, (blk_cell BK504.out 4).trans rfl, (blk_cell BK505.out 0).trans rfl, (blk_cell BK505.out 1).trans rfl, (blk_cell BK505.out 2).trans rfl, (blk_cell BK505.out 3).trans rfl, (blk_cell BK505.out 4).trans rfl⟩ (fun hHeld => ?_)
  clear hK K
  refine norm_ (a' := ?_) ?_ ?_
  rotate_left
  ·show Act.put _ (some 29) _ = _
   simp only [Act.put, List.setIfInBounds_toArray, List.set_cons_zero, List.set_cons_succ, i64_w, i32_w]
   rfl
  refine one_ (i := 8) (N := some 30) (bA 11 511) rfl rfl (one_of HT_.out (by kernel_rfl)) (by decide) (fun K hK => ?_)
  refine goes_ Try.func28 (by kernel_rfl) rfl #[.agg #[.int .i64 t506, .int .i64 t507, .int .i64 t508, .int .i64 t509, .slice Ao20 t510.length co20], .agg #[.int .i64 t515, .int .i64 t516, .int .i64 t517, .int .i64 t518, .slice Ao29 t519.length co29]] (by rfl) rfl rfl z20_23 ?_
  with_reducible refine (laws_sameMask.calls k t506 t507 t508 t509 _ _ t510 t515 t516 t517 t518 _ _ t519 t522 _ ?side1 ?side2 ?side3 ?side4 A24.out).mono ?_
  (case side1 => exact z20_29)
  (case side2 => exact (Kd.R_reads' HO512.out).2.1)
  (case side3 => repeat (first | exact (Kd.R_reads' HO521.out).2.2 | (with_reducible refine Kd.C_alloc ?_ _) | (with_reducible refine Kd.C_drewN ?_ _) | (with_reducible refine Kd.C_drew ?_)))
  (case side4 => exact (Kd.R_reads' HO521.out).2.1)
  rintro e w30 ⟨rfl, hb⟩
  refine ⟨_, rfl, ?_⟩
  have n0_ := mk0 (Kd.R_below (pkR HO496) hb)
  have n1_ := mk0 (Kd.R_below (pkR HO503) hb)
  have n2_ := mk0 (Kd.R_below (pkR HO512) hb)
  have n3_ := mk0 (Kd.R_below (pkR HO521) hb)
  have n4_ := mk0 (blk_belowB BK504 (pkb BK504) hb)
  have n5_ := mk0 (blk_belowB BK505 (pkb BK505) hb)
  have n6_ := mk0 (blk_belowB BK513 (pkb BK513) hb)
  have n7_ := mk0 (below_step z20_20 hb)
  clear HO496 HO503 HO512 HO521 BK504 BK505 BK513 HB; have HO496 := n0_; have HO503 := n1_; have HO512 := n2_; have HO521 := n3_; have BK504 := n4_; have BK505 := n5_; have BK513 := n6_; have HB := n7_; clear n0_ n1_ n2_ n3_ n4_ n5_ n6_ n7_; (try clear hb); (try clear hb2); (try clear hk); (try clear hi)
  refine hK.out _ _ ⟨(blk_cell BK513.out 0).trans rfl, (blk_cell BK513.out 1).trans rfl, (blk_cell BK513.out 2).trans rfl, (blk_cell BK513.out 3).trans rfl, (blk_cell BK513.out 4).trans rfl, (blk_cell BK504.out 0).trans rfl, (blk_cell BK504.out 1).trans rfl, (blk_cell BK504.out 2).trans rfl, (blk_cell BK504.out 3).trans rfl, (blk_cell BK504.out 4).trans rfl, (blk_cell BK505.out 0).trans rfl, (blk_cell BK505.out 1).trans rfl, (blk_cell BK505.out 2).trans rfl, (blk_cell BK505.out 3).trans rfl, (blk_cell BK505.out 4).trans rfl⟩ (fun hHeld => ?_)
  clear hK K
  refine norm_ (a' := ?_) ?_ ?_
  rotate_left
  ·show Act.put _ (some 30) _ = _
   simp only [Act.put, List.setIfInBounds_toArray, List.set_cons_zero, List.set_cons_succ, i64_w, i32_w]
   rfl
  refine pzv (i := 9) (N := 31) (v := ?_) (a' := ?_) (bA 11 1023) HT_ ?_ ?_ ?_
  rotate_left
  ·intro w'
   go_simp; with_reducible rfl
  rotate_left
  ·exact x20_put
  refine pzv (i := 10) (N := 32) (v := ?_) (a' := ?_) (bA 11 2047) HT_ ?_ ?_ ?_
  rotate_left
  ·intro w'
   go_simp; with_reducible rfl
  rotate_left
  ·exact x20_put
  refine done_ (done_of HT_.out (by kernel_rfl)) ?_
  try go_wp2
  go_meet
  case rel => exact ⟨_, (!t522), rs0, H', ⟨(by first | omega | exact Nat.le_refl _)⟩, ⟨(by (with_reducible repeat (first | apply Kd.R_alloc | apply Kd.R_drewN | apply Kd.R_drew)); exact Kd.R_mono HO496.out (fun _ hk => ⟨hk.1.1, hk.1.2⟩))⟩, ⟨(by (with_reducible repeat (first | apply Kd.R_alloc | apply Kd.R_drewN | apply Kd.R_drew)); exact Kd.R_mono HO503.out (fun _ hk => ⟨hk.1.1, hk.1.2⟩))⟩, ⟨(by (with_reducible repeat (first | apply Kd.R_alloc | apply Kd.R_drewN | apply Kd.R_drew)); exact Kd.R_mono HO512.out (fun _ hk => ⟨hk.1.1, hk.1.2⟩))⟩, ⟨pkb BK504⟩, ⟨pkb BK505⟩, ⟨pkb BK513⟩, ⟨z20_20⟩⟩
 case rest =>
  clear HC6; try clear c1
  try clear c2
  try clear p2
  try clear c3
  try clear c5
  try clear c10
  try clear c17
  try clear c18
  try clear c22
  try clear c24
  try clear c25
  try clear c26
  try clear c27
  try clear c28
  try clear c29
  obtain ⟨kq, x32_5, rfl, HA, HJ5, HO_505004, HO_506004, HO_514004, BK504, BK505, BK513, HB⟩ := hcut
  cases kq with
  | zero => exact absurd HA.out (by simp [laws_FnMeets.j0])
  | succ kj5 =>
   have H := HA.out; clear HA
   simp only [laws_FnMeets.j0] at H
   by_cases c31 : x32_5 = true
   ·subst c31
    rw [if_pos rfl] at H
    obtain rfl := Option.some.inj H
    exact absurd hT Bool.false_ne_true
   replace c31 := Bool.eq_false_iff.mpr c31
   subst c31
   rw [if_neg (show ¬ (false = true) by decide)] at H
   have H' := mk0 H
   clear H
   go_wp2
   go_loopg [6] kj5 (fun kq v6 w' => ∃ (x6_2 : Int), v6 = .int .i64 x6_2 ∧ Aside0 (laws_FnMeets.l0 kq x6_2 t490 t491 t492 t493 t494 t497 t498 t499 t500 t501 t506 t507 t508 t509 t510 = some r) ∧ Aside0 (kq ≤ kj5) ∧ Aside0 (Kd.R (Kd.int .i64) 3 w' w.heap.size (fun k_ => some k_ ≠ ((.slice Ao14 t501.length co14) : Value).ownBlock ∧ some k_ ≠ ((.slice Ao20 t510.length co20) : Value).ownBlock) (.slice Ao12 t494.length co12) t494) ∧ Aside0 (Kd.R (Kd.int .i64) 3 w' w.heap.size (fun k_ => some k_ ≠ ((.slice Ao12 t494.length co12) : Value).ownBlock ∧ some k_ ≠ ((.slice Ao20 t510.length co20) : Value).ownBlock) (.slice Ao14 t501.length co14) t501) ∧ Aside0 (Kd.R (Kd.int .i64) 3 w' w.heap.size (fun k_ => some k_ ≠ ((.slice Ao12 t494.length co12) : Value).ownBlock ∧ some k_ ≠ ((.slice Ao14 t501.length co14) : Value).ownBlock) (.slice Ao20 t510.length co20) t510) ∧ Aside0 (w'.heap[gb504]? = some (.cells #[.int .i64 t490, .int .i64 t491, .int .i64 t492, .int .i64 t493, (.slice Ao12 t494.length co12)] 65 (0, 0))) ∧ Aside0 (w'.heap[gb505]? = some (.cells #[.int .i64 t497, .int .i64 t498, .int .i64 t499, .int .i64 t500, (.slice Ao14 t501.length co14)] 65 (0, 0))) ∧ Aside0 (w'.heap[gb513]? = some (.cells #[.int .i64 t506, .int .i64 t507, .int .i64 t508, .int .i64 t509, (.slice Ao20 t510.length co20)] 65 (0, 0))) ∧ Aside0 (Below w.heap.size w w'))
   case atStart => exact ⟨((-3)), rs0, H', ⟨Nat.le_refl _⟩, ⟨pkR HO_505004⟩, ⟨pkR HO_506004⟩, ⟨pkR HO_514004⟩, ⟨pkb BK504⟩, ⟨pkb BK505⟩, ⟨pkb BK513⟩, ⟨z20_20⟩⟩
   case round =>
    clear H'
    try clear c1
    try clear c2
    try clear p2
    try clear c3
    try clear c5
    try clear c10
    try clear c17
    try clear c18
    try clear c22
    try clear c24
    try clear c25
    try clear c26
    try clear c27
    try clear c28
    try clear c29
    try clear c31
    try clear p2
    obtain ⟨x6_2, rfl, HA, HK2, HO_505004, HO_506004, HO_514004, BK504, BK505, BK513, HB⟩ := hrel
    cases gk with
    | zero => exact absurd HA.out (by simp [laws_FnMeets.l0])
    | succ k2 =>
     have H := HA.out; clear HA
     simp only [laws_FnMeets.l0] at H
     by_cases c32 : x6_2 < 16
     rotate_left
     ·rw [if_neg c32] at H
      have c32b0 := decide_eq_false c32
      clear c32
      replace H := Option.bind_eq_some_iff.mp H
      obtain ⟨⟨t523, t524, t525, t526, t527⟩, A530, H⟩ := H
      try dsimp only at H
      have A53 := mk0 A530
      clear A530
      replace H := Option.bind_eq_some_iff.mp H
      obtain ⟨t530, A540, H⟩ := H
      try dsimp only at H
      have A54 := mk0 A540
      clear A540
      obtain rfl := Option.some.inj H
      simp only [Option.some.injEq, Prod.mk.injEq] at H
      obtain ⟨rfl⟩ := H
      try go_wp2
      have n0_ := mk0 (Kd.R_drew HO_505004.out)
      have n1_ := mk0 (Kd.R_drew HO_506004.out)
      have n2_ := mk0 (Kd.R_drew HO_514004.out)
      have n3_ := mk0 (blk_drew BK504.out)
      have n4_ := mk0 (blk_drew BK505.out)
      have n5_ := mk0 (blk_drew BK513.out)
      have n6_ := mk0 (below_drew1 HB.out)
      clear HO_505004 HO_506004 HO_514004 BK504 BK505 BK513 HB; have HO_505004 := n0_; have HO_506004 := n1_; have HO_514004 := n2_; have BK504 := n3_; have BK505 := n4_; have BK513 := n5_; have HB := n6_; clear n0_ n1_ n2_ n3_ n4_ n5_ n6_
      refine start_ (n := 6) (S := fun w' => w'.cell? ⟨gb504, 0, none⟩ = some (.int .i64 t490) ∧ w'.cell? ⟨gb504, 1, none⟩ = some (.int .i64 t491) ∧ w'.cell? ⟨gb504, 2, none⟩ = some (.int .i64 t492) ∧ w'.cell? ⟨gb504, 3, none⟩ = some (.int .i64 t493) ∧ w'.cell? ⟨gb504, 4, none⟩ = some (.slice Ao12 t494.length co12)) (ds := []) #[false, false, false, false, false, false] (by kernel_rfl) rfl rfl ⟨(blk_cell BK504.out 0).trans rfl, (blk_cell BK504.out 1).trans rfl, (blk_cell BK504.out 2).trans rfl, (blk_cell BK504.out 3).trans rfl, (blk_cell BK504.out 4).trans rfl⟩ (fun hHeld => ?_)
      generalize wr.drew = w55 at HO_505004 HO_506004 HO_514004 BK504 BK505 BK513 HB hHeld ⊢
      refine take_ (i := 0) (N := some 75) (v := ?_) (a' := ?_) (bA 6 1) rfl rfl (by kernel_rfl) (fun _ _ _ h => h) (Or.inl ⟨by rfl, ?_⟩) hHeld ?_ ?_
      rotate_left
      ·rintro w' ⟨s0, s1, s2, s3, s4⟩
       go_simp; with_reducible rfl
      rotate_left
      ·exact x20_put
      refine take_ (i := 1) (N := some 76) (v := ?_) (a' := ?_) (bA 6 3) rfl rfl (by kernel_rfl) (fun _ _ _ h => h) (Or.inl ⟨by rfl, ?_⟩) hHeld ?_ ?_
      rotate_left
      ·rintro w' ⟨s0, s1, s2, s3, s4⟩
       go_simp; with_reducible rfl
      rotate_left
      ·exact x20_put
      refine take_ (i := 3) (N := some 78) (v := ?_) (a' := ?_) (bA 6 11) rfl rfl (by kernel_rfl) (fun _ _ _ h => h) (Or.inl ⟨by rfl, ?_⟩) hHeld ?_ ?_
      rotate_left
      ·rintro w' ⟨s0, s1, s2, s3, s4⟩
       go_simp; with_reducible rfl
      rotate_left
      ·exact x20_put
      refine one_ (i := 2) (N := some 77) (bA 6 15) rfl rfl (by kernel_rfl) (by decide) (fun K hK => ?_)
      refine goes_ Try.func26 (by kernel_rfl) rfl #[.agg #[.int .i64 t490, .int .i64 t491, .int .i64 t492, .int .i64 t493, .slice Ao12 t494.length co12], .agg #[.int .i64 t490, .int .i64 t491, .int .i64 t492, .int .i64 t493, .slice Ao12 t494.length co12]] (by rfl) rfl rfl z20_23 ?_
      with_reducible refine (impl_MeetMask.calls k2 t490 t491 t492 t493 _ _ t494 t490 t491 t492 t493 _ _ t494 t523 t524 t525 t526 t527 _ ?side1 ?side2 ?side3 ?side4 A53.out).mono ?_
      (case side1 => exact z20_26)
      (case side2 => exact (Kd.R_reads' HO_505004.out).2.1)
      (case side3 => exact z20_26)
      (case side4 => exact (Kd.R_reads' HO_505004.out).2.1)
      rintro e w56 ⟨v528, rfl, ho0, hb⟩
      refine ⟨_, rfl, ?_⟩
      have n0_ := mk0 (Kd.R_elder' (pkR HO_505004) (Kd.R_base ho0) hb)
      have n1_ := mk0 (Kd.R_elder' (pkR HO_506004) (Kd.R_base ho0) hb)
      have n2_ := mk0 (Kd.R_elder' (pkR HO_514004) (Kd.R_base ho0) hb)
      have n3_ := mk0 (Kd.R_lower (Kd.R_new' (Kd.R_new' (Kd.R_new' ho0 (Kd.R_lt (pkR HO_505004))) (Kd.R_lt (pkR HO_506004))) (Kd.R_lt (pkR HO_514004))) (below_size z20_20))
      have n4_ := mk0 (blk_belowB BK504 (pkb BK504) hb)
      have n5_ := mk0 (blk_belowB BK505 (pkb BK505) hb)
      have n6_ := mk0 (blk_belowB BK513 (pkb BK513) hb)
      have n7_ := mk0 (below_step z20_20 hb)
      clear HO_505004 HO_506004 HO_514004 BK504 BK505 BK513 HB; have HO_505004 := n0_; have HO_506004 := n1_; have HO_514004 := n2_; have HO529 := n3_; have BK504 := n4_; have BK505 := n5_; have BK513 := n6_; have HB := n7_; clear n0_ n1_ n2_ n3_ n4_ n5_ n6_ n7_; (try clear hb); (try clear hb2); (try clear hk); (try clear hi); (try clear ho0)
      obtain ⟨Ao57, co57, eo57⟩ := Kd.R_slice HO529.out
      (first | subst eo57 | (injection eo57 with f1_ f2_ f3_; have f4_ := f1_.symm; have f5_ := f3_.symm; clear f1_ f2_ f3_; subst f4_; subst f5_))
      refine hK.out _ _ ⟨(blk_cell BK504.out 0).trans rfl, (blk_cell BK504.out 1).trans rfl, (blk_cell BK504.out 2).trans rfl, (blk_cell BK504.out 3).trans rfl, (blk_cell BK504.out 4).trans rfl⟩ (fun hHeld => ?_)
      clear hK K
      refine norm_ (a' := ?_) ?_ ?_
      rotate_left
      ·show Act.put _ (some 77) _ = _
       simp only [Act.put, List.setIfInBounds_toArray, List.set_cons_zero, List.set_cons_succ, i64_w, i32_w]
       rfl
      refine one_ (i := 4) (N := some 79) (bA 6 31) rfl rfl (by kernel_rfl) (by decide) (fun K hK => ?_)
      refine goes_ Try.func28 (by kernel_rfl) rfl #[.agg #[.int .i64 t523, .int .i64 t524, .int .i64 t525, .int .i64 t526, .slice Ao57 t527.length co57], .agg #[.int .i64 t490, .int .i64 t491, .int .i64 t492, .int .i64 t493, .slice Ao12 t494.length co12]] (by rfl) rfl rfl z20_23 ?_
      with_reducible refine (laws_sameMask.calls k2 t523 t524 t525 t526 _ _ t527 t490 t491 t492 t493 _ _ t494 t530 _ ?side1 ?side2 ?side3 ?side4 A54.out).mono ?_
      (case side1 => repeat (first | exact (Kd.R_reads' HO529.out).2.2 | (with_reducible refine Kd.C_alloc ?_ _) | (with_reducible refine Kd.C_drewN ?_ _) | (with_reducible refine Kd.C_drew ?_)))
      (case side2 => exact (Kd.R_reads' HO529.out).2.1)
      (case side3 => exact z20_26)
      (case side4 => exact (Kd.R_reads' HO_505004.out).2.1)
      rintro e w58 ⟨rfl, hb⟩
      refine ⟨_, rfl, ?_⟩
      have n0_ := mk0 (Kd.R_below (pkR HO_505004) hb)
      have n1_ := mk0 (Kd.R_below (pkR HO_506004) hb)
      have n2_ := mk0 (Kd.R_below (pkR HO_514004) hb)
      have n3_ := mk0 (Kd.R_below (pkR HO529) hb)
      have n4_ := mk0 (blk_belowB BK504 (pkb BK504) hb)
      have n5_ := mk0 (blk_belowB BK505 (pkb BK505) hb)
      have n6_ := mk0 (blk_belowB BK513 (pkb BK513) hb)
      have n7_ := mk0 (below_step z20_20 hb)
      clear HO_505004 HO_506004 HO_514004 HO529 BK504 BK505 BK513 HB; have HO_505004 := n0_; have HO_506004 := n1_; have HO_514004 := n2_; have HO529 := n3_; have BK504 := n4_; have BK505 := n5_; have BK513 := n6_; have HB := n7_; clear n0_ n1_ n2_ n3_ n4_ n5_ n6_ n7_; (try clear hb); (try clear hb2); (try clear hk); (try clear hi)
      refine hK.out _ _ ⟨(blk_cell BK504.out 0).trans rfl, (blk_cell BK504.out 1).trans rfl, (blk_cell BK504.out 2).trans rfl, (blk_cell BK504.out 3).trans rfl, (blk_cell BK504.out 4).trans rfl⟩ (fun hHeld => ?_)
      clear hK K
      refine norm_ (a' := ?_) ?_ ?_
      rotate_left
      ·show Act.put _ (some 79) _ = _
       simp only [Act.put, List.setIfInBounds_toArray, List.set_cons_zero, List.set_cons_succ, i64_w, i32_w]
       rfl
      refine pure_ (i := 5) (N := some 2) (v := ?_) (a' := ?_) (bA 6 63) rfl rfl (by kernel_rfl) (fun _ _ _ h => h) (Or.inl ⟨by rfl, ?_⟩) ?_ ?_; rotate_left
      ·intro w'
       go_simp; with_reducible rfl
      rotate_left
      ·exact x20_put
      refine done_ (by kernel_rfl) ?_
      try go_wp2
      go_ret
      exact ⟨(by first | rfl | (simp [errW_none, errW_some] <;> rfl) | (simp [*, errW_none, errW_some] <;> rfl)), z20_20⟩
     rw [if_pos c32] at H
     have c32b0 := decide_eq_true c32
     clear c32
     have H' := mk0 H
     clear H
     go_wp2
     go_loopg [7] k2 (fun kq v7 w' => ∃ (x7_3 : Int), v7 = .int .i64 x7_3 ∧ Aside0 (laws_FnMeets.l1 kq x6_2 x7_3 t490 t491 t492 t493 t494 t497 t498 t499 t500 t501 t506 t507 t508 t509 t510 = some r) ∧ Aside0 (kq ≤ k2) ∧ Aside0 (Kd.R (Kd.int .i64) 3 w' w.heap.size (fun k_ => some k_ ≠ ((.slice Ao14 t501.length co14) : Value).ownBlock ∧ some k_ ≠ ((.slice Ao20 t510.length co20) : Value).ownBlock) (.slice Ao12 t494.length co12) t494) ∧ Aside0 (Kd.R (Kd.int .i64) 3 w' w.heap.size (fun k_ => some k_ ≠ ((.slice Ao12 t494.length co12) : Value).ownBlock ∧ some k_ ≠ ((.slice Ao20 t510.length co20) : Value).ownBlock) (.slice Ao14 t501.length co14) t501) ∧ Aside0 (Kd.R (Kd.int .i64) 3 w' w.heap.size (fun k_ => some k_ ≠ ((.slice Ao12 t494.length co12) : Value).ownBlock ∧ some k_ ≠ ((.slice Ao14 t501.length co14) : Value).ownBlock) (.slice Ao20 t510.length co20) t510) ∧ Aside0 (w'.heap[gb504]? = some (.cells #[.int .i64 t490, .int .i64 t491, .int .i64 t492, .int .i64 t493, (.slice Ao12 t494.length co12)] 65 (0, 0))) ∧ Aside0 (w'.heap[gb505]? = some (.cells #[.int .i64 t497, .int .i64 t498, .int .i64 t499, .int .i64 t500, (.slice Ao14 t501.length co14)] 65 (0, 0))) ∧ Aside0 (w'.heap[gb513]? = some (.cells #[.int .i64 t506, .int .i64 t507, .int .i64 t508, .int .i64 t509, (.slice Ao20 t510.length co20)] 65 (0, 0))) ∧ Aside0 (Below w.heap.size w w'))
     case atStart => exact ⟨((-3)), rs0, H', ⟨Nat.le_refl _⟩, ⟨pkR HO_505004⟩, ⟨pkR HO_506004⟩, ⟨pkR HO_514004⟩, ⟨pkb BK504⟩, ⟨pkb BK505⟩, ⟨pkb BK513⟩, ⟨z20_20⟩⟩
     case round =>
      clear H'
      try clear c1
      try clear c2
      try clear p2
      try clear c3
      try clear c5
      try clear c10
      try clear c17
      try clear c18
      try clear c22
      try clear c24
      try clear c25
      try clear c26
      try clear c27
      try clear c28
      try clear c29
      try clear c31
      try clear c32
      try clear c32b0
      try clear p2
      obtain ⟨x7_3, rfl, HA, HK3, HO_505004, HO_506004, HO_514004, BK504, BK505, BK513, HB⟩ := hrel
      cases gk with
      | zero => exact absurd HA.out (by simp [laws_FnMeets.l1])
      | succ k3 =>
       have H := HA.out; clear HA
       simp only [laws_FnMeets.l1] at H
       by_cases c33 : x7_3 < 16
       rotate_left
       ·rw [if_neg c33] at H
        have c33b0 := decide_eq_false c33
        clear c33
        have H' := mk0 H
        clear H
        go_wp2
        go_roundg k3
        case measure => have := HJ5.out; have := HK2.out; have := HK3.out; omega
        case rel => exact ⟨(wrap64 (x6_2 + 1)), rs0, H', ⟨(by have := HJ5.out; have := HK2.out; have := HK3.out; omega)⟩, ⟨pkR HO_505004⟩, ⟨pkR HO_506004⟩, ⟨pkR HO_514004⟩, ⟨pkb BK504⟩, ⟨pkb BK505⟩, ⟨pkb BK513⟩, ⟨z20_20⟩⟩
       rw [if_pos c33] at H
       have c33b0 := decide_eq_true c33
       clear c33
       replace H := Option.bind_eq_some_iff.mp H
       obtain ⟨t531, A340, H⟩ := H
       try dsimp only at H
       have A34 := mk0 A340
       clear A340
       replace H := Option.bind_eq_some_iff.mp H
       obtain ⟨t532, A350, H⟩ := H
       try dsimp only at H
       have A35 := mk0 A350
       clear A350
       replace H := Option.bind_eq_some_iff.mp H
       obtain ⟨t533, A360, H⟩ := H
       try dsimp only at H
       have A36 := mk0 A360
       clear A360
       have H' := mk0 H
       clear H; have hnb37 := NB504_505.out; have hnc37 := NB505_504.out; have hnb38 := NB504_513.out; have hnc38 := NB513_504.out
       obtain ⟨_, _, _, _, _, _, _, _, _, _⟩ := be_5 BK504.out
       go_wp2_with (first | ((with_reducible refine gate_callee (f := 30) rfl ?_); refine goesL_ (some 44) rfl rfl Try.func30 (by kernel_rfl) rfl #[.agg #[.int .i64 t490, .int .i64 t491, .int .i64 t492, .int .i64 t493, .slice Ao12 t494.length co12], .int .i64 x7_3, .int .i64 x6_2] rfl z20_23 ?_; (with_reducible refine (impl_BitsAt.calls k3 t490 t491 t492 t493 _ _ t494 x7_3 x6_2 t531 _ ?side1 ?side2 A34.out).mono ?_); (case side1 => exact z20_26); (case side2 => exact (Kd.R_reads' HO_505004.out).2.1); rintro e w40 ⟨rfl, hb⟩; refine ⟨_, rfl, ?_⟩; have n0_ := mk0 (Kd.R_below (pkR HO_505004) hb); have n1_ := mk0 (Kd.R_below (pkR HO_506004) hb); have n2_ := mk0 (Kd.R_below (pkR HO_514004) hb); have n3_ := mk0 (blk_belowB BK504 (pkb BK504) hb); have n4_ := mk0 (blk_belowB BK505 (pkb BK505) hb); have n5_ := mk0 (blk_belowB BK513 (pkb BK513) hb); have n6_ := mk0 (below_step z20_20 hb); clear HO_505004 HO_506004 HO_514004 BK504 BK505 BK513 HB; have HO_505004 := n0_; have HO_506004 := n1_; have HO_514004 := n2_; have BK504 := n3_; have BK505 := n4_; have BK513 := n5_; have HB := n6_; clear n0_ n1_ n2_ n3_ n4_ n5_ n6_; (try clear hb); have hnb41 := NB505_513.out; have hnc41 := NB513_505.out; obtain ⟨_, _, _, _, _, _, _, _, _, _⟩ := be_5 BK505.out) | ((with_reducible refine gate_callee (f := 30) rfl ?_); refine goesL_ (some 48) rfl rfl Try.func30 (by kernel_rfl) rfl #[.agg #[.int .i64 t497, .int .i64 t498, .int .i64 t499, .int .i64 t500, .slice Ao14 t501.length co14], .int .i64 x7_3, .int .i64 x6_2] rfl z20_23 ?_; (with_reducible refine (impl_BitsAt.calls k3 t497 t498 t499 t500 _ _ t501 x7_3 x6_2 t532 _ ?side1 ?side2 A35.out).mono ?_); (case side1 => repeat (first | exact (Kd.R_reads' HO_506004.out).2.2 | (with_reducible refine Kd.C_alloc ?_ _) | (with_reducible refine Kd.C_drewN ?_ _) | (with_reducible refine Kd.C_drew ?_))); (case side2 => exact (Kd.R_reads' HO_506004.out).2.1); rintro e w43 ⟨rfl, hb⟩; refine ⟨_, rfl, ?_⟩; have n0_ := mk0 (Kd.R_below (pkR HO_505004) hb); have n1_ := mk0 (Kd.R_below (pkR HO_506004) hb); have n2_ := mk0 (Kd.R_below (pkR HO_514004) hb); have n3_ := mk0 (blk_belowB BK504 (pkb BK504) hb); have n4_ := mk0 (blk_belowB BK505 (pkb BK505) hb); have n5_ := mk0 (blk_belowB BK513 (pkb BK513) hb); have n6_ := mk0 (below_step z20_20 hb); clear HO_505004 HO_506004 HO_514004 BK504 BK505 BK513 HB; have HO_505004 := n0_; have HO_506004 := n1_; have HO_514004 := n2_; have BK504 := n3_; have BK505 := n4_; have BK513 := n5_; have HB := n6_; clear n0_ n1_ n2_ n3_ n4_ n5_ n6_; (try clear hb); obtain ⟨_, _, _, _, _, _, _, _, _, _⟩ := be_5 BK513.out) | ((with_reducible refine gate_callee (f := 30) rfl ?_); refine goesL_ (some 52) rfl rfl Try.func30 (by kernel_rfl) rfl #[.agg #[.int .i64 t506, .int .i64 t507, .int .i64 t508, .int .i64 t509, .slice Ao20 t510.length co20], .int .i64 x7_3, .int .i64 x6_2] rfl z20_23 ?_; (with_reducible refine (impl_BitsAt.calls k3 t506 t507 t508 t509 _ _ t510 x7_3 x6_2 t533 _ ?side1 ?side2 A36.out).mono ?_); (case side1 => repeat (first | exact (Kd.R_reads' HO_514004.out).2.2 | (with_reducible refine Kd.C_alloc ?_ _) | (with_reducible refine Kd.C_drewN ?_ _) | (with_reducible refine Kd.C_drew ?_))); (case side2 => exact (Kd.R_reads' HO_514004.out).2.1); rintro e w45 ⟨rfl, hb⟩; refine ⟨_, rfl, ?_⟩; have n0_ := mk0 (Kd.R_below (pkR HO_505004) hb); have n1_ := mk0 (Kd.R_below (pkR HO_506004) hb); have n2_ := mk0 (Kd.R_below (pkR HO_514004) hb); have n3_ := mk0 (blk_belowB BK504 (pkb BK504) hb); have n4_ := mk0 (blk_belowB BK505 (pkb BK505) hb); have n5_ := mk0 (blk_belowB BK513 (pkb BK513) hb); have n6_ := mk0 (below_step z20_20 hb); clear HO_505004 HO_506004 HO_514004 BK504 BK505 BK513 HB; have HO_505004 := n0_; have HO_506004 := n1_; have HO_514004 := n2_; have BK504 := n3_; have BK505 := n4_; have BK513 := n5_; have HB := n6_; clear n0_ n1_ n2_ n3_ n4_ n5_ n6_; (try clear hb)))
       go_loopg [11] k3 (fun kq v11 w' => ∃ (x11_4 : Int), v11 = .int .i64 x11_4 ∧ Aside0 (laws_FnMeets.l2 kq x6_2 x7_3 t531 t532 t533 x11_4 t490 t491 t492 t493 t494 t497 t498 t499 t500 t501 t506 t507 t508 t509 t510 = some r) ∧ Aside0 (kq ≤ k3) ∧ Aside0 (Kd.R (Kd.int .i64) 3 w' w.heap.size (fun k_ => some k_ ≠ ((.slice Ao14 t501.length co14) : Value).ownBlock ∧ some k_ ≠ ((.slice Ao20 t510.length co20) : Value).ownBlock) (.slice Ao12 t494.length co12) t494) ∧ Aside0 (Kd.R (Kd.int .i64) 3 w' w.heap.size (fun k_ => some k_ ≠ ((.slice Ao12 t494.length co12) : Value).ownBlock ∧ some k_ ≠ ((.slice Ao20 t510.length co20) : Value).ownBlock) (.slice Ao14 t501.length co14) t501) ∧ Aside0 (Kd.R (Kd.int .i64) 3 w' w.heap.size (fun k_ => some k_ ≠ ((.slice Ao12 t494.length co12) : Value).ownBlock ∧ some k_ ≠ ((.slice Ao14 t501.length co14) : Value).ownBlock) (.slice Ao20 t510.length co20) t510) ∧ Aside0 (w'.heap[gb504]? = some (.cells #[.int .i64 t490, .int .i64 t491, .int .i64 t492, .int .i64 t493, (.slice Ao12 t494.length co12)] 65 (0, 0))) ∧ Aside0 (w'.heap[gb505]? = some (.cells #[.int .i64 t497, .int .i64 t498, .int .i64 t499, .int .i64 t500, (.slice Ao14 t501.length co14)] 65 (0, 0))) ∧ Aside0 (w'.heap[gb513]? = some (.cells #[.int .i64 t506, .int .i64 t507, .int .i64 t508, .int .i64 t509, (.slice Ao20 t510.length co20)] 65 (0, 0))) ∧ Aside0 (Below w.heap.size w w'))
       case atStart => exact ⟨(1), rs0, H', ⟨Nat.le_refl _⟩, ⟨pkR HO_505004⟩, ⟨pkR HO_506004⟩, ⟨pkR HO_514004⟩, ⟨pkb BK504⟩, ⟨pkb BK505⟩, ⟨pkb BK513⟩, ⟨z20_20⟩⟩
       case round =>
        clear H'
        try clear c1
        try clear c2
        try clear p2
        try clear c3
        try clear c4
        try clear c5
        try clear c10
        try clear c17
        try clear c18
        try clear c22
        try clear c24
        try clear c25
        try clear c26
        try clear c27
        try clear c28
        try clear c29
        try clear c30
        try clear c31
        try clear c32
        try clear c32b0
        try clear c33
        try clear c33b0
        try clear c37
        try clear c38
        try clear c41
        try clear p2
        obtain ⟨x11_4, rfl, HA, HK4, HO_505004, HO_506004, HO_514004, BK504, BK505, BK513, HB⟩ := hrel
        cases gk with
        | zero => exact absurd HA.out (by simp [laws_FnMeets.l2])
        | succ k4 =>
         have H := HA.out; clear HA
         simp only [laws_FnMeets.l2] at H
         by_cases c46 : x11_4 ≤ 8
         rotate_left
         ·rw [if_neg c46] at H
          have c46b0 := decide_eq_false c46
          clear c46
          have H' := mk0 H
          clear H
          go_wp2
          go_roundg k4
          case measure => have := HJ5.out; have := HK2.out; have := HK3.out; have := HK4.out; omega
          case rel => exact ⟨(wrap64 (x7_3 + 1)), rs0, H', ⟨z20_30⟩, ⟨pkR HO_505004⟩, ⟨pkR HO_506004⟩, ⟨pkR HO_514004⟩, ⟨pkb BK504⟩, ⟨pkb BK505⟩, ⟨pkb BK513⟩, ⟨z20_20⟩⟩
         rw [if_pos c46] at H
         have c46b0 := decide_eq_true c46
         clear c46
         by_cases c47 : x11_4 = 0
         ·rw [if_pos c47] at H
          exact absurd H (by simp)
         rw [if_neg c47] at H
         have c47b0 : (x11_4 == 0) = false := beq_eq_false_iff_ne.mpr c47
         have c47b1 : (x11_4 != 0) = true := bne_iff_ne.mpr c47
         by_cases c48 : (Int.tmod (wrap64 (Int.tdiv t531 x11_4)) 2) = 1
         rotate_left
         ·rw [if_neg c48] at H
          have c48b0 : ((Int.tmod (wrap64 (Int.tdiv t531 x11_4)) 2) == 1) = false := beq_eq_false_iff_ne.mpr c48
          have c48b1 : ((Int.tmod (wrap64 (Int.tdiv t531 x11_4)) 2) != 1) = true := bne_iff_ne.mpr c48
          by_cases c51 : (((Int.tmod (wrap64 (Int.tdiv t533 x11_4)) 2) == 1) != false) = true
          ·rw [if_pos c51] at H
           have c51b0 : (((Int.tmod (wrap64 (Int.tdiv t533 x11_4)) 2) == 1) != false) = true := c51
           (try (have c51b1 : decide (((Int.tmod (wrap64 (Int.tdiv t533 x11_4)) 2) == 1) = false) = false := by simpa using c51))
           (try (have c51b2 : (((Int.tmod (wrap64 (Int.tdiv t533 x11_4)) 2) == 1) == false) = false := by simpa using c51))
           (try (have c51b3 : ¬ (((Int.tmod (wrap64 (Int.tdiv t533 x11_4)) 2) == 1) = false) := by simpa using c51))
           clear c51
           obtain rfl := Option.some.inj H
           exact absurd hT Bool.false_ne_true
          rw [if_neg c51] at H
          have c51b0 : (((Int.tmod (wrap64 (Int.tdiv t533 x11_4)) 2) == 1) != false) = false := by simpa using c51
          (try (have c51b1 : decide (((Int.tmod (wrap64 (Int.tdiv t533 x11_4)) 2) == 1) = false) = true := by simpa using c51))
          (try (have c51b2 : (((Int.tmod (wrap64 (Int.tdiv t533 x11_4)) 2) == 1) == false) = true := by simpa using c51))
          clear c51
          have H' := mk0 H
          clear H
          try go_wp2
          have n0_ := mk0 (Kd.R_drew HO_505004.out)
          have n1_ := mk0 (Kd.R_drew HO_506004.out)
          have n2_ := mk0 (Kd.R_drew HO_514004.out)
          have n3_ := mk0 (blk_drew BK504.out)
          have n4_ := mk0 (blk_drew BK505.out)
          have n5_ := mk0 (blk_drew BK513.out)
          have n6_ := mk0 (below_drew1 HB.out)
          clear HO_505004 HO_506004 HO_514004 BK504 BK505 BK513 HB; have HO_505004 := n0_; have HO_506004 := n1_; have HO_514004 := n2_; have BK504 := n3_; have BK505 := n4_; have BK513 := n5_; have HB := n6_; clear n0_ n1_ n2_ n3_ n4_ n5_ n6_
          refine start_ (n := 18) (S := fun w' => True) (ds := []) y20_0 (by kernel_rfl) rfl rfl trivial (fun hHeld => ?_); refine with_tabW laws_FnMeets.tab19 laws_FnMeets.bits19 (fun HT_ HW_ => ?_)
          generalize wr.drew = w52 at HO_505004 HO_506004 HO_514004 BK504 BK505 BK513 HB hHeld ⊢
          refine pzv (i := 0) (N := 57) (v := ?_) (a' := ?_) y20_2 HT_ ?_ ?_ ?_
          rotate_left
          ·intro w'
           go_simp; with_reducible rfl
          rotate_left
          ·exact x20_put
          refine pzv (i := 1) (N := 58) (v := ?_) (a' := ?_) y20_4 HT_ ?_ ?_ ?_
          rotate_left
          ·intro w'
           go_simp; with_reducible rfl
          rotate_left
          ·exact x20_put
          refine pzv (i := 2) (N := 59) (v := ?_) (a' := ?_) y20_6 HT_ ?_ ?_ ?_
          rotate_left
          ·intro w'
           go_simp; with_reducible rfl
          rotate_left
          ·exact x20_put
          refine pzv (i := 3) (N := 60) (v := ?_) (a' := ?_) y20_8 HT_ ?_ ?_ ?_
          rotate_left
          ·intro w'
           go_simp; with_reducible rfl
          rotate_left
          ·exact x20_put
          refine pzv (i := 4) (N := 61) (v := ?_) (a' := ?_) y20_10 HT_ ?_ ?_ ?_
          rotate_left
          ·intro w'
           go_simp; with_reducible rfl
          rotate_left
          ·exact x20_put
          refine pzv (i := 5) (N := 62) (v := ?_) (a' := ?_) y20_12 HT_ ?_ ?_ ?_
          rotate_left
          ·intro w'
           go_simp; with_reducible rfl
          rotate_left
          ·exact x20_put
          refine pzv (i := 6) (N := 63) (v := ?_) (a' := ?_) y20_14 HT_ ?_ ?_ ?_
          rotate_left
          ·intro w'
           go_simp; with_reducible rfl
          rotate_left
          ·exact x20_put
          refine pzv (i := 7) (N := 64) (v := ?_) (a' := ?_) y20_16 HT_ ?_ ?_ ?_
          rotate_left
          ·intro w'
           go_simp; with_reducible rfl
          rotate_left
          ·exact x20_put
          refine pzv (i := 8) (N := 65) (v := ?_) (a' := ?_) y20_18 HT_ ?_ ?_ ?_
          rotate_left
          ·intro w'
           go_simp; with_reducible rfl
          rotate_left
          ·exact x20_put
          refine pzv (i := 9) (N := 66) (v := ?_) (a' := ?_) y20_20 HT_ ?_ ?_ ?_
          rotate_left
          ·intro w'
           go_simp; with_reducible rfl
          rotate_left
          ·exact x20_put
          refine pzv (i := 10) (N := 67) (v := ?_) (a' := ?_) y20_22 HT_ ?_ ?_ ?_
          rotate_left
          ·intro w'
           go_simp; with_reducible rfl
          rotate_left
          ·exact x20_put
          refine pzu (i := 11) (N := 68) (a' := ?_) y20_23 HT_ ?_ ?_
          rotate_left
          ·exact x20_put
          refine pzu (i := 12) (N := 69) (a' := ?_) y20_24 HT_ ?_ ?_
          rotate_left
          ·exact x20_put
          refine pzu (i := 13) (N := 70) (a' := ?_) y20_25 HT_ ?_ ?_
          rotate_left
          ·exact x20_put
          refine pzu (i := 14) (N := 71) (a' := ?_) y20_26 HT_ ?_ ?_
          rotate_left
          ·exact x20_put
          refine pzu (i := 15) (N := 72) (a' := ?_) y20_27 HT_ ?_ ?_
          rotate_left
          ·exact x20_put
          refine pzv (i := 16) (N := 73) (v := ?_) (a' := ?_) y20_28 HT_ ?_ ?_ ?_
          rotate_left
          ·intro w'
           go_simp; with_reducible rfl
          rotate_left
          ·exact x20_put
          refine pzv (i := 17) (N := 74) (v := ?_) (a' := ?_) y20_29 HT_ ?_ ?_ ?_
          rotate_left
          ·intro w'
           go_simp; with_reducible rfl
          rotate_left
          ·exact x20_put
          refine done_ (done_of HT_.out (by kernel_rfl)) ?_
          try go_wp2
          go_roundg k4
          case measure => have := HJ5.out; have := HK2.out; have := HK3.out; have := HK4.out; omega
          case rel => exact ⟨(wrap64 (2 * x11_4)), rs0, H', ⟨z20_30⟩, ⟨pkR HO_505004⟩, ⟨pkR HO_506004⟩, ⟨pkR HO_514004⟩, ⟨pkb BK504⟩, ⟨pkb BK505⟩, ⟨pkb BK513⟩, ⟨z20_20⟩⟩
         rw [if_pos c48] at H
         have c48b0 : ((Int.tmod (wrap64 (Int.tdiv t531 x11_4)) 2) == 1) = true := beq_iff_eq.mpr c48
         have c48b1 : ((Int.tmod (wrap64 (Int.tdiv t531 x11_4)) 2) != 1) = false := bne_eq_false_iff_eq.mpr c48
         clear c48
         by_cases c49 : (((Int.tmod (wrap64 (Int.tdiv t533 x11_4)) 2) == 1) != ((Int.tmod (wrap64 (Int.tdiv t532 x11_4)) 2) == 1)) = true
         ·rw [if_pos c49] at H
          have c49b0 : (((Int.tmod (wrap64 (Int.tdiv t533 x11_4)) 2) == 1) != ((Int.tmod (wrap64 (Int.tdiv t532 x11_4)) 2) == 1)) = true := c49
          (try (have c49b1 : decide (((Int.tmod (wrap64 (Int.tdiv t533 x11_4)) 2) == 1) = ((Int.tmod (wrap64 (Int.tdiv t532 x11_4)) 2) == 1)) = false := by simpa using c49))
          (try (have c49b2 : (((Int.tmod (wrap64 (Int.tdiv t533 x11_4)) 2) == 1) == ((Int.tmod (wrap64 (Int.tdiv t532 x11_4)) 2) == 1)) = false := by simpa using c49))
          (try (have c49b3 : ¬ (((Int.tmod (wrap64 (Int.tdiv t533 x11_4)) 2) == 1) = ((Int.tmod (wrap64 (Int.tdiv t532 x11_4)) 2) == 1)) := by simpa using c49))
          clear c49
          obtain rfl := Option.some.inj H
          exact absurd hT Bool.false_ne_true
         rw [if_neg c49] at H
         have c49b0 : (((Int.tmod (wrap64 (Int.tdiv t533 x11_4)) 2) == 1) != ((Int.tmod (wrap64 (Int.tdiv t532 x11_4)) 2) == 1)) = false := by simpa using c49
         (try (have c49b1 : decide (((Int.tmod (wrap64 (Int.tdiv t533 x11_4)) 2) == 1) = ((Int.tmod (wrap64 (Int.tdiv t532 x11_4)) 2) == 1)) = true := by simpa using c49))
         (try (have c49b2 : (((Int.tmod (wrap64 (Int.tdiv t533 x11_4)) 2) == 1) == ((Int.tmod (wrap64 (Int.tdiv t532 x11_4)) 2) == 1)) = true := by simpa using c49))
         clear c49
         have H' := mk0 H
         clear H
         try go_wp2
         have n0_ := mk0 (Kd.R_drew HO_505004.out)
         have n1_ := mk0 (Kd.R_drew HO_506004.out)
         have n2_ := mk0 (Kd.R_drew HO_514004.out)
         have n3_ := mk0 (blk_drew BK504.out)
         have n4_ := mk0 (blk_drew BK505.out)
         have n5_ := mk0 (blk_drew BK513.out)
         have n6_ := mk0 (below_drew1 HB.out)
         clear HO_505004 HO_506004 HO_514004 BK504 BK505 BK513 HB; have HO_505004 := n0_; have HO_506004 := n1_; have HO_514004 := n2_; have BK504 := n3_; have BK505 := n4_; have BK513 := n5_; have HB := n6_; clear n0_ n1_ n2_ n3_ n4_ n5_ n6_
         refine start_ (n := 18) (S := fun w' => True) (ds := []) y20_0 (by kernel_rfl) rfl rfl trivial (fun hHeld => ?_); refine with_tabW laws_FnMeets.tab19 laws_FnMeets.bits19 (fun HT_ HW_ => ?_)
         generalize wr.drew = w50 at HO_505004 HO_506004 HO_514004 BK504 BK505 BK513 HB hHeld ⊢
         refine pzv (i := 0) (N := 57) (v := ?_) (a' := ?_) y20_2 HT_ ?_ ?_ ?_
         rotate_left
         ·intro w'
          go_simp; with_reducible rfl
         rotate_left
         ·exact x20_put
         refine pzv (i := 1) (N := 58) (v := ?_) (a' := ?_) y20_4 HT_ ?_ ?_ ?_
         rotate_left
         ·intro w'
          go_simp; with_reducible rfl
         rotate_left
         ·exact x20_put
         refine pzv (i := 2) (N := 59) (v := ?_) (a' := ?_) y20_6 HT_ ?_ ?_ ?_
         rotate_left
         ·intro w'
          go_simp; with_reducible rfl
         rotate_left
         ·exact x20_put
         refine pzv (i := 3) (N := 60) (v := ?_) (a' := ?_) y20_8 HT_ ?_ ?_ ?_
         rotate_left
         ·intro w'
          go_simp; with_reducible rfl
         rotate_left
         ·exact x20_put
         refine pzv (i := 4) (N := 61) (v := ?_) (a' := ?_) y20_10 HT_ ?_ ?_ ?_
         rotate_left
         ·intro w'
          go_simp; with_reducible rfl
         rotate_left
         ·exact x20_put
         refine pzv (i := 5) (N := 62) (v := ?_) (a' := ?_) y20_12 HT_ ?_ ?_ ?_
         rotate_left
         ·intro w'
          go_simp; with_reducible rfl
         rotate_left
         ·exact x20_put
         refine pzv (i := 6) (N := 63) (v := ?_) (a' := ?_) y20_14 HT_ ?_ ?_ ?_
         rotate_left
         ·intro w'
          go_simp; with_reducible rfl
         rotate_left
         ·exact x20_put
         refine pzv (i := 7) (N := 64) (v := ?_) (a' := ?_) y20_16 HT_ ?_ ?_ ?_
         rotate_left
         ·intro w'
          go_simp; with_reducible rfl
         rotate_left
         ·exact x20_put
         refine pzv (i := 8) (N := 65) (v := ?_) (a' := ?_) y20_18 HT_ ?_ ?_ ?_
         rotate_left
         ·intro w'
          go_simp; with_reducible rfl
         rotate_left
         ·exact x20_put
         refine pzv (i := 9) (N := 66) (v := ?_) (a' := ?_) y20_20 HT_ ?_ ?_ ?_
         rotate_left
         ·intro w'
          go_simp; with_reducible rfl
         rotate_left
         ·exact x20_put
         refine pzv (i := 10) (N := 67) (v := ?_) (a' := ?_) y20_22 HT_ ?_ ?_ ?_
         rotate_left
         ·intro w'
          go_simp; with_reducible rfl
         rotate_left
         ·exact x20_put
         refine pzv (i := 11) (N := 68) (v := ?_) (a' := ?_) y20_23 HT_ ?_ ?_ ?_
         rotate_left
         ·intro w'
          go_simp; with_reducible rfl
         rotate_left
         ·exact x20_put
         refine pzv (i := 12) (N := 69) (v := ?_) (a' := ?_) y20_24 HT_ ?_ ?_ ?_
         rotate_left
         ·intro w'
          go_simp; with_reducible rfl
         rotate_left
         ·exact x20_put
         refine pzv (i := 13) (N := 70) (v := ?_) (a' := ?_) y20_25 HT_ ?_ ?_ ?_
         rotate_left
         ·intro w'
          go_simp; with_reducible rfl
         rotate_left
         ·exact x20_put
         refine pzv (i := 14) (N := 71) (v := ?_) (a' := ?_) y20_26 HT_ ?_ ?_ ?_
         rotate_left
         ·intro w'
          go_simp; with_reducible rfl
         rotate_left
         ·exact x20_put
         refine pzv (i := 15) (N := 72) (v := ?_) (a' := ?_) y20_27 HT_ ?_ ?_ ?_
         rotate_left
         ·intro w'
          go_simp; with_reducible rfl
         rotate_left
         ·exact x20_put
         refine pzv (i := 16) (N := 73) (v := ?_) (a' := ?_) y20_28 HT_ ?_ ?_ ?_
         rotate_left
         ·intro w'
          go_simp; with_reducible rfl
         rotate_left
         ·exact x20_put
         refine pzv (i := 17) (N := 74) (v := ?_) (a' := ?_) y20_29 HT_ ?_ ?_ ?_
         rotate_left
         ·intro w'
          go_simp; with_reducible rfl
         rotate_left
         ·exact x20_put
         refine done_ (done_of HT_.out (by kernel_rfl)) ?_
         try go_wp2
         go_roundg k4
         case measure => have := HJ5.out; have := HK2.out; have := HK3.out; have := HK4.out; omega
         case rel => exact ⟨(wrap64 (2 * x11_4)), rs0, H', ⟨z20_30⟩, ⟨pkR HO_505004⟩, ⟨pkR HO_506004⟩, ⟨pkR HO_514004⟩, ⟨pkb BK504⟩, ⟨pkb BK505⟩, ⟨pkb BK513⟩, ⟨z20_20⟩⟩

/-- THE ONE PURE STATEMENT of laws_FnMeets: yours. -/
def laws_FnMeets.Pure : Prop := ∀ (l0 : List Int), l0.length ≤ maxLen → l0.length * 1 ≤ 140737488351232 → (∀ x ∈ l0, (Lit.int .u8 x).wf = true) → ∃ k, laws_FnMeets.f k l0 = some true
theorem laws_FnMeets.walk (P : laws_FnMeets.Pure) (a0 : Option Addr) (len0 cap0 : Nat) (z0 : List Int) (w : World) (w0 : (a0 = none ∧ len0 = 0 ∧ cap0 = 0 ∧ z0 = []) ∨ ∃ x, a0 = some x ∧ len0 ≤ cap0 ∧ cap0 ≤ maxLen ∧ z0.length = cap0 ∧ (∀ i, i < z0.length → w.cell? (x.add i) = some (.int .u8 (z0.getD i 0))) ∧ ∀ n ∈ z0, (Lit.int .u8 n).wf = true) (y0 : len0 * 1 ≤ 140737488351232) :
  Calls Try.prog 5 #[.slice a0 len0 cap0] w fun e w' => e = .returned (.bool true) ∧ Below w.heap.size w w' := by
 obtain ⟨l0, rfl, hr0, hm0, hw0, hc0⟩ := ReadsInt.ofRowC w0
 obtain ⟨k, h⟩ := P l0 hm0 y0 hw0
 refine (laws_FnMeets.calls k _ _ l0 true w (Kd.C_of_reads (d := (0 : Int)) (h1 := fun _ => rfl) hr0) hc0 rfl h).mono ?_
 rintro e w' ⟨rfl, hd⟩
 exact ⟨rfl, hd⟩

end Go.Proofs.Ytghbenapnhcllaa.MFnMeets
