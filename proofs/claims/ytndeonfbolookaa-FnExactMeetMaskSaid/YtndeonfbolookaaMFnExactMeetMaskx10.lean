/- Functions of the program as Lean functions, and the proof that a call comes to just these: machine text of this session's own program (myprint.py). -/
import Derived.Test.YtndeonfbolookaaMFnExactMeetMaskx0
import Derived.Test.YtndeonfbolookaaMFnExactMeetMaskx2
import Derived.Test.YtndeonfbolookaaMFnExactMeetMaskx6
import Derived.Test.YtndeonfbolookaaMFnExactMeetMaskx8
import Derived.Test.YtndeonfbolookaaMFnExactMeetMaskx9
namespace Go.Proofs.Ytndeonfbolookaa.MFnExactMeetMask
open Go.RowKit Go.Proofs.YtndeonfbolookaaW.PrintWords Go.Proofs.YtndeonfbolookaaW.PrintLast Go.Proofs.YtndeonfbolookaaW.PrintMore
attribute [local go_sem] max2_int min2_int max_two min_two max_three min_three max_four min_four   -- for this text's walks alone
set_option linter.unusedVariables false
set_option linter.unusedSimpArgs false

theorem x10_put {P : Prop} (h : P := by simp only [Act.put, List.setIfInBounds_toArray, List.set_cons_zero, List.set_cons_succ, i64_w, i32_w]; rfl) : P := h
theorem z10_1 {P : Prop} (h : P := by (with_reducible repeat (first | refine blk_drewN ?_ _ | refine blk_drew ?_ | refine blk_alloc ?_ _)); exact BK221.out) : P := h
theorem z10_2 {P : Prop} (h : P := by (with_reducible repeat (first | refine blk_drewN ?_ _ | refine blk_drew ?_ | refine blk_alloc ?_ _)); exact BK222.out) : P := h
theorem z10_3 {P : Prop} (h : P := by repeat (first | (with_reducible first | exact HB.out | apply below_alloc | apply pw_below_drewN | apply below_drew1 | refine below_set ?_ GE221.out | refine below_set ?_ GE222.out | refine below_set ?_ GE246.out | refine below_set ?_ GE254.out | refine below_set ?_ GE262.out | refine below_set ?_ GE270.out) | exact HB.out)) : P := h
theorem z10_4 {P : Prop} (h : P := by repeat (first | (with_reducible first | exact HB.out | apply below_alloc | apply pw_below_drewN | apply below_drew1 | refine below_set ?_ GE221.out | refine below_set ?_ GE222.out | refine below_set ?_ GE246.out | refine below_set ?_ GE254.out | refine below_set ?_ GE262.out | refine below_set ?_ GE270.out | refine below_set ?_ GE317.out) | exact HB.out)) : P := h
theorem z10_5 {P : Prop} (h : P := by (with_reducible repeat (first | refine blk_drewN ?_ _ | refine blk_drew ?_ | refine blk_alloc ?_ _)); exact BK246.out) : P := h
theorem z10_6 {P : Prop} (h : P := by (try simp only [List.map_toArray, List.map_cons, List.map_nil]); first | done | rfl | (simp only [List.length_drop, List.length_take]; rfl)) : P := h
theorem z10_7 {P : Prop} (h : P := by repeat (first | (with_reducible first | exact HB.out | apply below_alloc | apply pw_below_drewN | apply below_drew1 | refine below_set ?_ GE221.out | refine below_set ?_ GE222.out | refine below_set ?_ GE246.out) | exact HB.out)) : P := h
theorem z10_8 {P : Prop} (h : P := by (with_reducible repeat (first | refine blk_drewN ?_ _ | refine blk_drew ?_ | refine blk_alloc ?_ _)); exact BK254.out) : P := h
theorem z10_9 {P : Prop} (h : P := by repeat (first | (with_reducible first | exact HB.out | apply below_alloc | apply pw_below_drewN | apply below_drew1 | refine below_set ?_ GE221.out | refine below_set ?_ GE222.out) | exact HB.out)) : P := h
theorem z10_10 {P : Prop} (h : P := by (with_reducible repeat (first | refine blk_drewN ?_ _ | refine blk_drew ?_ | refine blk_alloc ?_ _)); exact BK262.out) : P := h
theorem z10_11 {P : Prop} (h : P := by (with_reducible repeat (first | refine blk_drewN ?_ _ | refine blk_drew ?_ | refine blk_alloc ?_ _)); exact BK270.out) : P := h
theorem z10_12 {P : Prop} (h : P := by (with_reducible repeat (first | apply Kd.R_alloc | apply Kd.R_drewN | apply Kd.R_drew)); exact HO231.out) : P := h
theorem z10_13 {P : Prop} (h : P := by (with_reducible repeat (first | apply Kd.R_alloc | apply Kd.R_drewN | apply Kd.R_drew)); exact HO_247004.out) : P := h
theorem z10_14 {P : Prop} (h : P := by (with_reducible repeat (first | apply Kd.R_alloc | apply Kd.R_drewN | apply Kd.R_drew)); exact HO_255004.out) : P := h
theorem z10_15 {P : Prop} (h : P := by (with_reducible repeat (first | apply Kd.R_alloc | apply Kd.R_drewN | apply Kd.R_drew)); exact HO_263004.out) : P := h
theorem z10_16 {P : Prop} (h : P := by (with_reducible repeat (first | apply Kd.R_alloc | apply Kd.R_drewN | apply Kd.R_drew)); exact HO_271004.out) : P := h
theorem z10_17 {P : Prop} (h : P := by (with_reducible repeat (first | apply Kd.R_alloc | apply Kd.R_drewN | apply Kd.R_drew)); exact HO238.out) : P := h
theorem z10_18 {P : Prop} (h : P := by (with_reducible repeat (first | apply Kd.R_alloc | apply Kd.R_drewN | apply Kd.R_drew)); exact HO302.out) : P := h
theorem z10_19 {P : Prop} (h : P := by repeat (first | exact (Kd.C_below HR1_4.out HB.out) | (with_reducible refine Kd.C_alloc ?_ _) | (with_reducible refine Kd.C_drewN ?_ _) | (with_reducible refine Kd.C_drew ?_))) : P := h
theorem z10_20 {P : Prop} (h : P := by repeat (first | (with_reducible first | exact HB.out | apply below_alloc | apply pw_below_drewN | apply below_drew1 | refine below_set ?_ GE221.out) | exact HB.out)) : P := h
theorem z10_21 {P : Prop} (h : P := by repeat (first | (with_reducible first | exact HB.out | apply below_alloc | apply pw_below_drewN | apply below_drew1 | refine below_set ?_ GE221.out | refine below_set ?_ GE222.out | refine below_set ?_ GE246.out | refine below_set ?_ GE254.out) | exact HB.out)) : P := h
theorem z10_22 {P : Prop} (h : P := by repeat (first | exact (Kd.C_below HR0_4.out HB.out) | (with_reducible refine Kd.C_alloc ?_ _) | (with_reducible refine Kd.C_drewN ?_ _) | (with_reducible refine Kd.C_drew ?_))) : P := h
theorem z10_23 {P : Prop} (h : P := by (with_reducible repeat (first | refine blk_drewN ?_ _ | refine blk_drew ?_ | refine blk_alloc ?_ _)); exact BK317.out) : P := h
theorem z10_24 {P : Prop} (h : P := by repeat (first | (with_reducible first | exact HB.out | apply below_alloc | apply pw_below_drewN | apply below_drew1 | refine below_set ?_ GE221.out | refine below_set ?_ GE222.out | refine below_set ?_ GE246.out | refine below_set ?_ GE254.out | refine below_set ?_ GE262.out) | exact HB.out)) : P := h
theorem z10_25 {P : Prop} (h : P := by repeat (first | (with_reducible first | exact HB.out | apply below_alloc | apply pw_below_drewN | apply below_drew1) | exact HB.out)) : P := h
theorem z10_26 {P : Prop} (h : P := by (with_reducible repeat (first | apply Kd.R_alloc | apply Kd.R_drewN | apply Kd.R_drew)); exact HO245.out) : P := h
theorem z10_27 {P : Prop} (h : P := by (with_reducible repeat (first | apply Kd.R_alloc | apply Kd.R_drewN | apply Kd.R_drew)); exact HO309.out) : P := h
theorem z10_28 {P : Prop} (h : P := by (with_reducible repeat (first | apply Kd.R_alloc | apply Kd.R_drewN | apply Kd.R_drew)); exact (Kd.R_mono (Kd.R_far (p := ⟨gb262, 4, none⟩) (Kd.R_far (p := ⟨gb262, 3, none⟩) (Kd.R_far (p := ⟨gb262, 2, none⟩) (Kd.R_far (p := ⟨gb262, 1, none⟩) (Kd.R_far (p := ⟨gb262, 0, none⟩) (Kd.R_types HO253.out BK262.out (by decide)) (fun _ hk => hk.2) (.int .i64 t255)) (fun _ hk => hk.2) (.int .i64 t256)) (fun _ hk => hk.2) (.int .i64 t257)) (fun _ hk => hk.2) (.int .i64 t258)) (fun _ hk => hk.2) (.slice Ao75 t259.length co75)) (fun _ h_ => h_.1))) : P := h
theorem z10_29 {P : Prop} (h : P := by (with_reducible repeat (first | apply Kd.R_alloc | apply Kd.R_drewN | apply Kd.R_drew)); exact (Kd.R_mono (Kd.R_far (p := ⟨gb262, 4, none⟩) (Kd.R_far (p := ⟨gb262, 3, none⟩) (Kd.R_far (p := ⟨gb262, 2, none⟩) (Kd.R_far (p := ⟨gb262, 1, none⟩) (Kd.R_far (p := ⟨gb262, 0, none⟩) (Kd.R_types HO261.out BK262.out (by decide)) (fun _ hk => hk.2) (.int .i64 t255)) (fun _ hk => hk.2) (.int .i64 t256)) (fun _ hk => hk.2) (.int .i64 t257)) (fun _ hk => hk.2) (.int .i64 t258)) (fun _ hk => hk.2) (.slice Ao75 t259.length co75)) (fun _ h_ => h_.1))) : P := h
theorem z10_30 {P : Prop} (h : P := by (with_reducible repeat (first | apply Kd.R_alloc | apply Kd.R_drewN | apply Kd.R_drew)); exact HO253.out) : P := h
theorem z10_31 {P : Prop} (h : P := by (with_reducible repeat (first | apply Kd.R_alloc | apply Kd.R_drewN | apply Kd.R_drew)); exact HO261.out) : P := h
theorem z10_32 {P : Prop} (h : P := by (with_reducible repeat (first | apply Kd.R_alloc | apply Kd.R_drewN | apply Kd.R_drew)); exact HO269.out) : P := h
theorem z10_33 {P : Prop} (h : P := by simp only [putAll, Act.put, List.setIfInBounds_toArray, List.set_cons_zero, List.set_cons_succ]) : P := h
theorem z10_34 {P : Prop} (h : P := by repeat (first | (with_reducible first | exact HB.out | apply below_alloc | apply pw_below_drewN | apply below_drew1 | refine below_set ?_ GE221.out | refine below_set ?_ GE222.out | refine below_set ?_ GE246.out | refine below_set ?_ GE254.out | refine below_set ?_ GE262.out | refine below_set ?_ GE270.out) | exact HB.out)) : P := h
theorem z10_35 {P : Prop} (h : P := by (with_reducible repeat (first | apply Kd.R_alloc | apply Kd.R_drewN | apply Kd.R_drew)); exact Kd.R_mono HO_247004.out (fun _ hk => ⟨hk.1.1.2, ⟨hk.1.2, ⟨hk.2, ⟨hk.1.1.1.1, ⟨hk.1.1.1.2.1, hk.1.1.1.2.2⟩⟩⟩⟩⟩)) : P := h
theorem z10_36 {P : Prop} (h : P := by (with_reducible repeat (first | apply Kd.R_alloc | apply Kd.R_drewN | apply Kd.R_drew)); exact Kd.R_mono HO_255004.out (fun _ hk => ⟨hk.1.1.2, ⟨hk.1.2, ⟨hk.2, ⟨hk.1.1.1.1, ⟨hk.1.1.1.2.1, hk.1.1.1.2.2⟩⟩⟩⟩⟩)) : P := h
theorem z10_37 {P : Prop} (h : P := by (with_reducible repeat (first | apply Kd.R_alloc | apply Kd.R_drewN | apply Kd.R_drew)); exact Kd.R_mono HO_263004.out (fun _ hk => ⟨hk.1.1.2, ⟨hk.1.2, ⟨hk.2, ⟨hk.1.1.1.1, ⟨hk.1.1.1.2.1, hk.1.1.1.2.2⟩⟩⟩⟩⟩)) : P := h
theorem z10_38 {P : Prop} (h : P := by (with_reducible repeat (first | apply Kd.R_alloc | apply Kd.R_drewN | apply Kd.R_drew)); exact Kd.R_mono HO_271004.out (fun _ hk => ⟨hk.1.1.2, ⟨hk.1.2, ⟨hk.2, ⟨hk.1.1.1.1, ⟨hk.1.1.1.2.1, hk.1.1.1.2.2⟩⟩⟩⟩⟩)) : P := h
theorem z10_39 {P : Prop} (h : P := by (with_reducible repeat (first | apply Kd.R_alloc | apply Kd.R_drewN | apply Kd.R_drew)); exact Kd.R_mono HO302.out (fun _ hk => ⟨hk.1.2, ⟨hk.2, ⟨hk.1.1.1.1.1.2, ⟨hk.1.1.1.1.2, ⟨hk.1.1.1.2, hk.1.1.2⟩⟩⟩⟩⟩)) : P := h
theorem z10_40 {P : Prop} (h : P := by (with_reducible repeat (first | apply Kd.R_alloc | apply Kd.R_drewN | apply Kd.R_drew)); exact Kd.R_mono HO309.out (fun _ hk => ⟨hk.1.2, ⟨hk.2, ⟨hk.1.1.1.1.1.2, ⟨hk.1.1.1.1.2, ⟨hk.1.1.1.2, hk.1.1.2⟩⟩⟩⟩⟩)) : P := h
theorem z10_41 {P : Prop} (h : P := by (with_reducible repeat (first | apply Kd.R_alloc | apply Kd.R_drewN | apply Kd.R_drew)); exact Kd.R_mono HO316.out (fun _ hk => ⟨hk.1.2, ⟨hk.2, ⟨hk.1.1.1.1.1.2, ⟨hk.1.1.1.1.2, ⟨hk.1.1.1.2, hk.1.1.2⟩⟩⟩⟩⟩)) : P := h
theorem z10_42 {P : Prop} (h : P := by (with_reducible repeat (first | apply Kd.R_alloc | apply Kd.R_drewN | apply Kd.R_drew)); exact (Kd.R_mono (Kd.R_far (p := ⟨gb317, 4, none⟩) (Kd.R_far (p := ⟨gb317, 3, none⟩) (Kd.R_far (p := ⟨gb317, 2, none⟩) (Kd.R_far (p := ⟨gb317, 1, none⟩) (Kd.R_far (p := ⟨gb317, 0, none⟩) (Kd.R_types HO_247004.out BK317.out (by decide)) (fun _ hk => hk.2) (.int .i64 t310)) (fun _ hk => hk.2) (.int .i64 t311)) (fun _ hk => hk.2) (.int .i64 t312)) (fun _ hk => hk.2) (.int .i64 t313)) (fun _ hk => hk.2) (.slice Ao148 t314.length co148)) (fun _ h_ => h_.1))) : P := h
theorem z10_43 {P : Prop} (h : P := by (with_reducible repeat (first | apply Kd.R_alloc | apply Kd.R_drewN | apply Kd.R_drew)); exact (Kd.R_mono (Kd.R_far (p := ⟨gb317, 4, none⟩) (Kd.R_far (p := ⟨gb317, 3, none⟩) (Kd.R_far (p := ⟨gb317, 2, none⟩) (Kd.R_far (p := ⟨gb317, 1, none⟩) (Kd.R_far (p := ⟨gb317, 0, none⟩) (Kd.R_types HO316.out BK317.out (by decide)) (fun _ hk => hk.2) (.int .i64 t310)) (fun _ hk => hk.2) (.int .i64 t311)) (fun _ hk => hk.2) (.int .i64 t312)) (fun _ hk => hk.2) (.int .i64 t313)) (fun _ hk => hk.2) (.slice Ao148 t314.length co148)) (fun _ h_ => h_.1))) : P := h
theorem z10_44 {P : Prop} (h : P := by (with_reducible repeat (first | apply Kd.R_alloc | apply Kd.R_drewN | apply Kd.R_drew)); exact (Kd.R_mono (Kd.R_far (p := ⟨gb246, 4, none⟩) (Kd.R_far (p := ⟨gb246, 3, none⟩) (Kd.R_far (p := ⟨gb246, 2, none⟩) (Kd.R_far (p := ⟨gb246, 1, none⟩) (Kd.R_far (p := ⟨gb246, 0, none⟩) (Kd.R_types HO231.out BK246.out (by decide)) (fun _ hk => hk.2) (.int .i64 t239)) (fun _ hk => hk.2) (.int .i64 t240)) (fun _ hk => hk.2) (.int .i64 t241)) (fun _ hk => hk.2) (.int .i64 t242)) (fun _ hk => hk.2) (.slice Ao55 t243.length co55)) (fun _ h_ => h_.1))) : P := h
theorem z10_45 {P : Prop} (h : P := by (with_reducible repeat (first | apply Kd.R_alloc | apply Kd.R_drewN | apply Kd.R_drew)); exact (Kd.R_mono (Kd.R_far (p := ⟨gb246, 4, none⟩) (Kd.R_far (p := ⟨gb246, 3, none⟩) (Kd.R_far (p := ⟨gb246, 2, none⟩) (Kd.R_far (p := ⟨gb246, 1, none⟩) (Kd.R_far (p := ⟨gb246, 0, none⟩) (Kd.R_types HO238.out BK246.out (by decide)) (fun _ hk => hk.2) (.int .i64 t239)) (fun _ hk => hk.2) (.int .i64 t240)) (fun _ hk => hk.2) (.int .i64 t241)) (fun _ hk => hk.2) (.int .i64 t242)) (fun _ hk => hk.2) (.slice Ao55 t243.length co55)) (fun _ h_ => h_.1))) : P := h
theorem z10_46 {P : Prop} (h : P := by (with_reducible repeat (first | apply Kd.R_alloc | apply Kd.R_drewN | apply Kd.R_drew)); exact (Kd.R_mono (Kd.R_far (p := ⟨gb246, 4, none⟩) (Kd.R_far (p := ⟨gb246, 3, none⟩) (Kd.R_far (p := ⟨gb246, 2, none⟩) (Kd.R_far (p := ⟨gb246, 1, none⟩) (Kd.R_far (p := ⟨gb246, 0, none⟩) (Kd.R_types HO245.out BK246.out (by decide)) (fun _ hk => hk.2) (.int .i64 t239)) (fun _ hk => hk.2) (.int .i64 t240)) (fun _ hk => hk.2) (.int .i64 t241)) (fun _ hk => hk.2) (.int .i64 t242)) (fun _ hk => hk.2) (.slice Ao55 t243.length co55)) (fun _ h_ => h_.1))) : P := h
theorem z10_47 {P : Prop} (h : P := by (with_reducible repeat (first | apply Kd.R_alloc | apply Kd.R_drewN | apply Kd.R_drew)); exact (Kd.R_mono (Kd.R_far (p := ⟨gb254, 4, none⟩) (Kd.R_far (p := ⟨gb254, 3, none⟩) (Kd.R_far (p := ⟨gb254, 2, none⟩) (Kd.R_far (p := ⟨gb254, 1, none⟩) (Kd.R_far (p := ⟨gb254, 0, none⟩) (Kd.R_types HO231.out BK254.out (by decide)) (fun _ hk => hk.2) (.int .i64 t247)) (fun _ hk => hk.2) (.int .i64 t248)) (fun _ hk => hk.2) (.int .i64 t249)) (fun _ hk => hk.2) (.int .i64 t250)) (fun _ hk => hk.2) (.slice Ao65 t251.length co65)) (fun _ h_ => h_.1))) : P := h
theorem z10_48 {P : Prop} (h : P := by (with_reducible repeat (first | apply Kd.R_alloc | apply Kd.R_drewN | apply Kd.R_drew)); exact (Kd.R_mono (Kd.R_far (p := ⟨gb254, 4, none⟩) (Kd.R_far (p := ⟨gb254, 3, none⟩) (Kd.R_far (p := ⟨gb254, 2, none⟩) (Kd.R_far (p := ⟨gb254, 1, none⟩) (Kd.R_far (p := ⟨gb254, 0, none⟩) (Kd.R_types HO238.out BK254.out (by decide)) (fun _ hk => hk.2) (.int .i64 t247)) (fun _ hk => hk.2) (.int .i64 t248)) (fun _ hk => hk.2) (.int .i64 t249)) (fun _ hk => hk.2) (.int .i64 t250)) (fun _ hk => hk.2) (.slice Ao65 t251.length co65)) (fun _ h_ => h_.1))) : P := h
theorem z10_49 {P : Prop} (h : P := by (with_reducible repeat (first | apply Kd.R_alloc | apply Kd.R_drewN | apply Kd.R_drew)); exact (Kd.R_mono (Kd.R_far (p := ⟨gb254, 4, none⟩) (Kd.R_far (p := ⟨gb254, 3, none⟩) (Kd.R_far (p := ⟨gb254, 2, none⟩) (Kd.R_far (p := ⟨gb254, 1, none⟩) (Kd.R_far (p := ⟨gb254, 0, none⟩) (Kd.R_types HO245.out BK254.out (by decide)) (fun _ hk => hk.2) (.int .i64 t247)) (fun _ hk => hk.2) (.int .i64 t248)) (fun _ hk => hk.2) (.int .i64 t249)) (fun _ hk => hk.2) (.int .i64 t250)) (fun _ hk => hk.2) (.slice Ao65 t251.length co65)) (fun _ h_ => h_.1))) : P := h
theorem z10_50 {P : Prop} (h : P := by (with_reducible repeat (first | apply Kd.R_alloc | apply Kd.R_drewN | apply Kd.R_drew)); exact (Kd.R_mono (Kd.R_far (p := ⟨gb254, 4, none⟩) (Kd.R_far (p := ⟨gb254, 3, none⟩) (Kd.R_far (p := ⟨gb254, 2, none⟩) (Kd.R_far (p := ⟨gb254, 1, none⟩) (Kd.R_far (p := ⟨gb254, 0, none⟩) (Kd.R_types HO253.out BK254.out (by decide)) (fun _ hk => hk.2) (.int .i64 t247)) (fun _ hk => hk.2) (.int .i64 t248)) (fun _ hk => hk.2) (.int .i64 t249)) (fun _ hk => hk.2) (.int .i64 t250)) (fun _ hk => hk.2) (.slice Ao65 t251.length co65)) (fun _ h_ => h_.1))) : P := h
theorem z10_51 {P : Prop} (h : P := by (with_reducible repeat (first | apply Kd.R_alloc | apply Kd.R_drewN | apply Kd.R_drew)); exact (Kd.R_mono (Kd.R_far (p := ⟨gb262, 4, none⟩) (Kd.R_far (p := ⟨gb262, 3, none⟩) (Kd.R_far (p := ⟨gb262, 2, none⟩) (Kd.R_far (p := ⟨gb262, 1, none⟩) (Kd.R_far (p := ⟨gb262, 0, none⟩) (Kd.R_types HO231.out BK262.out (by decide)) (fun _ hk => hk.2) (.int .i64 t255)) (fun _ hk => hk.2) (.int .i64 t256)) (fun _ hk => hk.2) (.int .i64 t257)) (fun _ hk => hk.2) (.int .i64 t258)) (fun _ hk => hk.2) (.slice Ao75 t259.length co75)) (fun _ h_ => h_.1))) : P := h
theorem z10_52 {P : Prop} (h : P := by (with_reducible repeat (first | apply Kd.R_alloc | apply Kd.R_drewN | apply Kd.R_drew)); exact (Kd.R_mono (Kd.R_far (p := ⟨gb262, 4, none⟩) (Kd.R_far (p := ⟨gb262, 3, none⟩) (Kd.R_far (p := ⟨gb262, 2, none⟩) (Kd.R_far (p := ⟨gb262, 1, none⟩) (Kd.R_far (p := ⟨gb262, 0, none⟩) (Kd.R_types HO238.out BK262.out (by decide)) (fun _ hk => hk.2) (.int .i64 t255)) (fun _ hk => hk.2) (.int .i64 t256)) (fun _ hk => hk.2) (.int .i64 t257)) (fun _ hk => hk.2) (.int .i64 t258)) (fun _ hk => hk.2) (.slice Ao75 t259.length co75)) (fun _ h_ => h_.1))) : P := h
theorem z10_53 {P : Prop} (h : P := by (with_reducible repeat (first | apply Kd.R_alloc | apply Kd.R_drewN | apply Kd.R_drew)); exact (Kd.R_mono (Kd.R_far (p := ⟨gb262, 4, none⟩) (Kd.R_far (p := ⟨gb262, 3, none⟩) (Kd.R_far (p := ⟨gb262, 2, none⟩) (Kd.R_far (p := ⟨gb262, 1, none⟩) (Kd.R_far (p := ⟨gb262, 0, none⟩) (Kd.R_types HO245.out BK262.out (by decide)) (fun _ hk => hk.2) (.int .i64 t255)) (fun _ hk => hk.2) (.int .i64 t256)) (fun _ hk => hk.2) (.int .i64 t257)) (fun _ hk => hk.2) (.int .i64 t258)) (fun _ hk => hk.2) (.slice Ao75 t259.length co75)) (fun _ h_ => h_.1))) : P := h
theorem z10_54 {P : Prop} (h : P := by (with_reducible repeat (first | apply Kd.R_alloc | apply Kd.R_drewN | apply Kd.R_drew)); exact (Kd.R_mono (Kd.R_far (p := ⟨gb270, 4, none⟩) (Kd.R_far (p := ⟨gb270, 3, none⟩) (Kd.R_far (p := ⟨gb270, 2, none⟩) (Kd.R_far (p := ⟨gb270, 1, none⟩) (Kd.R_far (p := ⟨gb270, 0, none⟩) (Kd.R_types HO269.out BK270.out (by decide)) (fun _ hk => hk.2) (.int .i64 t263)) (fun _ hk => hk.2) (.int .i64 t264)) (fun _ hk => hk.2) (.int .i64 t265)) (fun _ hk => hk.2) (.int .i64 t266)) (fun _ hk => hk.2) (.slice Ao85 t267.length co85)) (fun _ h_ => h_.1))) : P := h
theorem z10_55 {P : Prop} (h : P := by (with_reducible repeat (first | apply Kd.R_alloc | apply Kd.R_drewN | apply Kd.R_drew)); exact (Kd.R_mono (Kd.R_far (p := ⟨gb270, 4, none⟩) (Kd.R_far (p := ⟨gb270, 3, none⟩) (Kd.R_far (p := ⟨gb270, 2, none⟩) (Kd.R_far (p := ⟨gb270, 1, none⟩) (Kd.R_far (p := ⟨gb270, 0, none⟩) (Kd.R_types HO245.out BK270.out (by decide)) (fun _ hk => hk.2) (.int .i64 t263)) (fun _ hk => hk.2) (.int .i64 t264)) (fun _ hk => hk.2) (.int .i64 t265)) (fun _ hk => hk.2) (.int .i64 t266)) (fun _ hk => hk.2) (.slice Ao85 t267.length co85)) (fun _ h_ => h_.1))) : P := h
theorem z10_56 {P : Prop} (h : P := by repeat (first | exact (Kd.R_reads' HO231.out).2.2 | (with_reducible refine Kd.C_alloc ?_ _) | (with_reducible refine Kd.C_drewN ?_ _) | (with_reducible refine Kd.C_drew ?_))) : P := h
theorem z10_57 {P : Prop} (h : P := by repeat (first | exact (Kd.R_reads' HO238.out).2.2 | (with_reducible refine Kd.C_alloc ?_ _) | (with_reducible refine Kd.C_drewN ?_ _) | (with_reducible refine Kd.C_drew ?_))) : P := h
theorem z10_58 {P : Prop} (h : P := by repeat (first | exact (Kd.R_reads' HO302.out).2.2 | (with_reducible refine Kd.C_alloc ?_ _) | (with_reducible refine Kd.C_drewN ?_ _) | (with_reducible refine Kd.C_drew ?_))) : P := h
theorem z10_59 {P : Prop} (h : P := by repeat (first | exact (Kd.R_reads' HO309.out).2.2 | (with_reducible refine Kd.C_alloc ?_ _) | (with_reducible refine Kd.C_drewN ?_ _) | (with_reducible refine Kd.C_drew ?_))) : P := h
theorem z10_60 {P : Prop} (h : P := by (with_reducible repeat (first | apply Kd.R_alloc | apply Kd.R_drewN | apply Kd.R_drew)); exact Kd.R_mono HO231.out (fun _ hk => ⟨hk.1.2, hk.2⟩)) : P := h
theorem z10_61 {P : Prop} (h : P := by (with_reducible repeat (first | apply Kd.R_alloc | apply Kd.R_drewN | apply Kd.R_drew)); exact Kd.R_mono HO238.out (fun _ hk => ⟨hk.1.2, hk.2⟩)) : P := h
theorem z10_62 {P : Prop} (h : P := by (with_reducible repeat (first | apply Kd.R_alloc | apply Kd.R_drewN | apply Kd.R_drew)); exact Kd.R_mono HO245.out (fun _ hk => ⟨hk.1.2, hk.2⟩)) : P := h
theorem z10_63 {P : Prop} (h : P := by (with_reducible repeat (first | apply Kd.R_alloc | apply Kd.R_drewN | apply Kd.R_drew)); exact HO278.out) : P := h
theorem z10_64 {P : Prop} (h : P := by (try simp only [List.map_toArray, List.map_cons, List.map_nil]); first | done | (rw [show t294.length = t267.length from (Kd.R_reads' HO_271004.out).1.symm] <;> rfl) | rfl | (simp only [List.length_drop, List.length_take]; rfl)) : P := h
theorem z10_65 {P : Prop} (h : P := by first | rfl | (simp [errW_none, errW_some] <;> rfl) | (simp [*, errW_none, errW_some] <;> rfl)) : P := h
theorem z10_66 {P : Prop} (h : P := by repeat (first | exact (Kd.R_reads' HO_271004.out).2.2 | (with_reducible refine Kd.C_alloc ?_ _) | (with_reducible refine Kd.C_drewN ?_ _) | (with_reducible refine Kd.C_drew ?_))) : P := h
/-! ### laws_FnExactMeetMask: function 12 -/
def laws_FnExactMeetMask.j0 : Nat → Bool → Int → Int → Int → Int → List Int → Int → Int → Int → Int → List Int → Int → Int → Int → Int → List Int → Int → Int → Int → Int → List Int → Option (Bool)
 | 0, _, _, _, _, _, _, _, _, _, _, _, _, _, _, _, _, _, _, _, _, _ => none
 | k + 1, x63, x222000, x222001, x222002, x222003, x222004, x223000, x223001, x223002, x223003, x223004, x247000, x247001, x247002, x247003, x247004, x271000, x271001, x271002, x271003, x271004 => if x63 = true then (some false) else ((laws_markMask.f k x271000 x271001 x271002 x271003 x271004 1).bind fun bt293 => ((laws_heldMask.f k x271000 x271001 x271002 x271003 bt293.2 1).bind fun t295 => (if t295 < 0 then (some false) else (if t295 = bt293.1 then ((laws_toMask.f k x222000 x222001 x222002 x222003 x222004).bind fun bt296 => ((laws_toMask.f k x223000 x223001 x223002 x223003 x223004).bind fun bt303 => ((impl_MeetMask.f k bt296.1 bt296.2.1 bt296.2.2.1 bt296.2.2.2.1 bt296.2.2.2.2 bt303.1 bt303.2.1 bt303.2.2.1 bt303.2.2.2.1 bt303.2.2.2.2).bind fun bt310 => ((laws_eqMask.f k bt310.1 bt310.2.1 bt310.2.2.1 bt310.2.2.2.1 bt310.2.2.2.2 x247000 x247001 x247002 x247003 x247004).bind fun t318 => (if t318 = true then ((laws_heldMask.f k x271000 x271001 x271002 x271003 bt293.2 1).bind fun t319 => (if t319 < 0 then (some false) else (if t319 = bt293.1 then (some true) else (some false)))) else (some false)))))) else (some false)))))
def laws_FnExactMeetMask.f (k : Nat) (a0_0 : Int) (a0_1 : Int) (a0_2 : Int) (a0_3 : Int) (l0_4 : List Int) (a1_0 : Int) (a1_1 : Int) (a1_2 : Int) (a1_3 : Int) (l1_4 : List Int) : Option (Bool) := (laws_szMask.f a0_0 a0_1 a0_2 a0_3 l0_4 1048576).bind fun t223 => (if t223 < 0 then (some true) else ((laws_szMask.f a1_0 a1_1 a1_2 a1_3 l1_4 t223).bind fun t224 => (if t224 < 0 then (some true) else ((laws_toMask.f k a0_0 a0_1 a0_2 a0_3 l0_4).bind fun bt225 => ((laws_toMask.f k a1_0 a1_1 a1_2 a1_3 l1_4).bind fun bt232 => ((spec_MeetMask.f k bt225.1 bt225.2.1 bt225.2.2.1 bt225.2.2.2.1 bt225.2.2.2.2 bt232.1 bt232.2.1 bt232.2.2.1 bt232.2.2.2.1 bt232.2.2.2.2).bind fun bt239 => ((laws_toMask.f k a0_0 a0_1 a0_2 a0_3 l0_4).bind fun bt247 => ((laws_toMask.f k a1_0 a1_1 a1_2 a1_3 l1_4).bind fun bt255 => ((impl_MeetMask.f k bt247.1 bt247.2.1 bt247.2.2.1 bt247.2.2.2.1 bt247.2.2.2.2 bt255.1 bt255.2.1 bt255.2.2.1 bt255.2.2.2.1 bt255.2.2.2.2).bind fun bt263 => ((laws_eqMask.f k bt263.1 bt263.2.1 bt263.2.2.1 bt263.2.2.2.1 bt263.2.2.2.2 bt239.1 bt239.2.1 bt239.2.2.1 bt239.2.2.2.1 bt239.2.2.2.2).bind fun t271 => (if t271 = true then ((laws_toMask.f k a0_0 a0_1 a0_2 a0_3 l0_4).bind fun bt272 => ((laws_eqMask.f k bt247.1 bt247.2.1 bt247.2.2.1 bt247.2.2.2.1 bt247.2.2.2.2 bt272.1 bt272.2.1 bt272.2.2.1 bt272.2.2.2.1 bt272.2.2.2.2).bind fun t279 => (if t279 = true then ((laws_toMask.f k a1_0 a1_1 a1_2 a1_3 l1_4).bind fun bt280 => ((laws_eqMask.f k bt255.1 bt255.2.1 bt255.2.2.1 bt255.2.2.2.1 bt255.2.2.2.2 bt280.1 bt280.2.1 bt280.2.2.1 bt280.2.2.2.1 bt280.2.2.2.2).bind fun t287 => (if t287 = true then ((laws_markMask.f k bt247.1 bt247.2.1 bt247.2.2.1 bt247.2.2.2.1 bt247.2.2.2.2 1).bind fun bt288 => ((laws_markMask.f k bt255.1 bt255.2.1 bt255.2.2.1 bt255.2.2.2.1 bt255.2.2.2.2 bt288.1).bind fun bt290 => (if bt290.1 < 0 then (laws_FnExactMeetMask.j0 k true a0_0 a0_1 a0_2 a0_3 l0_4 a1_0 a1_1 a1_2 a1_3 l1_4 bt239.1 bt239.2.1 bt239.2.2.1 bt239.2.2.2.1 bt239.2.2.2.2 bt263.1 bt263.2.1 bt263.2.2.1 bt263.2.2.2.1 bt263.2.2.2.2) else ((laws_eqMask.f k bt263.1 bt263.2.1 bt263.2.2.1 bt263.2.2.2.1 bt263.2.2.2.2 bt239.1 bt239.2.1 bt239.2.2.1 bt239.2.2.2.1 bt239.2.2.2.2).bind fun t292 => (laws_FnExactMeetMask.j0 k (!t292) a0_0 a0_1 a0_2 a0_3 l0_4 a1_0 a1_1 a1_2 a1_3 l1_4 bt239.1 bt239.2.1 bt239.2.2.1 bt239.2.2.2.1 bt239.2.2.2.2 bt263.1 bt263.2.1 bt263.2.2.1 bt263.2.2.2.1 bt263.2.2.2.2))))) else (some false)))) else (some false)))) else (some false))))))))))))
theorem laws_FnExactMeetMask.mono_l : ∀ k, (∀ y0 y1 y2 y3 y4 y5 y6 y7 y8 y9 y10 y11 y12 y13 y14 y15 y16 y17 y18 y19 y20, LeO (laws_FnExactMeetMask.j0 k y0 y1 y2 y3 y4 y5 y6 y7 y8 y9 y10 y11 y12 y13 y14 y15 y16 y17 y18 y19 y20) (laws_FnExactMeetMask.j0 (k + 1) y0 y1 y2 y3 y4 y5 y6 y7 y8 y9 y10 y11 y12 y13 y14 y15 y16 y17 y18 y19 y20))
 | 0 => fun _ _ _ _ _ _ _ _ _ _ _ _ _ _ _ _ _ _ _ _ _ r h => by simp [laws_FnExactMeetMask.j0] at h
 | k + 1 => by
  have ih0 := laws_FnExactMeetMask.mono_l k
  ·intro y0 y1 y2 y3 y4 y5 y6 y7 y8 y9 y10 y11 y12 y13 y14 y15 y16 y17 y18 y19 y20
   unfold laws_FnExactMeetMask.j0
   repeat' first
   | (with_reducible exact ih0 _ _ _ _ _ _ _ _ _ _ _ _ _ _ _ _ _ _ _ _ _)
   | (with_reducible exact impl_MeetMask.mono _ _ _ _ _ _ _ _ _ _ _)
   | (with_reducible exact laws_eqMask.mono _ _ _ _ _ _ _ _ _ _ _)
   | (with_reducible exact laws_heldMask.mono _ _ _ _ _ _ _)
   | (with_reducible exact laws_markMask.mono _ _ _ _ _ _ _)
   | (with_reducible exact laws_toMask.mono _ _ _ _ _ _)
   | (with_reducible exact spec_MeetMask.mono _ _ _ _ _ _ _ _ _ _ _)
   | (with_reducible exact LeO.refl _)
   | (with_reducible exact LeO.none _)
   | (with_reducible refine LeO.ite ?_ ?_)
   | (with_reducible refine LeO.bind ?_ (fun _ => ?_))
   | exact ih0 _ _ _ _ _ _ _ _ _ _ _ _ _ _ _ _ _ _ _ _ _
   | exact impl_MeetMask.mono _ _ _ _ _ _ _ _ _ _ _
   | exact laws_eqMask.mono _ _ _ _ _ _ _ _ _ _ _
   | exact laws_heldMask.mono _ _ _ _ _ _ _
   | exact laws_markMask.mono _ _ _ _ _ _ _
   | exact laws_toMask.mono _ _ _ _ _ _
   | exact spec_MeetMask.mono _ _ _ _ _ _ _ _ _ _ _
   | exact LeO.none _
   | refine LeO.ite ?_ ?_
   | refine LeO.bind ?_ (fun _ => ?_)
theorem laws_FnExactMeetMask.mono : ∀ a0 a1 a2 a3 a4 a5 a6 a7 a8 a9 k, LeO (laws_FnExactMeetMask.f k a0 a1 a2 a3 a4 a5 a6 a7 a8 a9) (laws_FnExactMeetMask.f (k + 1) a0 a1 a2 a3 a4 a5 a6 a7 a8 a9) := by
 intro a0 a1 a2 a3 a4 a5 a6 a7 a8 a9 k
 have ih0 := laws_FnExactMeetMask.mono_l k
 unfold laws_FnExactMeetMask.f
 repeat' first
   | (with_reducible exact ih0 _ _ _ _ _ _ _ _ _ _ _ _ _ _ _ _ _ _ _ _ _)
   | (with_reducible exact impl_MeetMask.mono _ _ _ _ _ _ _ _ _ _ _)
   | (with_reducible exact laws_eqMask.mono _ _ _ _ _ _ _ _ _ _ _)
   | (with_reducible exact laws_heldMask.mono _ _ _ _ _ _ _)
   | (with_reducible exact laws_markMask.mono _ _ _ _ _ _ _)
   | (with_reducible exact laws_toMask.mono _ _ _ _ _ _)
   | (with_reducible exact spec_MeetMask.mono _ _ _ _ _ _ _ _ _ _ _)
   | (with_reducible exact LeO.refl _)
   | (with_reducible exact LeO.none _)
   | (with_reducible refine LeO.ite ?_ ?_)
   | (with_reducible refine LeO.bind ?_ (fun _ => ?_))
   | exact ih0 _ _ _ _ _ _ _ _ _ _ _ _ _ _ _ _ _ _ _ _ _
   | exact impl_MeetMask.mono _ _ _ _ _ _ _ _ _ _ _
   | exact laws_eqMask.mono _ _ _ _ _ _ _ _ _ _ _
   | exact laws_heldMask.mono _ _ _ _ _ _ _
   | exact laws_markMask.mono _ _ _ _ _ _ _
   | exact laws_toMask.mono _ _ _ _ _ _
   | exact spec_MeetMask.mono _ _ _ _ _ _ _ _ _ _ _
   | exact LeO.none _
   | refine LeO.ite ?_ ?_
   | refine LeO.bind ?_ (fun _ => ?_)
set_option maxHeartbeats 8000000 in
set_option maxRecDepth 100000 in
theorem laws_FnExactMeetMask.calls (k : Nat) (a0_0 : Int) (a0_1 : Int) (a0_2 : Int) (a0_3 : Int) (A0_4 : Option Addr) (c0_4 : Nat) (l0_4 : List Int) (a1_0 : Int) (a1_1 : Int) (a1_2 : Int) (a1_3 : Int) (A1_4 : Option Addr) (c1_4 : Nat) (l1_4 : List Int) (r : Bool) (w : World) (hr0_4 : Kd.C (Kd.int .i64) w A0_4 l0_4.length l0_4) (hc0_4 : l0_4.length ≤ c0_4) (hr1_4 : Kd.C (Kd.int .i64) w A1_4 l1_4.length l1_4) (hc1_4 : l1_4.length ≤ c1_4) (hT : r = true) (h : laws_FnExactMeetMask.f k a0_0 a0_1 a0_2 a0_3 l0_4 a1_0 a1_1 a1_2 a1_3 l1_4 = some r) :
  Calls Try.prog 12 #[.agg #[.int .i64 a0_0, .int .i64 a0_1, .int .i64 a0_2, .int .i64 a0_3, .slice A0_4 l0_4.length c0_4], .agg #[.int .i64 a1_0, .int .i64 a1_1, .int .i64 a1_2, .int .i64 a1_3, .slice A1_4 l1_4.length c1_4]] w fun e w' => e = .returned (.bool r) ∧ Below w.heap.size w w' := by
 have hu59 := Try.underlying59
 have hu64 := Try.underlying64
 have HR0_4 := Aside0.mk hr0_4
 have HC0_4 := Aside0.mk hc0_4
 clear hr0_4 hc0_4
 have HR1_4 := Aside0.mk hr1_4
 have HC1_4 := Aside0.mk hc1_4
 clear hr1_4 hc1_4
 have HB := Aside0.mk (Below.refl w.heap.size w)
 have H : ((laws_szMask.f a0_0 a0_1 a0_2 a0_3 l0_4 1048576).bind fun t223 => (if t223 < 0 then (some true) else ((laws_szMask.f a1_0 a1_1 a1_2 a1_3 l1_4 t223).bind fun t224 => (if t224 < 0 then (some true) else ((laws_toMask.f k a0_0 a0_1 a0_2 a0_3 l0_4).bind fun bt225 => ((laws_toMask.f k a1_0 a1_1 a1_2 a1_3 l1_4).bind fun bt232 => ((spec_MeetMask.f k bt225.1 bt225.2.1 bt225.2.2.1 bt225.2.2.2.1 bt225.2.2.2.2 bt232.1 bt232.2.1 bt232.2.2.1 bt232.2.2.2.1 bt232.2.2.2.2).bind fun bt239 => ((laws_toMask.f k a0_0 a0_1 a0_2 a0_3 l0_4).bind fun bt247 => ((laws_toMask.f k a1_0 a1_1 a1_2 a1_3 l1_4).bind fun bt255 => ((impl_MeetMask.f k bt247.1 bt247.2.1 bt247.2.2.1 bt247.2.2.2.1 bt247.2.2.2.2 bt255.1 bt255.2.1 bt255.2.2.1 bt255.2.2.2.1 bt255.2.2.2.2).bind fun bt263 => ((laws_eqMask.f k bt263.1 bt263.2.1 bt263.2.2.1 bt263.2.2.2.1 bt263.2.2.2.2 bt239.1 bt239.2.1 bt239.2.2.1 bt239.2.2.2.1 bt239.2.2.2.2).bind fun t271 => (if t271 = true then ((laws_toMask.f k a0_0 a0_1 a0_2 a0_3 l0_4).bind fun bt272 => ((laws_eqMask.f k bt247.1 bt247.2.1 bt247.2.2.1 bt247.2.2.2.1 bt247.2.2.2.2 bt272.1 bt272.2.1 bt272.2.2.1 bt272.2.2.2.1 bt272.2.2.2.2).bind fun t279 => (if t279 = true then ((laws_toMask.f k a1_0 a1_1 a1_2 a1_3 l1_4).bind fun bt280 => ((laws_eqMask.f k bt255.1 bt255.2.1 bt255.2.2.1 bt255.2.2.2.1 bt255.2.2.2.2 bt280.1 bt280.2.1 bt280.2.2.1 bt280.2.2.2.1 bt280.2.2.2.2).bind fun t287 => (if t287 = true then ((laws_markMask.f k bt247.1 bt247.2.1 bt247.2.2.1 bt247.2.2.2.1 bt247.2.2.2.2 1).bind fun bt288 => ((laws_markMask.f k bt255.1 bt255.2.1 bt255.2.2.1 bt255.2.2.2.1 bt255.2.2.2.2 bt288.1).bind fun bt290 => (if bt290.1 < 0 then (laws_FnExactMeetMask.j0 k true a0_0 a0_1 a0_2 a0_3 l0_4 a1_0 a1_1 a1_2 a1_3 l1_4 bt239.1 bt239.2.1 bt239.2.2.1 bt239.2.2.2.1 bt239.2.2.2.2 bt263.1 bt263.2.1 bt263.2.2.1 bt263.2.2.2.1 bt263.2.2.2.2) else ((laws_eqMask.f k bt263.1 bt263.2.1 bt263.2.2.1 bt263.2.2.2.1 bt263.2.2.2.2 bt239.1 bt239.2.1 bt239.2.2.1 bt239.2.2.2.1 bt239.2.2.2.2).bind fun t292 => (laws_FnExactMeetMask.j0 k (!t292) a0_0 a0_1 a0_2 a0_3 l0_4 a1_0 a1_1 a1_2 a1_3 l1_4 bt239.1 bt239.2.1 bt239.2.2.1 bt239.2.2.2.1 bt239.2.2.2.2 bt263.1 bt263.2.1 bt263.2.2.1 bt263.2.2.2.1 bt263.2.2.2.2))))) else (some false)))) else (some false)))) else (some false))))))))))))) = some r := h
 clear h
 replace H := Option.bind_eq_some_iff.mp H
 obtain ⟨t223, A30, H⟩ := H
 try dsimp only at H
 have A3 := Aside0.mk A30
 clear A30
 by_cases c4 : t223 < 0
 ·rw [if_pos c4] at H
  have c4b0 : decide (t223 < 0) = true := decide_eq_true c4
  clear c4
  obtain rfl := Option.some.inj H
  simp only [Option.some.injEq, Prod.mk.injEq] at H
  obtain ⟨rfl⟩ := H
  go_enter Try.func12, Try.ntmps12
  go_wp2_with (first | ((with_reducible refine gate_dst (N := 2) rfl ?_); refine boxz (cs := #[.int .i64 a0_0, .int .i64 a0_1, .int .i64 a0_2, .int .i64 a0_3, .slice A0_4 l0_4.length c0_4]) (t := 59) rfl ?_; intro gb221 hg w5 hbox hb; have n0_ := Aside0.mk (below_step z10_25 hb); have n1_ := Aside0.mk (hbox); have n2_ := Aside0.mk ((by rw [hg]; exact (below_size z10_25) : w.heap.size ≤ gb221)); have n3_ := Aside0.mk ((by rw [hg]; exact (below_size z10_25) : w.heap.size ≤ gb221)); clear HB; have HB := n0_; have BK221 := n1_; have GW221 := n2_; have GE221 := n3_; clear n0_ n1_ n2_ n3_; clear hb hbox hg) | ((with_reducible refine gate_dst (N := 3) rfl ?_); refine boxz (cs := #[.int .i64 a1_0, .int .i64 a1_1, .int .i64 a1_2, .int .i64 a1_3, .slice A1_4 l1_4.length c1_4]) (t := 59) rfl ?_; intro gb222 hg w6 hbox hb; have n0_ := Aside0.mk (blk_belowB BK221 z10_1 hb); have n1_ := Aside0.mk (below_step z10_20 hb); have n2_ := Aside0.mk (hbox); have n3_ := Aside0.mk ((by rw [hg]; exact (below_size z10_20) : w.heap.size ≤ gb222)); have n4_ := Aside0.mk ((by rw [hg]; exact (below_size z10_20) : w.heap.size ≤ gb222)); have n5_ := Aside0.mk ((by rw [hg]; exact Nat.ne_of_lt (blk_ltB BK221 z10_1) : gb221 ≠ gb222)); have n6_ := Aside0.mk ((by rw [hg]; exact Nat.ne_of_gt (blk_ltB BK221 z10_1) : gb222 ≠ gb221)); clear BK221; clear HB; have BK221 := n0_; have HB := n1_; have BK222 := n2_; have GW222 := n3_; have GE222 := n4_; have NB221_222 := n5_; have NB222_221 := n6_; clear n0_ n1_ n2_ n3_ n4_ n5_ n6_; clear hb hbox hg; have hnb7 := NB221_222.out; have hnc7 := NB222_221.out; obtain ⟨_, _, _, _, _, _, _, _, _, _⟩ := be_5 BK221.out) | ((with_reducible refine gate_callee (f := 30) rfl ?_); refine goesL_ (some 16) rfl rfl Try.func30 (by kernel_rfl) rfl #[.agg #[.int .i64 a0_0, .int .i64 a0_1, .int .i64 a0_2, .int .i64 a0_3, .slice A0_4 l0_4.length c0_4], .int .i64 1048576] rfl z10_6 ?_; (with_reducible refine (laws_szMask.calls a0_0 a0_1 a0_2 a0_3 _ _ l0_4 1048576 t223 _ ?side1 ?side2 A3.out).mono ?_); (case side1 => exact z10_22); (case side2 => exact HC0_4.out); rintro e w9 ⟨rfl, hb⟩; refine ⟨_, rfl, ?_⟩; have n0_ := Aside0.mk (blk_belowB BK221 z10_1 hb); have n1_ := Aside0.mk (blk_belowB BK222 z10_2 hb); have n2_ := Aside0.mk (below_step z10_9 hb); clear BK221; clear BK222; clear HB; have BK221 := n0_; have BK222 := n1_; have HB := n2_; clear n0_ n1_ n2_; (try clear hb)))
  go_ret
  exact ⟨z10_65, z10_9⟩
 ·rw [if_neg c4] at H
  have c4b0 : decide (t223 < 0) = false := decide_eq_false c4
  clear c4
  replace H := Option.bind_eq_some_iff.mp H
  obtain ⟨t224, A100, H⟩ := H
  try dsimp only at H
  have A10 := Aside0.mk A100
  clear A100
  by_cases c11 : t224 < 0
  ·rw [if_pos c11] at H
   have c11b0 : decide (t224 < 0) = true := decide_eq_true c11
   clear c11
   obtain rfl := Option.some.inj H
   simp only [Option.some.injEq, Prod.mk.injEq] at H
   obtain ⟨rfl⟩ := H
   go_enter Try.func12, Try.ntmps12
   go_wp2_with (first | ((with_reducible refine gate_dst (N := 2) rfl ?_); refine boxz (cs := #[.int .i64 a0_0, .int .i64 a0_1, .int .i64 a0_2, .int .i64 a0_3, .slice A0_4 l0_4.length c0_4]) (t := 59) rfl ?_; intro gb221 hg w12 hbox hb; have n0_ := Aside0.mk (below_step z10_25 hb); have n1_ := Aside0.mk (hbox); have n2_ := Aside0.mk ((by rw [hg]; exact (below_size z10_25) : w.heap.size ≤ gb221)); have n3_ := Aside0.mk ((by rw [hg]; exact (below_size z10_25) : w.heap.size ≤ gb221)); clear HB; have HB := n0_; have BK221 := n1_; have GW221 := n2_; have GE221 := n3_; clear n0_ n1_ n2_ n3_; clear hb hbox hg) | ((with_reducible refine gate_dst (N := 3) rfl ?_); refine boxz (cs := #[.int .i64 a1_0, .int .i64 a1_1, .int .i64 a1_2, .int .i64 a1_3, .slice A1_4 l1_4.length c1_4]) (t := 59) rfl ?_; intro gb222 hg w13 hbox hb; have n0_ := Aside0.mk (blk_belowB BK221 z10_1 hb); have n1_ := Aside0.mk (below_step z10_20 hb); have n2_ := Aside0.mk (hbox); have n3_ := Aside0.mk ((by rw [hg]; exact (below_size z10_20) : w.heap.size ≤ gb222)); have n4_ := Aside0.mk ((by rw [hg]; exact (below_size z10_20) : w.heap.size ≤ gb222)); have n5_ := Aside0.mk ((by rw [hg]; exact Nat.ne_of_lt (blk_ltB BK221 z10_1) : gb221 ≠ gb222)); have n6_ := Aside0.mk ((by rw [hg]; exact Nat.ne_of_gt (blk_ltB BK221 z10_1) : gb222 ≠ gb221)); clear BK221; clear HB; have BK221 := n0_; have HB := n1_; have BK222 := n2_; have GW222 := n3_; have GE222 := n4_; have NB221_222 := n5_; have NB222_221 := n6_; clear n0_ n1_ n2_ n3_ n4_ n5_ n6_; clear hb hbox hg; have hnb14 := NB221_222.out; have hnc14 := NB222_221.out; obtain ⟨_, _, _, _, _, _, _, _, _, _⟩ := be_5 BK221.out) | ((with_reducible refine gate_callee (f := 30) rfl ?_); refine goesL_ (some 16) rfl rfl Try.func30 (by kernel_rfl) rfl #[.agg #[.int .i64 a0_0, .int .i64 a0_1, .int .i64 a0_2, .int .i64 a0_3, .slice A0_4 l0_4.length c0_4], .int .i64 1048576] rfl z10_6 ?_; (with_reducible refine (laws_szMask.calls a0_0 a0_1 a0_2 a0_3 _ _ l0_4 1048576 t223 _ ?side1 ?side2 A3.out).mono ?_); (case side1 => exact z10_22); (case side2 => exact HC0_4.out); rintro e w16 ⟨rfl, hb⟩; refine ⟨_, rfl, ?_⟩; have n0_ := Aside0.mk (blk_belowB BK221 z10_1 hb); have n1_ := Aside0.mk (blk_belowB BK222 z10_2 hb); have n2_ := Aside0.mk (below_step z10_9 hb); clear BK221; clear BK222; clear HB; have BK221 := n0_; have BK222 := n1_; have HB := n2_; clear n0_ n1_ n2_; (try clear hb); obtain ⟨_, _, _, _, _, _, _, _, _, _⟩ := be_5 BK222.out) | ((with_reducible refine gate_callee (f := 30) rfl ?_); refine goesL_ (some 21) rfl rfl Try.func30 (by kernel_rfl) rfl #[.agg #[.int .i64 a1_0, .int .i64 a1_1, .int .i64 a1_2, .int .i64 a1_3, .slice A1_4 l1_4.length c1_4], .int .i64 t223] rfl z10_6 ?_; (with_reducible refine (laws_szMask.calls a1_0 a1_1 a1_2 a1_3 _ _ l1_4 t223 t224 _ ?side1 ?side2 A10.out).mono ?_); (case side1 => exact z10_19); (case side2 => exact HC1_4.out); rintro e w18 ⟨rfl, hb⟩; refine ⟨_, rfl, ?_⟩; have n0_ := Aside0.mk (blk_belowB BK221 z10_1 hb); have n1_ := Aside0.mk (blk_belowB BK222 z10_2 hb); have n2_ := Aside0.mk (below_step z10_9 hb); clear BK221; clear BK222; clear HB; have BK221 := n0_; have BK222 := n1_; have HB := n2_; clear n0_ n1_ n2_; (try clear hb)))
   go_ret
   exact ⟨z10_65, z10_9⟩
  ·rw [if_neg c11] at H
   have c11b0 : decide (t224 < 0) = false := decide_eq_false c11
   clear c11
   replace H := Option.bind_eq_some_iff.mp H
   obtain ⟨⟨t225, t226, t227, t228, t229⟩, A190, H⟩ := H
   try dsimp only at H
   have A19 := Aside0.mk A190
   clear A190
   replace H := Option.bind_eq_some_iff.mp H
   obtain ⟨⟨t232, t233, t234, t235, t236⟩, A200, H⟩ := H
   try dsimp only at H
   have A20 := Aside0.mk A200
   clear A200
   replace H := Option.bind_eq_some_iff.mp H
   obtain ⟨⟨t239, t240, t241, t242, t243⟩, A210, H⟩ := H
   try dsimp only at H
   have A21 := Aside0.mk A210
   clear A210
   replace H := Option.bind_eq_some_iff.mp H
   obtain ⟨⟨t247, t248, t249, t250, t251⟩, A220, H⟩ := H
   try dsimp only at H
   have A22 := Aside0.mk A220
   clear A220
   replace H := Option.bind_eq_some_iff.mp H
   obtain ⟨⟨t255, t256, t257, t258, t259⟩, A230, H⟩ := H
   try dsimp only at H
   have A23 := Aside0.mk A230
   clear A230
   replace H := Option.bind_eq_some_iff.mp H
   obtain ⟨⟨t263, t264, t265, t266, t267⟩, A240, H⟩ := H
   try dsimp only at H
   have A24 := Aside0.mk A240
   clear A240
   replace H := Option.bind_eq_some_iff.mp H
   obtain ⟨t271, A250, H⟩ := H
   try dsimp only at H
   have A25 := Aside0.mk A250
   clear A250
   by_cases c26 : t271 = true
   ·subst c26
    have H1 : ((laws_toMask.f k a0_0 a0_1 a0_2 a0_3 l0_4).bind fun bt272 => ((laws_eqMask.f k t247 t248 t249 t250 t251 bt272.1 bt272.2.1 bt272.2.2.1 bt272.2.2.2.1 bt272.2.2.2.2).bind fun t279 => (if t279 = true then ((laws_toMask.f k a1_0 a1_1 a1_2 a1_3 l1_4).bind fun bt280 => ((laws_eqMask.f k t255 t256 t257 t258 t259 bt280.1 bt280.2.1 bt280.2.2.1 bt280.2.2.2.1 bt280.2.2.2.2).bind fun t287 => (if t287 = true then ((laws_markMask.f k t247 t248 t249 t250 t251 1).bind fun bt288 => ((laws_markMask.f k t255 t256 t257 t258 t259 bt288.1).bind fun bt290 => (if bt290.1 < 0 then (laws_FnExactMeetMask.j0 k true a0_0 a0_1 a0_2 a0_3 l0_4 a1_0 a1_1 a1_2 a1_3 l1_4 t239 t240 t241 t242 t243 t263 t264 t265 t266 t267) else ((laws_eqMask.f k t263 t264 t265 t266 t267 t239 t240 t241 t242 t243).bind fun t292 => (laws_FnExactMeetMask.j0 k (!t292) a0_0 a0_1 a0_2 a0_3 l0_4 a1_0 a1_1 a1_2 a1_3 l1_4 t239 t240 t241 t242 t243 t263 t264 t265 t266 t267))))) else (some false)))) else (some false)))) = some r := by rw [if_pos rfl] at H; exact H
    clear H; have H := H1; clear H1
    replace H := Option.bind_eq_some_iff.mp H
    obtain ⟨⟨t272, t273, t274, t275, t276⟩, A270, H⟩ := H
    try dsimp only at H
    have A27 := Aside0.mk A270
    clear A270
    replace H := Option.bind_eq_some_iff.mp H
    obtain ⟨t279, A280, H⟩ := H
    try dsimp only at H
    have A28 := Aside0.mk A280
    clear A280
    by_cases c29 : t279 = true
    ·subst c29
     have H1 : ((laws_toMask.f k a1_0 a1_1 a1_2 a1_3 l1_4).bind fun bt280 => ((laws_eqMask.f k t255 t256 t257 t258 t259 bt280.1 bt280.2.1 bt280.2.2.1 bt280.2.2.2.1 bt280.2.2.2.2).bind fun t287 => (if t287 = true then ((laws_markMask.f k t247 t248 t249 t250 t251 1).bind fun bt288 => ((laws_markMask.f k t255 t256 t257 t258 t259 bt288.1).bind fun bt290 => (if bt290.1 < 0 then (laws_FnExactMeetMask.j0 k true a0_0 a0_1 a0_2 a0_3 l0_4 a1_0 a1_1 a1_2 a1_3 l1_4 t239 t240 t241 t242 t243 t263 t264 t265 t266 t267) else ((laws_eqMask.f k t263 t264 t265 t266 t267 t239 t240 t241 t242 t243).bind fun t292 => (laws_FnExactMeetMask.j0 k (!t292) a0_0 a0_1 a0_2 a0_3 l0_4 a1_0 a1_1 a1_2 a1_3 l1_4 t239 t240 t241 t242 t243 t263 t264 t265 t266 t267))))) else (some false)))) = some r := by rw [if_pos rfl] at H; exact H
     clear H; have H := H1; clear H1
     replace H := Option.bind_eq_some_iff.mp H
     obtain ⟨⟨t280, t281, t282, t283, t284⟩, A300, H⟩ := H
     try dsimp only at H
     have A30 := Aside0.mk A300
     clear A300
     replace H := Option.bind_eq_some_iff.mp H
     obtain ⟨t287, A310, H⟩ := H
     try dsimp only at H
     have A31 := Aside0.mk A310
     clear A310
     by_cases c32 : t287 = true
     ·subst c32
      have H1 : ((laws_markMask.f k t247 t248 t249 t250 t251 1).bind fun bt288 => ((laws_markMask.f k t255 t256 t257 t258 t259 bt288.1).bind fun bt290 => (if bt290.1 < 0 then (laws_FnExactMeetMask.j0 k true a0_0 a0_1 a0_2 a0_3 l0_4 a1_0 a1_1 a1_2 a1_3 l1_4 t239 t240 t241 t242 t243 t263 t264 t265 t266 t267) else ((laws_eqMask.f k t263 t264 t265 t266 t267 t239 t240 t241 t242 t243).bind fun t292 => (laws_FnExactMeetMask.j0 k (!t292) a0_0 a0_1 a0_2 a0_3 l0_4 a1_0 a1_1 a1_2 a1_3 l1_4 t239 t240 t241 t242 t243 t263 t264 t265 t266 t267))))) = some r := by rw [if_pos rfl] at H; exact H
      clear H; have H := H1; clear H1
      replace H := Option.bind_eq_some_iff.mp H
      obtain ⟨⟨t288, t289⟩, A330, H⟩ := H
      try dsimp only at H
      have A33 := Aside0.mk A330
      clear A330
      replace H := Option.bind_eq_some_iff.mp H
      obtain ⟨⟨t290, t291⟩, A340, H⟩ := H
      try dsimp only at H
      have A34 := Aside0.mk A340
      clear A340
      have HC35 := Aside0.mk H
      clear H
      go_enter Try.func12, Try.ntmps12
      try go_wp2_with (first | ((with_reducible refine gate_dst (N := 2) rfl ?_); refine boxz (cs := #[.int .i64 a0_0, .int .i64 a0_1, .int .i64 a0_2, .int .i64 a0_3, .slice A0_4 l0_4.length c0_4]) (t := 59) rfl ?_; intro gb221 hg w36 hbox hb; have n0_ := Aside0.mk (below_step z10_25 hb); have n1_ := Aside0.mk (hbox); have n2_ := Aside0.mk ((by rw [hg]; exact (below_size z10_25) : w.heap.size ≤ gb221)); have n3_ := Aside0.mk ((by rw [hg]; exact (below_size z10_25) : w.heap.size ≤ gb221)); clear HB; have HB := n0_; have BK221 := n1_; have GW221 := n2_; have GE221 := n3_; clear n0_ n1_ n2_ n3_; clear hb hbox hg) | ((with_reducible refine gate_dst (N := 3) rfl ?_); refine boxz (cs := #[.int .i64 a1_0, .int .i64 a1_1, .int .i64 a1_2, .int .i64 a1_3, .slice A1_4 l1_4.length c1_4]) (t := 59) rfl ?_; intro gb222 hg w37 hbox hb; have n0_ := Aside0.mk (blk_belowB BK221 z10_1 hb); have n1_ := Aside0.mk (below_step z10_20 hb); have n2_ := Aside0.mk (hbox); have n3_ := Aside0.mk ((by rw [hg]; exact (below_size z10_20) : w.heap.size ≤ gb222)); have n4_ := Aside0.mk ((by rw [hg]; exact (below_size z10_20) : w.heap.size ≤ gb222)); have n5_ := Aside0.mk ((by rw [hg]; exact Nat.ne_of_lt (blk_ltB BK221 z10_1) : gb221 ≠ gb222)); have n6_ := Aside0.mk ((by rw [hg]; exact Nat.ne_of_gt (blk_ltB BK221 z10_1) : gb222 ≠ gb221)); clear BK221; clear HB; have BK221 := n0_; have HB := n1_; have BK222 := n2_; have GW222 := n3_; have GE222 := n4_; have NB221_222 := n5_; have NB222_221 := n6_; clear n0_ n1_ n2_ n3_ n4_ n5_ n6_; clear hb hbox hg; have hnb38 := NB221_222.out; have hnc38 := NB222_221.out; obtain ⟨_, _, _, _, _, _, _, _, _, _⟩ := be_5 BK221.out) | ((with_reducible refine gate_callee (f := 30) rfl ?_); refine goesL_ (some 16) rfl rfl Try.func30 (by kernel_rfl) rfl #[.agg #[.int .i64 a0_0, .int .i64 a0_1, .int .i64 a0_2, .int .i64 a0_3, .slice A0_4 l0_4.length c0_4], .int .i64 1048576] rfl z10_6 ?_; (with_reducible refine (laws_szMask.calls a0_0 a0_1 a0_2 a0_3 _ _ l0_4 1048576 t223 _ ?side1 ?side2 A3.out).mono ?_); (case side1 => exact z10_22); (case side2 => exact HC0_4.out); rintro e w40 ⟨rfl, hb⟩; refine ⟨_, rfl, ?_⟩; have n0_ := Aside0.mk (blk_belowB BK221 z10_1 hb); have n1_ := Aside0.mk (blk_belowB BK222 z10_2 hb); have n2_ := Aside0.mk (below_step z10_9 hb); clear BK221; clear BK222; clear HB; have BK221 := n0_; have BK222 := n1_; have HB := n2_; clear n0_ n1_ n2_; (try clear hb); obtain ⟨_, _, _, _, _, _, _, _, _, _⟩ := be_5 BK222.out) | ((with_reducible refine gate_callee (f := 30) rfl ?_); refine goesL_ (some 21) rfl rfl Try.func30 (by kernel_rfl) rfl #[.agg #[.int .i64 a1_0, .int .i64 a1_1, .int .i64 a1_2, .int .i64 a1_3, .slice A1_4 l1_4.length c1_4], .int .i64 t223] rfl z10_6 ?_; (with_reducible refine (laws_szMask.calls a1_0 a1_1 a1_2 a1_3 _ _ l1_4 t223 t224 _ ?side1 ?side2 A10.out).mono ?_); (case side1 => exact z10_19); (case side2 => exact HC1_4.out); rintro e w42 ⟨rfl, hb⟩; refine ⟨_, rfl, ?_⟩; have n0_ := Aside0.mk (blk_belowB BK221 z10_1 hb); have n1_ := Aside0.mk (blk_belowB BK222 z10_2 hb); have n2_ := Aside0.mk (below_step z10_9 hb); clear BK221; clear BK222; clear HB; have BK221 := n0_; have BK222 := n1_; have HB := n2_; clear n0_ n1_ n2_; (try clear hb)))
      have n0_ := Aside0.mk (blk_drew BK221.out)
      have n1_ := Aside0.mk (blk_drew BK222.out)
      have n2_ := Aside0.mk (below_drew1 HB.out)
      clear BK221; clear BK222; clear HB; have BK221 := n0_; have BK222 := n1_; have HB := n2_; clear n0_ n1_ n2_
      refine start_ (n := 7) (S := fun w' => w'.cell? ⟨gb221, 0, none⟩ = some (.int .i64 a0_0) ∧ w'.cell? ⟨gb221, 1, none⟩ = some (.int .i64 a0_1) ∧ w'.cell? ⟨gb221, 2, none⟩ = some (.int .i64 a0_2) ∧ w'.cell? ⟨gb221, 3, none⟩ = some (.int .i64 a0_3) ∧ w'.cell? ⟨gb221, 4, none⟩ = some (.slice A0_4 l0_4.length c0_4) ∧ w'.cell? ⟨gb222, 0, none⟩ = some (.int .i64 a1_0) ∧ w'.cell? ⟨gb222, 1, none⟩ = some (.int .i64 a1_1) ∧ w'.cell? ⟨gb222, 2, none⟩ = some (.int .i64 a1_2) ∧ w'.cell? ⟨gb222, 3, none⟩ = some (.int .i64 a1_3) ∧ w'.cell? ⟨gb222, 4, none⟩ = some (.slice A1_4 l1_4.length c1_4)) (ds := []) #[false, false, false, false, false, false, false] (by kernel_rfl) rfl rfl ⟨(blk_cell BK221.out 0).trans rfl, (blk_cell BK221.out 1).trans rfl, (blk_cell BK221.out 2).trans rfl, (blk_cell BK221.out 3).trans rfl, (blk_cell BK221.out 4).trans rfl, (blk_cell BK222.out 0).trans rfl, (blk_cell BK222.out 1).trans rfl, (blk_cell BK222.out 2).trans rfl, (blk_cell BK222.out 3).trans rfl, (blk_cell BK222.out 4).trans rfl⟩ (fun hHeld => ?_)
      generalize w42.drew = w43 at BK221 BK222 HB hHeld ⊢
      refine take_ (i := 0) (N := some 24) (v := ?_) (a' := ?_) #[true, false, false, false, false, false, false] rfl rfl (by kernel_rfl) (fun _ _ _ h => h) (Or.inl ⟨by rfl, ?_⟩) hHeld ?_ ?_
      rotate_left
      ·rintro w' ⟨s0, s1, s2, s3, s4, s5, s6, s7, s8, s9⟩
       go_simp; with_reducible rfl
      rotate_left
      ·exact x10_put
      refine take_ (i := 2) (N := some 26) (v := ?_) (a' := ?_) #[true, false, true, false, false, false, false] rfl rfl (by kernel_rfl) (fun _ _ _ h => h) (Or.inl ⟨by rfl, ?_⟩) hHeld ?_ ?_
      rotate_left
      ·rintro w' ⟨s0, s1, s2, s3, s4, s5, s6, s7, s8, s9⟩
       go_simp; with_reducible rfl
      rotate_left
      ·exact x10_put
      refine join_ (σ := Value × Value × Value × Nat) 1 #[true, true, true, true, true, true, false] (fun s_ => [(25, .agg #[.int .i64 t225, .int .i64 t226, .int .i64 t227, .int .i64 t228, s_.1]), (27, .agg #[.int .i64 t232, .int .i64 t233, .int .i64 t234, .int .i64 t235, s_.2.1]), (28, .agg #[.int .i64 t239, .int .i64 t240, .int .i64 t241, .int .i64 t242, s_.2.2.1]), (6, .pointer (some ⟨s_.2.2.2, 0, none⟩))]) (fun s_ w' => (w'.cell? ⟨gb221, 0, none⟩ = some (.int .i64 a0_0) ∧ w'.cell? ⟨gb221, 1, none⟩ = some (.int .i64 a0_1) ∧ w'.cell? ⟨gb221, 2, none⟩ = some (.int .i64 a0_2) ∧ w'.cell? ⟨gb221, 3, none⟩ = some (.int .i64 a0_3) ∧ w'.cell? ⟨gb221, 4, none⟩ = some (.slice A0_4 l0_4.length c0_4) ∧ w'.cell? ⟨gb222, 0, none⟩ = some (.int .i64 a1_0) ∧ w'.cell? ⟨gb222, 1, none⟩ = some (.int .i64 a1_1) ∧ w'.cell? ⟨gb222, 2, none⟩ = some (.int .i64 a1_2) ∧ w'.cell? ⟨gb222, 3, none⟩ = some (.int .i64 a1_3) ∧ w'.cell? ⟨gb222, 4, none⟩ = some (.slice A1_4 l1_4.length c1_4)) ∧ (Kd.R (Kd.int .i64) 3 w' w.heap.size (fun k_ => some k_ ≠ (s_.2.1 : Value).ownBlock ∧ some k_ ≠ (s_.2.2.1 : Value).ownBlock) s_.1 t229) ∧ (Kd.R (Kd.int .i64) 3 w' w.heap.size (fun k_ => some k_ ≠ (s_.1 : Value).ownBlock ∧ some k_ ≠ (s_.2.2.1 : Value).ownBlock) s_.2.1 t236) ∧ (Kd.R (Kd.int .i64) 3 w' w.heap.size (fun k_ => some k_ ≠ (s_.1 : Value).ownBlock ∧ some k_ ≠ (s_.2.1 : Value).ownBlock) s_.2.2.1 t243) ∧ (w'.heap[gb221]? = some (.cells #[.int .i64 a0_0, .int .i64 a0_1, .int .i64 a0_2, .int .i64 a0_3, .slice A0_4 l0_4.length c0_4] 59 (0, 0))) ∧ (w'.heap[gb222]? = some (.cells #[.int .i64 a1_0, .int .i64 a1_1, .int .i64 a1_2, .int .i64 a1_3, .slice A1_4 l1_4.length c1_4] 59 (0, 0))) ∧ (w'.heap[s_.2.2.2]? = some (.cells #[.int .i64 0, .int .i64 0, .int .i64 0, .int .i64 0, .slice none 0 0] 64 (0, 0))) ∧ (w.heap.size ≤ s_.2.2.2) ∧ (w.heap.size ≤ s_.2.2.2) ∧ (gb221 ≠ s_.2.2.2) ∧ (s_.2.2.2 ≠ gb221) ∧ (gb222 ≠ s_.2.2.2) ∧ (s_.2.2.2 ≠ gb222) ∧ (Below w.heap.size w w')) ?_ ?_
      rotate_left
      ·intro hCont
       refine two_ (i := 1) (j := 5) (Ni := some 25) (Nj := some 6) #[true, true, true, false, false, false, false] #[true, false, true, false, false, true, false] rfl rfl rfl rfl (by kernel_rfl) (by decide) (by decide) (fun K hK => ?_) (fun K hK => ?_)
       ·skip
        refine goes_ Try.func32 (by kernel_rfl) rfl #[.agg #[.int .i64 a0_0, .int .i64 a0_1, .int .i64 a0_2, .int .i64 a0_3, .slice A0_4 l0_4.length c0_4]] (by rfl) rfl rfl z10_6 ?_
        with_reducible refine (laws_toMask.calls k a0_0 a0_1 a0_2 a0_3 _ _ l0_4 t225 t226 t227 t228 t229 _ ?side1 ?side2 A19.out).mono ?_
        (case side1 => exact z10_22)
        (case side2 => exact HC0_4.out)
        rintro e w44 ⟨v230, rfl, ho0, hb⟩
        refine ⟨_, rfl, ?_⟩
        have n0_ := Aside0.mk (Kd.R_lower ho0 (below_size z10_9))
        have n1_ := Aside0.mk (blk_belowB BK221 z10_1 hb)
        have n2_ := Aside0.mk (blk_belowB BK222 z10_2 hb)
        have n3_ := Aside0.mk (below_step z10_9 hb)
        clear BK221; clear BK222; clear HB; have HO231 := n0_; have BK221 := n1_; have BK222 := n2_; have HB := n3_; clear n0_ n1_ n2_ n3_; (try clear hb); (try clear hb2); (try clear hk); (try clear hi); (try clear ho0)
        refine hK.out _ _ ⟨(blk_cell BK221.out 0).trans rfl, (blk_cell BK221.out 1).trans rfl, (blk_cell BK221.out 2).trans rfl, (blk_cell BK221.out 3).trans rfl, (blk_cell BK221.out 4).trans rfl, (blk_cell BK222.out 0).trans rfl, (blk_cell BK222.out 1).trans rfl, (blk_cell BK222.out 2).trans rfl, (blk_cell BK222.out 3).trans rfl, (blk_cell BK222.out 4).trans rfl⟩ (fun hHeld => ?_)
        clear hK K
        refine norm_ (a' := ?_) ?_ ?_
        rotate_left
        ·show Act.put _ (some 25) _ = _
         simp only [Act.put, List.setIfInBounds_toArray, List.set_cons_zero, List.set_cons_succ, i64_w, i32_w]
         rfl
        refine two_ (i := 3) (j := 5) (Ni := some 27) (Nj := some 6) #[true, true, true, true, false, false, false] #[true, true, true, false, false, true, false] rfl rfl rfl rfl (by kernel_rfl) (by decide) (by decide) (fun K hK => ?_) (fun K hK => ?_)
        ·skip
         refine goes_ Try.func32 (by kernel_rfl) rfl #[.agg #[.int .i64 a1_0, .int .i64 a1_1, .int .i64 a1_2, .int .i64 a1_3, .slice A1_4 l1_4.length c1_4]] (by rfl) rfl rfl z10_6 ?_
         with_reducible refine (laws_toMask.calls k a1_0 a1_1 a1_2 a1_3 _ _ l1_4 t232 t233 t234 t235 t236 _ ?side1 ?side2 A20.out).mono ?_
         (case side1 => exact z10_19)
         (case side2 => exact HC1_4.out)
         rintro e w45 ⟨v237, rfl, ho0, hb⟩
         refine ⟨_, rfl, ?_⟩
         have n0_ := Aside0.mk (Kd.R_elder' z10_12 (Kd.R_base ho0) hb)
         have n1_ := Aside0.mk (Kd.R_lower (Kd.R_new' ho0 (Kd.R_lt z10_12)) (below_size z10_9))
         have n2_ := Aside0.mk (blk_belowB BK221 z10_1 hb)
         have n3_ := Aside0.mk (blk_belowB BK222 z10_2 hb)
         have n4_ := Aside0.mk (below_step z10_9 hb)
         clear HO231; clear BK221; clear BK222; clear HB; have HO231 := n0_; have HO238 := n1_; have BK221 := n2_; have BK222 := n3_; have HB := n4_; clear n0_ n1_ n2_ n3_ n4_; (try clear hb); (try clear hb2); (try clear hk); (try clear hi); (try clear ho0)
         obtain ⟨Ao46, co46, eo46⟩ := Kd.R_slice HO231.out
         (first | subst eo46 | (injection eo46 with f1_ f2_ f3_; have f4_ := f1_.symm; have f5_ := f3_.symm; clear f1_ f2_ f3_; subst f4_; subst f5_))
         obtain ⟨Ao47, co47, eo47⟩ := Kd.R_slice HO238.out
         (first | subst eo47 | (injection eo47 with f1_ f2_ f3_; have f4_ := f1_.symm; have f5_ := f3_.symm; clear f1_ f2_ f3_; subst f4_; subst f5_))
         refine hK.out _ _ ⟨(blk_cell BK221.out 0).trans rfl, (blk_cell BK221.out 1).trans rfl, (blk_cell BK221.out 2).trans rfl, (blk_cell BK221.out 3).trans rfl, (blk_cell BK221.out 4).trans rfl, (blk_cell BK222.out 0).trans rfl, (blk_cell BK222.out 1).trans rfl, (blk_cell BK222.out 2).trans rfl, (blk_cell BK222.out 3).trans rfl, (blk_cell BK222.out 4).trans rfl⟩ (fun hHeld => ?_)
         clear hK K
         refine norm_ (a' := ?_) ?_ ?_
         rotate_left
         ·show Act.put _ (some 27) _ = _
          simp only [Act.put, List.setIfInBounds_toArray, List.set_cons_zero, List.set_cons_succ, i64_w, i32_w]
          rfl
         refine two_ (i := 4) (j := 5) (Ni := some 28) (Nj := some 6) #[true, true, true, true, true, false, false] #[true, true, true, true, false, true, false] rfl rfl rfl rfl (by kernel_rfl) (by decide) (by decide) (fun K hK => ?_) (fun K hK => ?_)
         ·skip
          refine goes_ Try.func54 (by kernel_rfl) rfl #[.agg #[.int .i64 t225, .int .i64 t226, .int .i64 t227, .int .i64 t228, .slice Ao46 t229.length co46], .agg #[.int .i64 t232, .int .i64 t233, .int .i64 t234, .int .i64 t235, .slice Ao47 t236.length co47]] (by rfl) rfl rfl z10_6 ?_
          with_reducible refine (spec_MeetMask.calls k t225 t226 t227 t228 _ _ t229 t232 t233 t234 t235 _ _ t236 t239 t240 t241 t242 t243 _ ?side1 ?side2 ?side3 ?side4 A21.out).mono ?_
          (case side1 => exact z10_56)
          (case side2 => exact (Kd.R_reads' HO231.out).2.1)
          (case side3 => exact z10_57)
          (case side4 => exact (Kd.R_reads' HO238.out).2.1)
          rintro e w48 ⟨v244, rfl, ho0, hb⟩
          refine ⟨_, rfl, ?_⟩
          have n0_ := Aside0.mk (Kd.R_elder' z10_12 (Kd.R_base ho0) hb)
          have n1_ := Aside0.mk (Kd.R_elder' z10_17 (Kd.R_base ho0) hb)
          have n2_ := Aside0.mk (Kd.R_lower (Kd.R_new' (Kd.R_new' ho0 (Kd.R_lt z10_12)) (Kd.R_lt z10_17)) (below_size z10_9))
          have n3_ := Aside0.mk (blk_belowB BK221 z10_1 hb)
          have n4_ := Aside0.mk (blk_belowB BK222 z10_2 hb)
          have n5_ := Aside0.mk (below_step z10_9 hb)
          clear HO231; clear HO238; clear BK221; clear BK222; clear HB; have HO231 := n0_; have HO238 := n1_; have HO245 := n2_; have BK221 := n3_; have BK222 := n4_; have HB := n5_; clear n0_ n1_ n2_ n3_ n4_ n5_; (try clear hb); (try clear hb2); (try clear hk); (try clear hi); (try clear ho0)
          refine hK.out _ _ ⟨(blk_cell BK221.out 0).trans rfl, (blk_cell BK221.out 1).trans rfl, (blk_cell BK221.out 2).trans rfl, (blk_cell BK221.out 3).trans rfl, (blk_cell BK221.out 4).trans rfl, (blk_cell BK222.out 0).trans rfl, (blk_cell BK222.out 1).trans rfl, (blk_cell BK222.out 2).trans rfl, (blk_cell BK222.out 3).trans rfl, (blk_cell BK222.out 4).trans rfl⟩ (fun hHeld => ?_)
          clear hK K
          refine norm_ (a' := ?_) ?_ ?_
          rotate_left
          ·show Act.put _ (some 28) _ = _
           simp only [Act.put, List.setIfInBounds_toArray, List.set_cons_zero, List.set_cons_succ, i64_w, i32_w]
           rfl
          refine one_ (i := 5) (N := some 6) #[true, true, true, true, true, true, false] rfl rfl (by kernel_rfl) (by decide) (fun K hK => ?_)
          refine box_step ?hg (N := 6) ?hd (cs := #[.int .i64 0, .int .i64 0, .int .i64 0, .int .i64 0, .slice none 0 0]) (t := 64) ?hr ?_; (case hd => rfl); (case hg => rfl); (case hr => first | (go_simp; done) | (go_simp; rfl))
          intro gb246 hg w49 hbox hb
          have n0_ := Aside0.mk (Kd.R_below z10_12 hb)
          have n1_ := Aside0.mk (Kd.R_below z10_17 hb)
          have n2_ := Aside0.mk (Kd.R_below z10_26 hb)
          have n3_ := Aside0.mk (blk_belowB BK221 z10_1 hb)
          have n4_ := Aside0.mk (blk_belowB BK222 z10_2 hb)
          have n5_ := Aside0.mk (below_step z10_9 hb)
          have n6_ := Aside0.mk (hbox)
          have n7_ := Aside0.mk ((by rw [hg]; exact (below_size z10_9) : w.heap.size ≤ gb246))
          have n8_ := Aside0.mk ((by rw [hg]; exact (below_size z10_9) : w.heap.size ≤ gb246))
          have n9_ := Aside0.mk ((by rw [hg]; exact Nat.ne_of_lt (blk_ltB BK221 z10_1) : gb221 ≠ gb246))
          have n10_ := Aside0.mk ((by rw [hg]; exact Nat.ne_of_gt (blk_ltB BK221 z10_1) : gb246 ≠ gb221))
          have n11_ := Aside0.mk ((by rw [hg]; exact Nat.ne_of_lt (blk_ltB BK222 z10_2) : gb222 ≠ gb246))
          have n12_ := Aside0.mk ((by rw [hg]; exact Nat.ne_of_gt (blk_ltB BK222 z10_2) : gb246 ≠ gb222))
          clear HO231; clear HO238; clear HO245; clear BK221; clear BK222; clear HB; have HO231 := n0_; have HO238 := n1_; have HO245 := n2_; have BK221 := n3_; have BK222 := n4_; have HB := n5_; have BK246 := n6_; have GW246 := n7_; have GE246 := n8_; have NB221_246 := n9_; have NB246_221 := n10_; have NB222_246 := n11_; have NB246_222 := n12_; clear n0_ n1_ n2_ n3_ n4_ n5_ n6_ n7_ n8_ n9_ n10_ n11_ n12_; clear hb hbox hg
          refine hK.out _ _ ⟨(blk_cell BK221.out 0).trans rfl, (blk_cell BK221.out 1).trans rfl, (blk_cell BK221.out 2).trans rfl, (blk_cell BK221.out 3).trans rfl, (blk_cell BK221.out 4).trans rfl, (blk_cell BK222.out 0).trans rfl, (blk_cell BK222.out 1).trans rfl, (blk_cell BK222.out 2).trans rfl, (blk_cell BK222.out 3).trans rfl, (blk_cell BK222.out 4).trans rfl⟩ (fun hHeld => ?_)
          clear hK K
          refine norm_ (a' := ?_) ?_ ?_
          rotate_left
          ·show Act.put _ (some 6) _ = _
           simp only [Act.put, List.setIfInBounds_toArray, List.set_cons_zero, List.set_cons_succ, i64_w, i32_w]
           rfl
          exact norm_ z10_33 (hCont (.slice Ao46 t229.length co46, .slice Ao47 t236.length co47, v244, gb246) _ ⟨hHeld, z10_60, z10_61, z10_62, z10_1, z10_2, z10_5, GW246.out, GE246.out, NB221_246.out, NB246_221.out, NB222_246.out, NB246_222.out, z10_7⟩)
         ·skip
          refine box_step ?hg (N := 6) ?hd (cs := #[.int .i64 0, .int .i64 0, .int .i64 0, .int .i64 0, .slice none 0 0]) (t := 64) ?hr ?_; (case hd => rfl); (case hg => rfl); (case hr => first | (go_simp; done) | (go_simp; rfl))
          intro gb246 hg w46 hbox hb
          have n0_ := Aside0.mk (Kd.R_below z10_12 hb)
          have n1_ := Aside0.mk (Kd.R_below z10_17 hb)
          have n2_ := Aside0.mk (blk_belowB BK221 z10_1 hb)
          have n3_ := Aside0.mk (blk_belowB BK222 z10_2 hb)
          have n4_ := Aside0.mk (below_step z10_9 hb)
          have n5_ := Aside0.mk (hbox)
          have n6_ := Aside0.mk ((by rw [hg]; exact (below_size z10_9) : w.heap.size ≤ gb246))
          have n7_ := Aside0.mk ((by rw [hg]; exact (below_size z10_9) : w.heap.size ≤ gb246))
          have n8_ := Aside0.mk ((by rw [hg]; exact Nat.ne_of_lt (blk_ltB BK221 z10_1) : gb221 ≠ gb246))
          have n9_ := Aside0.mk ((by rw [hg]; exact Nat.ne_of_gt (blk_ltB BK221 z10_1) : gb246 ≠ gb221))
          have n10_ := Aside0.mk ((by rw [hg]; exact Nat.ne_of_lt (blk_ltB BK222 z10_2) : gb222 ≠ gb246))
          have n11_ := Aside0.mk ((by rw [hg]; exact Nat.ne_of_gt (blk_ltB BK222 z10_2) : gb246 ≠ gb222))
          clear HO231; clear HO238; clear BK221; clear BK222; clear HB; have HO231 := n0_; have HO238 := n1_; have BK221 := n2_; have BK222 := n3_; have HB := n4_; have BK246 := n5_; have GW246 := n6_; have GE246 := n7_; have NB221_246 := n8_; have NB246_221 := n9_; have NB222_246 := n10_; have NB246_222 := n11_; clear n0_ n1_ n2_ n3_ n4_ n5_ n6_ n7_ n8_ n9_ n10_ n11_; clear hb hbox hg
          obtain ⟨Ao47, co47, eo47⟩ := Kd.R_slice HO231.out
          (first | subst eo47 | (injection eo47 with f1_ f2_ f3_; have f4_ := f1_.symm; have f5_ := f3_.symm; clear f1_ f2_ f3_; subst f4_; subst f5_))
          obtain ⟨Ao48, co48, eo48⟩ := Kd.R_slice HO238.out
          (first | subst eo48 | (injection eo48 with f1_ f2_ f3_; have f4_ := f1_.symm; have f5_ := f3_.symm; clear f1_ f2_ f3_; subst f4_; subst f5_))
          refine hK.out _ _ ⟨(blk_cell BK221.out 0).trans rfl, (blk_cell BK221.out 1).trans rfl, (blk_cell BK221.out 2).trans rfl, (blk_cell BK221.out 3).trans rfl, (blk_cell BK221.out 4).trans rfl, (blk_cell BK222.out 0).trans rfl, (blk_cell BK222.out 1).trans rfl, (blk_cell BK222.out 2).trans rfl, (blk_cell BK222.out 3).trans rfl, (blk_cell BK222.out 4).trans rfl⟩ (fun hHeld => ?_)
          clear hK K
          refine norm_ (a' := ?_) ?_ ?_
          rotate_left
          ·show Act.put _ (some 6) _ = _
           simp only [Act.put, List.setIfInBounds_toArray, List.set_cons_zero, List.set_cons_succ, i64_w, i32_w]
           rfl
          refine one_ (i := 4) (N := some 28) #[true, true, true, true, true, true, false] rfl rfl (by kernel_rfl) (by decide) (fun K hK => ?_)
          refine goes_ Try.func54 (by kernel_rfl) rfl #[.agg #[.int .i64 t225, .int .i64 t226, .int .i64 t227, .int .i64 t228, .slice Ao47 t229.length co47], .agg #[.int .i64 t232, .int .i64 t233, .int .i64 t234, .int .i64 t235, .slice Ao48 t236.length co48]] (by rfl) rfl rfl z10_6 ?_
          with_reducible refine (spec_MeetMask.calls k t225 t226 t227 t228 _ _ t229 t232 t233 t234 t235 _ _ t236 t239 t240 t241 t242 t243 _ ?side1 ?side2 ?side3 ?side4 A21.out).mono ?_
          (case side1 => exact z10_56)
          (case side2 => exact (Kd.R_reads' HO231.out).2.1)
          (case side3 => exact z10_57)
          (case side4 => exact (Kd.R_reads' HO238.out).2.1)
          rintro e w49 ⟨v244, rfl, ho0, hb⟩
          refine ⟨_, rfl, ?_⟩
          have n0_ := Aside0.mk (Kd.R_elder' z10_12 (Kd.R_base ho0) hb)
          have n1_ := Aside0.mk (Kd.R_elder' z10_17 (Kd.R_base ho0) hb)
          have n2_ := Aside0.mk (Kd.R_lower (Kd.R_new' (Kd.R_new' ho0 (Kd.R_lt z10_12)) (Kd.R_lt z10_17)) (below_size z10_7))
          have n3_ := Aside0.mk (blk_belowB BK221 z10_1 hb)
          have n4_ := Aside0.mk (blk_belowB BK222 z10_2 hb)
          have n5_ := Aside0.mk (blk_belowB BK246 z10_5 hb)
          have n6_ := Aside0.mk (below_step z10_7 hb)
          clear HO231; clear HO238; clear BK221; clear BK222; clear BK246; clear HB; have HO231 := n0_; have HO238 := n1_; have HO245 := n2_; have BK221 := n3_; have BK222 := n4_; have BK246 := n5_; have HB := n6_; clear n0_ n1_ n2_ n3_ n4_ n5_ n6_; (try clear hb); (try clear hb2); (try clear hk); (try clear hi); (try clear ho0)
          refine hK.out _ _ ⟨(blk_cell BK221.out 0).trans rfl, (blk_cell BK221.out 1).trans rfl, (blk_cell BK221.out 2).trans rfl, (blk_cell BK221.out 3).trans rfl, (blk_cell BK221.out 4).trans rfl, (blk_cell BK222.out 0).trans rfl, (blk_cell BK222.out 1).trans rfl, (blk_cell BK222.out 2).trans rfl, (blk_cell BK222.out 3).trans rfl, (blk_cell BK222.out 4).trans rfl⟩ (fun hHeld => ?_)
          clear hK K
          refine norm_ (a' := ?_) ?_ ?_
          rotate_left
          ·show Act.put _ (some 28) _ = _
           simp only [Act.put, List.setIfInBounds_toArray, List.set_cons_zero, List.set_cons_succ, i64_w, i32_w]
           rfl
          exact norm_ z10_33 (hCont (.slice Ao47 t229.length co47, .slice Ao48 t236.length co48, v244, gb246) _ ⟨hHeld, z10_60, z10_61, z10_62, z10_1, z10_2, z10_5, GW246.out, GE246.out, NB221_246.out, NB246_221.out, NB222_246.out, NB246_222.out, z10_7⟩)
        ·skip
         refine box_step ?hg (N := 6) ?hd (cs := #[.int .i64 0, .int .i64 0, .int .i64 0, .int .i64 0, .slice none 0 0]) (t := 64) ?hr ?_; (case hd => rfl); (case hg => rfl); (case hr => first | (go_simp; done) | (go_simp; rfl))
         intro gb246 hg w45 hbox hb
         have n0_ := Aside0.mk (Kd.R_below z10_12 hb)
         have n1_ := Aside0.mk (blk_belowB BK221 z10_1 hb)
         have n2_ := Aside0.mk (blk_belowB BK222 z10_2 hb)
         have n3_ := Aside0.mk (below_step z10_9 hb)
         have n4_ := Aside0.mk (hbox)
         have n5_ := Aside0.mk ((by rw [hg]; exact (below_size z10_9) : w.heap.size ≤ gb246))
         have n6_ := Aside0.mk ((by rw [hg]; exact (below_size z10_9) : w.heap.size ≤ gb246))
         have n7_ := Aside0.mk ((by rw [hg]; exact Nat.ne_of_lt (blk_ltB BK221 z10_1) : gb221 ≠ gb246))
         have n8_ := Aside0.mk ((by rw [hg]; exact Nat.ne_of_gt (blk_ltB BK221 z10_1) : gb246 ≠ gb221))
         have n9_ := Aside0.mk ((by rw [hg]; exact Nat.ne_of_lt (blk_ltB BK222 z10_2) : gb222 ≠ gb246))
         have n10_ := Aside0.mk ((by rw [hg]; exact Nat.ne_of_gt (blk_ltB BK222 z10_2) : gb246 ≠ gb222))
         clear HO231; clear BK221; clear BK222; clear HB; have HO231 := n0_; have BK221 := n1_; have BK222 := n2_; have HB := n3_; have BK246 := n4_; have GW246 := n5_; have GE246 := n6_; have NB221_246 := n7_; have NB246_221 := n8_; have NB222_246 := n9_; have NB246_222 := n10_; clear n0_ n1_ n2_ n3_ n4_ n5_ n6_ n7_ n8_ n9_ n10_; clear hb hbox hg
         refine hK.out _ _ ⟨(blk_cell BK221.out 0).trans rfl, (blk_cell BK221.out 1).trans rfl, (blk_cell BK221.out 2).trans rfl, (blk_cell BK221.out 3).trans rfl, (blk_cell BK221.out 4).trans rfl, (blk_cell BK222.out 0).trans rfl, (blk_cell BK222.out 1).trans rfl, (blk_cell BK222.out 2).trans rfl, (blk_cell BK222.out 3).trans rfl, (blk_cell BK222.out 4).trans rfl⟩ (fun hHeld => ?_)
         clear hK K
         refine norm_ (a' := ?_) ?_ ?_
         rotate_left
         ·show Act.put _ (some 6) _ = _
          simp only [Act.put, List.setIfInBounds_toArray, List.set_cons_zero, List.set_cons_succ, i64_w, i32_w]
          rfl
         refine one_ (i := 3) (N := some 27) #[true, true, true, true, false, true, false] rfl rfl (by kernel_rfl) (by decide) (fun K hK => ?_)
         refine goes_ Try.func32 (by kernel_rfl) rfl #[.agg #[.int .i64 a1_0, .int .i64 a1_1, .int .i64 a1_2, .int .i64 a1_3, .slice A1_4 l1_4.length c1_4]] (by rfl) rfl rfl z10_6 ?_
         with_reducible refine (laws_toMask.calls k a1_0 a1_1 a1_2 a1_3 _ _ l1_4 t232 t233 t234 t235 t236 _ ?side1 ?side2 A20.out).mono ?_
         (case side1 => exact z10_19)
         (case side2 => exact HC1_4.out)
         rintro e w46 ⟨v237, rfl, ho0, hb⟩
         refine ⟨_, rfl, ?_⟩
         have n0_ := Aside0.mk (Kd.R_elder' z10_12 (Kd.R_base ho0) hb)
         have n1_ := Aside0.mk (Kd.R_lower (Kd.R_new' ho0 (Kd.R_lt z10_12)) (below_size z10_7))
         have n2_ := Aside0.mk (blk_belowB BK221 z10_1 hb)
         have n3_ := Aside0.mk (blk_belowB BK222 z10_2 hb)
         have n4_ := Aside0.mk (blk_belowB BK246 z10_5 hb)
         have n5_ := Aside0.mk (below_step z10_7 hb)
         clear HO231; clear BK221; clear BK222; clear BK246; clear HB; have HO231 := n0_; have HO238 := n1_; have BK221 := n2_; have BK222 := n3_; have BK246 := n4_; have HB := n5_; clear n0_ n1_ n2_ n3_ n4_ n5_; (try clear hb); (try clear hb2); (try clear hk); (try clear hi); (try clear ho0)
         obtain ⟨Ao47, co47, eo47⟩ := Kd.R_slice HO231.out
         (first | subst eo47 | (injection eo47 with f1_ f2_ f3_; have f4_ := f1_.symm; have f5_ := f3_.symm; clear f1_ f2_ f3_; subst f4_; subst f5_))
         obtain ⟨Ao48, co48, eo48⟩ := Kd.R_slice HO238.out
         (first | subst eo48 | (injection eo48 with f1_ f2_ f3_; have f4_ := f1_.symm; have f5_ := f3_.symm; clear f1_ f2_ f3_; subst f4_; subst f5_))
         refine hK.out _ _ ⟨(blk_cell BK221.out 0).trans rfl, (blk_cell BK221.out 1).trans rfl, (blk_cell BK221.out 2).trans rfl, (blk_cell BK221.out 3).trans rfl, (blk_cell BK221.out 4).trans rfl, (blk_cell BK222.out 0).trans rfl, (blk_cell BK222.out 1).trans rfl, (blk_cell BK222.out 2).trans rfl, (blk_cell BK222.out 3).trans rfl, (blk_cell BK222.out 4).trans rfl⟩ (fun hHeld => ?_)
         clear hK K
         refine norm_ (a' := ?_) ?_ ?_
         rotate_left
         ·show Act.put _ (some 27) _ = _
          simp only [Act.put, List.setIfInBounds_toArray, List.set_cons_zero, List.set_cons_succ, i64_w, i32_w]
          rfl
         refine one_ (i := 4) (N := some 28) #[true, true, true, true, true, true, false] rfl rfl (by kernel_rfl) (by decide) (fun K hK => ?_)
         refine goes_ Try.func54 (by kernel_rfl) rfl #[.agg #[.int .i64 t225, .int .i64 t226, .int .i64 t227, .int .i64 t228, .slice Ao47 t229.length co47], .agg #[.int .i64 t232, .int .i64 t233, .int .i64 t234, .int .i64 t235, .slice Ao48 t236.length co48]] (by rfl) rfl rfl z10_6 ?_
         with_reducible refine (spec_MeetMask.calls k t225 t226 t227 t228 _ _ t229 t232 t233 t234 t235 _ _ t236 t239 t240 t241 t242 t243 _ ?side1 ?side2 ?side3 ?side4 A21.out).mono ?_
         (case side1 => exact z10_56)
         (case side2 => exact (Kd.R_reads' HO231.out).2.1)
         (case side3 => exact z10_57)
         (case side4 => exact (Kd.R_reads' HO238.out).2.1)
         rintro e w49 ⟨v244, rfl, ho0, hb⟩
         refine ⟨_, rfl, ?_⟩
         have n0_ := Aside0.mk (Kd.R_elder' z10_12 (Kd.R_base ho0) hb)
         have n1_ := Aside0.mk (Kd.R_elder' z10_17 (Kd.R_base ho0) hb)
         have n2_ := Aside0.mk (Kd.R_lower (Kd.R_new' (Kd.R_new' ho0 (Kd.R_lt z10_12)) (Kd.R_lt z10_17)) (below_size z10_7))
         have n3_ := Aside0.mk (blk_belowB BK221 z10_1 hb)
         have n4_ := Aside0.mk (blk_belowB BK222 z10_2 hb)
         have n5_ := Aside0.mk (blk_belowB BK246 z10_5 hb)
         have n6_ := Aside0.mk (below_step z10_7 hb)
         clear HO231; clear HO238; clear BK221; clear BK222; clear BK246; clear HB; have HO231 := n0_; have HO238 := n1_; have HO245 := n2_; have BK221 := n3_; have BK222 := n4_; have BK246 := n5_; have HB := n6_; clear n0_ n1_ n2_ n3_ n4_ n5_ n6_; (try clear hb); (try clear hb2); (try clear hk); (try clear hi); (try clear ho0)
         refine hK.out _ _ ⟨(blk_cell BK221.out 0).trans rfl, (blk_cell BK221.out 1).trans rfl, (blk_cell BK221.out 2).trans rfl, (blk_cell BK221.out 3).trans rfl, (blk_cell BK221.out 4).trans rfl, (blk_cell BK222.out 0).trans rfl, (blk_cell BK222.out 1).trans rfl, (blk_cell BK222.out 2).trans rfl, (blk_cell BK222.out 3).trans rfl, (blk_cell BK222.out 4).trans rfl⟩ (fun hHeld => ?_)
         clear hK K
         refine norm_ (a' := ?_) ?_ ?_
         rotate_left
         ·show Act.put _ (some 28) _ = _
          simp only [Act.put, List.setIfInBounds_toArray, List.set_cons_zero, List.set_cons_succ, i64_w, i32_w]
          rfl
         exact norm_ z10_33 (hCont (.slice Ao47 t229.length co47, .slice Ao48 t236.length co48, v244, gb246) _ ⟨hHeld, z10_60, z10_61, z10_62, z10_1, z10_2, z10_5, GW246.out, GE246.out, NB221_246.out, NB246_221.out, NB222_246.out, NB246_222.out, z10_7⟩)
       ·skip
        refine box_step ?hg (N := 6) ?hd (cs := #[.int .i64 0, .int .i64 0, .int .i64 0, .int .i64 0, .slice none 0 0]) (t := 64) ?hr ?_; (case hd => rfl); (case hg => rfl); (case hr => first | (go_simp; done) | (go_simp; rfl))
        intro gb246 hg w44 hbox hb
        have n0_ := Aside0.mk (blk_belowB BK221 z10_1 hb)
        have n1_ := Aside0.mk (blk_belowB BK222 z10_2 hb)
        have n2_ := Aside0.mk (below_step z10_9 hb)
        have n3_ := Aside0.mk (hbox)
        have n4_ := Aside0.mk ((by rw [hg]; exact (below_size z10_9) : w.heap.size ≤ gb246))
        have n5_ := Aside0.mk ((by rw [hg]; exact (below_size z10_9) : w.heap.size ≤ gb246))
        have n6_ := Aside0.mk ((by rw [hg]; exact Nat.ne_of_lt (blk_ltB BK221 z10_1) : gb221 ≠ gb246))
        have n7_ := Aside0.mk ((by rw [hg]; exact Nat.ne_of_gt (blk_ltB BK221 z10_1) : gb246 ≠ gb221))
        have n8_ := Aside0.mk ((by rw [hg]; exact Nat.ne_of_lt (blk_ltB BK222 z10_2) : gb222 ≠ gb246))
        have n9_ := Aside0.mk ((by rw [hg]; exact Nat.ne_of_gt (blk_ltB BK222 z10_2) : gb246 ≠ gb222))
        clear BK221; clear BK222; clear HB; have BK221 := n0_; have BK222 := n1_; have HB := n2_; have BK246 := n3_; have GW246 := n4_; have GE246 := n5_; have NB221_246 := n6_; have NB246_221 := n7_; have NB222_246 := n8_; have NB246_222 := n9_; clear n0_ n1_ n2_ n3_ n4_ n5_ n6_ n7_ n8_ n9_; clear hb hbox hg
        refine hK.out _ _ ⟨(blk_cell BK221.out 0).trans rfl, (blk_cell BK221.out 1).trans rfl, (blk_cell BK221.out 2).trans rfl, (blk_cell BK221.out 3).trans rfl, (blk_cell BK221.out 4).trans rfl, (blk_cell BK222.out 0).trans rfl, (blk_cell BK222.out 1).trans rfl, (blk_cell BK222.out 2).trans rfl, (blk_cell BK222.out 3).trans rfl, (blk_cell BK222.out 4).trans rfl⟩ (fun hHeld => ?_)
        clear hK K
        refine norm_ (a' := ?_) ?_ ?_
        rotate_left
        ·show Act.put _ (some 6) _ = _
         simp only [Act.put, List.setIfInBounds_toArray, List.set_cons_zero, List.set_cons_succ, i64_w, i32_w]
         rfl
        refine one_ (i := 1) (N := some 25) #[true, true, true, false, false, true, false] rfl rfl (by kernel_rfl) (by decide) (fun K hK => ?_)
        refine goes_ Try.func32 (by kernel_rfl) rfl #[.agg #[.int .i64 a0_0, .int .i64 a0_1, .int .i64 a0_2, .int .i64 a0_3, .slice A0_4 l0_4.length c0_4]] (by rfl) rfl rfl z10_6 ?_
        with_reducible refine (laws_toMask.calls k a0_0 a0_1 a0_2 a0_3 _ _ l0_4 t225 t226 t227 t228 t229 _ ?side1 ?side2 A19.out).mono ?_
        (case side1 => exact z10_22)
        (case side2 => exact HC0_4.out)
        rintro e w45 ⟨v230, rfl, ho0, hb⟩
        refine ⟨_, rfl, ?_⟩
        have n0_ := Aside0.mk (Kd.R_lower ho0 (below_size z10_7))
        have n1_ := Aside0.mk (blk_belowB BK221 z10_1 hb)
        have n2_ := Aside0.mk (blk_belowB BK222 z10_2 hb)
        have n3_ := Aside0.mk (blk_belowB BK246 z10_5 hb)
        have n4_ := Aside0.mk (below_step z10_7 hb)
        clear BK221; clear BK222; clear BK246; clear HB; have HO231 := n0_; have BK221 := n1_; have BK222 := n2_; have BK246 := n3_; have HB := n4_; clear n0_ n1_ n2_ n3_ n4_; (try clear hb); (try clear hb2); (try clear hk); (try clear hi); (try clear ho0)
        refine hK.out _ _ ⟨(blk_cell BK221.out 0).trans rfl, (blk_cell BK221.out 1).trans rfl, (blk_cell BK221.out 2).trans rfl, (blk_cell BK221.out 3).trans rfl, (blk_cell BK221.out 4).trans rfl, (blk_cell BK222.out 0).trans rfl, (blk_cell BK222.out 1).trans rfl, (blk_cell BK222.out 2).trans rfl, (blk_cell BK222.out 3).trans rfl, (blk_cell BK222.out 4).trans rfl⟩ (fun hHeld => ?_)
        clear hK K
        refine norm_ (a' := ?_) ?_ ?_
        rotate_left
        ·show Act.put _ (some 25) _ = _
         simp only [Act.put, List.setIfInBounds_toArray, List.set_cons_zero, List.set_cons_succ, i64_w, i32_w]
         rfl
        refine one_ (i := 3) (N := some 27) #[true, true, true, true, false, true, false] rfl rfl (by kernel_rfl) (by decide) (fun K hK => ?_)
        refine goes_ Try.func32 (by kernel_rfl) rfl #[.agg #[.int .i64 a1_0, .int .i64 a1_1, .int .i64 a1_2, .int .i64 a1_3, .slice A1_4 l1_4.length c1_4]] (by rfl) rfl rfl z10_6 ?_
        with_reducible refine (laws_toMask.calls k a1_0 a1_1 a1_2 a1_3 _ _ l1_4 t232 t233 t234 t235 t236 _ ?side1 ?side2 A20.out).mono ?_
        (case side1 => exact z10_19)
        (case side2 => exact HC1_4.out)
        rintro e w46 ⟨v237, rfl, ho0, hb⟩
        refine ⟨_, rfl, ?_⟩
        have n0_ := Aside0.mk (Kd.R_elder' z10_12 (Kd.R_base ho0) hb)
        have n1_ := Aside0.mk (Kd.R_lower (Kd.R_new' ho0 (Kd.R_lt z10_12)) (below_size z10_7))
        have n2_ := Aside0.mk (blk_belowB BK221 z10_1 hb)
        have n3_ := Aside0.mk (blk_belowB BK222 z10_2 hb)
        have n4_ := Aside0.mk (blk_belowB BK246 z10_5 hb)
        have n5_ := Aside0.mk (below_step z10_7 hb)
        clear HO231; clear BK221; clear BK222; clear BK246; clear HB; have HO231 := n0_; have HO238 := n1_; have BK221 := n2_; have BK222 := n3_; have BK246 := n4_; have HB := n5_; clear n0_ n1_ n2_ n3_ n4_ n5_; (try clear hb); (try clear hb2); (try clear hk); (try clear hi); (try clear ho0)
        obtain ⟨Ao47, co47, eo47⟩ := Kd.R_slice HO231.out
        (first | subst eo47 | (injection eo47 with f1_ f2_ f3_; have f4_ := f1_.symm; have f5_ := f3_.symm; clear f1_ f2_ f3_; subst f4_; subst f5_))
        obtain ⟨Ao48, co48, eo48⟩ := Kd.R_slice HO238.out
        (first | subst eo48 | (injection eo48 with f1_ f2_ f3_; have f4_ := f1_.symm; have f5_ := f3_.symm; clear f1_ f2_ f3_; subst f4_; subst f5_))
        refine hK.out _ _ ⟨(blk_cell BK221.out 0).trans rfl, (blk_cell BK221.out 1).trans rfl, (blk_cell BK221.out 2).trans rfl, (blk_cell BK221.out 3).trans rfl, (blk_cell BK221.out 4).trans rfl, (blk_cell BK222.out 0).trans rfl, (blk_cell BK222.out 1).trans rfl, (blk_cell BK222.out 2).trans rfl, (blk_cell BK222.out 3).trans rfl, (blk_cell BK222.out 4).trans rfl⟩ (fun hHeld => ?_)
        clear hK K
        refine norm_ (a' := ?_) ?_ ?_
        rotate_left
        ·show Act.put _ (some 27) _ = _
         simp only [Act.put, List.setIfInBounds_toArray, List.set_cons_zero, List.set_cons_succ, i64_w, i32_w]
         rfl
        refine one_ (i := 4) (N := some 28) #[true, true, true, true, true, true, false] rfl rfl (by kernel_rfl) (by decide) (fun K hK => ?_)
        refine goes_ Try.func54 (by kernel_rfl) rfl #[.agg #[.int .i64 t225, .int .i64 t226, .int .i64 t227, .int .i64 t228, .slice Ao47 t229.length co47], .agg #[.int .i64 t232, .int .i64 t233, .int .i64 t234, .int .i64 t235, .slice Ao48 t236.length co48]] (by rfl) rfl rfl z10_6 ?_
        with_reducible refine (spec_MeetMask.calls k t225 t226 t227 t228 _ _ t229 t232 t233 t234 t235 _ _ t236 t239 t240 t241 t242 t243 _ ?side1 ?side2 ?side3 ?side4 A21.out).mono ?_
        (case side1 => exact z10_56)
        (case side2 => exact (Kd.R_reads' HO231.out).2.1)
        (case side3 => exact z10_57)
        (case side4 => exact (Kd.R_reads' HO238.out).2.1)
        rintro e w49 ⟨v244, rfl, ho0, hb⟩
        refine ⟨_, rfl, ?_⟩
        have n0_ := Aside0.mk (Kd.R_elder' z10_12 (Kd.R_base ho0) hb)
        have n1_ := Aside0.mk (Kd.R_elder' z10_17 (Kd.R_base ho0) hb)
        have n2_ := Aside0.mk (Kd.R_lower (Kd.R_new' (Kd.R_new' ho0 (Kd.R_lt z10_12)) (Kd.R_lt z10_17)) (below_size z10_7))
        have n3_ := Aside0.mk (blk_belowB BK221 z10_1 hb)
        have n4_ := Aside0.mk (blk_belowB BK222 z10_2 hb)
        have n5_ := Aside0.mk (blk_belowB BK246 z10_5 hb)
        have n6_ := Aside0.mk (below_step z10_7 hb)
        clear HO231; clear HO238; clear BK221; clear BK222; clear BK246; clear HB; have HO231 := n0_; have HO238 := n1_; have HO245 := n2_; have BK221 := n3_; have BK222 := n4_; have BK246 := n5_; have HB := n6_; clear n0_ n1_ n2_ n3_ n4_ n5_ n6_; (try clear hb); (try clear hb2); (try clear hk); (try clear hi); (try clear ho0)
        refine hK.out _ _ ⟨(blk_cell BK221.out 0).trans rfl, (blk_cell BK221.out 1).trans rfl, (blk_cell BK221.out 2).trans rfl, (blk_cell BK221.out 3).trans rfl, (blk_cell BK221.out 4).trans rfl, (blk_cell BK222.out 0).trans rfl, (blk_cell BK222.out 1).trans rfl, (blk_cell BK222.out 2).trans rfl, (blk_cell BK222.out 3).trans rfl, (blk_cell BK222.out 4).trans rfl⟩ (fun hHeld => ?_)
        clear hK K
        refine norm_ (a' := ?_) ?_ ?_
        rotate_left
        ·show Act.put _ (some 28) _ = _
         simp only [Act.put, List.setIfInBounds_toArray, List.set_cons_zero, List.set_cons_succ, i64_w, i32_w]
         rfl
        exact norm_ z10_33 (hCont (.slice Ao47 t229.length co47, .slice Ao48 t236.length co48, v244, gb246) _ ⟨hHeld, z10_60, z10_61, z10_62, z10_1, z10_2, z10_5, GW246.out, GE246.out, NB221_246.out, NB246_221.out, NB222_246.out, NB246_222.out, z10_7⟩)
      rintro ⟨v230, v237, v244, gb246⟩ w50 ⟨hS_, h0_, h1_, h2_, h3_, h4_, h5_, h6_, h7_, h8_, h9_, h10_, h11_, h12_⟩
      have n0_ : Aside0 (Kd.R (Kd.int .i64) 3 w50 w.heap.size (fun k_ => some k_ ≠ (v237 : Value).ownBlock ∧ some k_ ≠ (v244 : Value).ownBlock) v230 t229) := ⟨h0_⟩
      have n1_ : Aside0 (Kd.R (Kd.int .i64) 3 w50 w.heap.size (fun k_ => some k_ ≠ (v230 : Value).ownBlock ∧ some k_ ≠ (v244 : Value).ownBlock) v237 t236) := ⟨h1_⟩
      have n2_ : Aside0 (Kd.R (Kd.int .i64) 3 w50 w.heap.size (fun k_ => some k_ ≠ (v230 : Value).ownBlock ∧ some k_ ≠ (v237 : Value).ownBlock) v244 t243) := ⟨h2_⟩
      have n3_ : Aside0 (w50.heap[gb221]? = some (.cells #[.int .i64 a0_0, .int .i64 a0_1, .int .i64 a0_2, .int .i64 a0_3, .slice A0_4 l0_4.length c0_4] 59 (0, 0))) := ⟨h3_⟩
      have n4_ : Aside0 (w50.heap[gb222]? = some (.cells #[.int .i64 a1_0, .int .i64 a1_1, .int .i64 a1_2, .int .i64 a1_3, .slice A1_4 l1_4.length c1_4] 59 (0, 0))) := ⟨h4_⟩
      have n5_ : Aside0 (w50.heap[gb246]? = some (.cells #[.int .i64 0, .int .i64 0, .int .i64 0, .int .i64 0, .slice none 0 0] 64 (0, 0))) := ⟨h5_⟩
      have n6_ : Aside0 (w.heap.size ≤ gb246) := ⟨h6_⟩
      have n7_ : Aside0 (w.heap.size ≤ gb246) := ⟨h7_⟩
      have n8_ : Aside0 (gb221 ≠ gb246) := ⟨h8_⟩
      have n9_ : Aside0 (gb246 ≠ gb221) := ⟨h9_⟩
      have n10_ : Aside0 (gb222 ≠ gb246) := ⟨h10_⟩
      have n11_ : Aside0 (gb246 ≠ gb222) := ⟨h11_⟩
      have n12_ : Aside0 (Below w.heap.size w w50) := ⟨h12_⟩
      clear BK221; clear BK222; clear HB; clear h0_ h1_ h2_ h3_ h4_ h5_ h6_ h7_ h8_ h9_ h10_ h11_ h12_; have HO231 := n0_; have HO238 := n1_; have HO245 := n2_; have BK221 := n3_; have BK222 := n4_; have BK246 := n5_; have GW246 := n6_; have GE246 := n7_; have NB221_246 := n8_; have NB246_221 := n9_; have NB222_246 := n10_; have NB246_222 := n11_; have HB := n12_; clear n0_ n1_ n2_ n3_ n4_ n5_ n6_ n7_ n8_ n9_ n10_ n11_ n12_
      have hHeld : w50.cell? ⟨gb221, 0, none⟩ = some (.int .i64 a0_0) ∧ w50.cell? ⟨gb221, 1, none⟩ = some (.int .i64 a0_1) ∧ w50.cell? ⟨gb221, 2, none⟩ = some (.int .i64 a0_2) ∧ w50.cell? ⟨gb221, 3, none⟩ = some (.int .i64 a0_3) ∧ w50.cell? ⟨gb221, 4, none⟩ = some (.slice A0_4 l0_4.length c0_4) ∧ w50.cell? ⟨gb222, 0, none⟩ = some (.int .i64 a1_0) ∧ w50.cell? ⟨gb222, 1, none⟩ = some (.int .i64 a1_1) ∧ w50.cell? ⟨gb222, 2, none⟩ = some (.int .i64 a1_2) ∧ w50.cell? ⟨gb222, 3, none⟩ = some (.int .i64 a1_3) ∧ w50.cell? ⟨gb222, 4, none⟩ = some (.slice A1_4 l1_4.length c1_4) := hS_
      obtain ⟨Ao55, co55, eo55⟩ := Kd.R_slice HO245.out
      (first | subst eo55 | (injection eo55 with f1_ f2_ f3_; have f4_ := f1_.symm; have f5_ := f3_.symm; clear f1_ f2_ f3_; subst f4_; subst f5_))
      refine norm_ (a' := ?_) ?_ ?_
      rotate_left
      ·simp only [putAll, Act.put, List.setIfInBounds_toArray, List.set_cons_zero, List.set_cons_succ]
       rfl
      refine one_ (i := 6) (N := none) #[true, true, true, true, true, true, true] rfl rfl (by kernel_rfl) (by decide) (fun K hK => ?_)
      have hs51 : w50.cell? ⟨gb246, 0, none⟩ = some (.int .i64 0) := (blk_cell BK246.out 0).trans rfl
      have hfs51 := blk_frozen BK246.out 0
      have hns51_0 := NB221_246.out; have hns51_1 := NB222_246.out; have hms51_0 := NB246_221.out; have hms51_1 := NB246_222.out
      have hs52 : w50.cell? ⟨gb246, 1, none⟩ = some (.int .i64 0) := (blk_cell BK246.out 1).trans rfl
      have hfs52 := blk_frozen BK246.out 1
      have hns52_0 := NB221_246.out; have hns52_1 := NB222_246.out; have hms52_0 := NB246_221.out; have hms52_1 := NB246_222.out
      have hs53 : w50.cell? ⟨gb246, 2, none⟩ = some (.int .i64 0) := (blk_cell BK246.out 2).trans rfl
      have hfs53 := blk_frozen BK246.out 2
      have hns53_0 := NB221_246.out; have hns53_1 := NB222_246.out; have hms53_0 := NB246_221.out; have hms53_1 := NB246_222.out
      have hs54 : w50.cell? ⟨gb246, 3, none⟩ = some (.int .i64 0) := (blk_cell BK246.out 3).trans rfl
      have hfs54 := blk_frozen BK246.out 3
      have hns54_0 := NB221_246.out; have hns54_1 := NB222_246.out; have hms54_0 := NB246_221.out; have hms54_1 := NB246_222.out
      have hs56 : w50.cell? ⟨gb246, 4, none⟩ = some (.slice none 0 0) := (blk_cell BK246.out 4).trans rfl
      have hfs56 := blk_frozen BK246.out 4
      have hns56_0 := NB221_246.out; have hns56_1 := NB222_246.out; have hms56_0 := NB246_221.out; have hms56_1 := NB246_222.out
      refine skip_ (w1 := ?_) (by rfl) rfl ?_ ?_
      rotate_left
      ·go_simp
       rfl
      refine hK.out _ _ ⟨((cell_far (p := ⟨gb246, _, none⟩) NB221_246.out _).trans (((cell_far (p := ⟨gb246, _, none⟩) NB221_246.out _).trans (((cell_far (p := ⟨gb246, _, none⟩) NB221_246.out _).trans (((cell_far (p := ⟨gb246, _, none⟩) NB221_246.out _).trans (((cell_far (p := ⟨gb246, _, none⟩) NB221_246.out _).trans (hHeld.1)))))))))), ((cell_far (p := ⟨gb246, _, none⟩) NB221_246.out _).trans (((cell_far (p := ⟨gb246, _, none⟩) NB221_246.out _).trans (((cell_far (p := ⟨gb246, _, none⟩) NB221_246.out _).trans (((cell_far (p := ⟨gb246, _, none⟩) NB221_246.out _).trans (((cell_far (p := ⟨gb246, _, none⟩) NB221_246.out _).trans (hHeld.2.1)))))))))), ((cell_far (p := ⟨gb246, _, none⟩) NB221_246.out _).trans (((cell_far (p := ⟨gb246, _, none⟩) NB221_246.out _).trans (((cell_far (p := ⟨gb246, _, none⟩) NB221_246.out _).trans (((cell_far (p := ⟨gb246, _, none⟩) NB221_246.out _).trans (((cell_far (p := ⟨gb246, _, none⟩) NB221_246.out _).trans (hHeld.2.2.1)))))))))), ((cell_far (p := ⟨gb246, _, none⟩) NB221_246.out _).trans (((cell_far (p := ⟨gb246, _, none⟩) NB221_246.out _).trans (((cell_far (p := ⟨gb246, _, none⟩) NB221_246.out _).trans (((cell_far (p := ⟨gb246, _, none⟩) NB221_246.out _).trans (((cell_far (p := ⟨gb246, _, none⟩) NB221_246.out _).trans (hHeld.2.2.2.1)))))))))), ((cell_far (p := ⟨gb246, _, none⟩) NB221_246.out _).trans (((cell_far (p := ⟨gb246, _, none⟩) NB221_246.out _).trans (((cell_far (p := ⟨gb246, _, none⟩) NB221_246.out _).trans (((cell_far (p := ⟨gb246, _, none⟩) NB221_246.out _).trans (((cell_far (p := ⟨gb246, _, none⟩) NB221_246.out _).trans (hHeld.2.2.2.2.1)))))))))), ((cell_far (p := ⟨gb246, _, none⟩) NB222_246.out _).trans (((cell_far (p := ⟨gb246, _, none⟩) NB222_246.out _).trans (((cell_far (p := ⟨gb246, _, none⟩) NB222_246.out _).trans (((cell_far (p := ⟨gb246, _, none⟩) NB222_246.out _).trans (((cell_far (p := ⟨gb246, _, none⟩) NB222_246.out _).trans (hHeld.2.2.2.2.2.1)))))))))), ((cell_far (p := ⟨gb246, _, none⟩) NB222_246.out _).trans (((cell_far (p := ⟨gb246, _, none⟩) NB222_246.out _).trans (((cell_far (p := ⟨gb246, _, none⟩) NB222_246.out _).trans (((cell_far (p := ⟨gb246, _, none⟩) NB222_246.out _).trans (((cell_far (p := ⟨gb246, _, none⟩) NB222_246.out _).trans (hHeld.2.2.2.2.2.2.1)))))))))), ((cell_far (p := ⟨gb246, _, none⟩) NB222_246.out _).trans (((cell_far (p := ⟨gb246, _, none⟩) NB222_246.out _).trans (((cell_far (p := ⟨gb246, _, none⟩) NB222_246.out _).trans (((cell_far (p := ⟨gb246, _, none⟩) NB222_246.out _).trans (((cell_far (p := ⟨gb246, _, none⟩) NB222_246.out _).trans (hHeld.2.2.2.2.2.2.2.1)))))))))), ((cell_far (p := ⟨gb246, _, none⟩) NB222_246.out _).trans (((cell_far (p := ⟨gb246, _, none⟩) NB222_246.out _).trans (((cell_far (p := ⟨gb246, _, none⟩) NB222_246.out _).trans (((cell_far (p := ⟨gb246, _, none⟩) NB222_246.out _).trans (((cell_far (p := ⟨gb246, _, none⟩) NB222_246.out _).trans (hHeld.2.2.2.2.2.2.2.2.1)))))))))), ((cell_far (p := ⟨gb246, _, none⟩) NB222_246.out _).trans (((cell_far (p := ⟨gb246, _, none⟩) NB222_246.out _).trans (((cell_far (p := ⟨gb246, _, none⟩) NB222_246.out _).trans (((cell_far (p := ⟨gb246, _, none⟩) NB222_246.out _).trans (((cell_far (p := ⟨gb246, _, none⟩) NB222_246.out _).trans (hHeld.2.2.2.2.2.2.2.2.2))))))))))⟩ (fun hHeld => ?_)
      clear hK K
      refine done_ (by kernel_rfl) ?_
      have hnb57 := NB221_246.out; have hnc57 := NB246_221.out
      obtain ⟨_, _, _, _, _, _, _, _, _, _⟩ := be_5 BK221.out
      try go_wp2_with (first | ((with_reducible refine gate_callee (f := 32) rfl ?_); refine goesL_ (some 30) rfl rfl Try.func32 (by kernel_rfl) rfl #[.agg #[.int .i64 a0_0, .int .i64 a0_1, .int .i64 a0_2, .int .i64 a0_3, .slice A0_4 l0_4.length c0_4]] rfl z10_6 ?_; (with_reducible refine (laws_toMask.calls k a0_0 a0_1 a0_2 a0_3 _ _ l0_4 t247 t248 t249 t250 t251 _ ?side1 ?side2 A22.out).mono ?_); (case side1 => exact Kd.C_below HR0_4.out z10_7); (case side2 => exact HC0_4.out); rintro e w59 ⟨v252, rfl, ho0, hb⟩; refine ⟨_, rfl, ?_⟩; have n0_ := Aside0.mk (Kd.R_elder' z10_44 (Kd.R_base ho0) hb); have n1_ := Aside0.mk (Kd.R_elder' z10_45 (Kd.R_base ho0) hb); have n2_ := Aside0.mk (Kd.R_elder' z10_46 (Kd.R_base ho0) hb); have n3_ := Aside0.mk (Kd.R_lower (Kd.R_new' (Kd.R_new' (Kd.R_new' ho0 (Kd.R_lt z10_44)) (Kd.R_lt z10_45)) (Kd.R_lt z10_46)) (below_size z10_7)); have n4_ := Aside0.mk (blk_belowB BK221 (by (with_reducible repeat (first | refine blk_drewN ?_ _ | refine blk_drew ?_ | refine blk_alloc ?_ _)); refine blk_far ?_ NB221_246.out _; (with_reducible repeat (first | refine blk_drewN ?_ _ | refine blk_drew ?_ | refine blk_alloc ?_ _)); refine blk_far ?_ NB221_246.out _; (with_reducible repeat (first | refine blk_drewN ?_ _ | refine blk_drew ?_ | refine blk_alloc ?_ _)); refine blk_far ?_ NB221_246.out _; (with_reducible repeat (first | refine blk_drewN ?_ _ | refine blk_drew ?_ | refine blk_alloc ?_ _)); refine blk_far ?_ NB221_246.out _; (with_reducible repeat (first | refine blk_drewN ?_ _ | refine blk_drew ?_ | refine blk_alloc ?_ _)); refine blk_far ?_ NB221_246.out _; (with_reducible repeat (first | refine blk_drewN ?_ _ | refine blk_drew ?_ | refine blk_alloc ?_ _)); exact BK221.out) hb); have n5_ := Aside0.mk (blk_belowB BK222 (by (with_reducible repeat (first | refine blk_drewN ?_ _ | refine blk_drew ?_ | refine blk_alloc ?_ _)); refine blk_far ?_ NB222_246.out _; (with_reducible repeat (first | refine blk_drewN ?_ _ | refine blk_drew ?_ | refine blk_alloc ?_ _)); refine blk_far ?_ NB222_246.out _; (with_reducible repeat (first | refine blk_drewN ?_ _ | refine blk_drew ?_ | refine blk_alloc ?_ _)); refine blk_far ?_ NB222_246.out _; (with_reducible repeat (first | refine blk_drewN ?_ _ | refine blk_drew ?_ | refine blk_alloc ?_ _)); refine blk_far ?_ NB222_246.out _; (with_reducible repeat (first | refine blk_drewN ?_ _ | refine blk_drew ?_ | refine blk_alloc ?_ _)); refine blk_far ?_ NB222_246.out _; (with_reducible repeat (first | refine blk_drewN ?_ _ | refine blk_drew ?_ | refine blk_alloc ?_ _)); exact BK222.out) hb); have n6_ := Aside0.mk (blk_below (g := gb246) (o := .cells #[.int .i64 t239, .int .i64 t240, .int .i64 t241, .int .i64 t242, .slice Ao55 t243.length co55] 64 (0, 0)) (by apply blk_fin; (focus ((with_reducible repeat (first | apply blk_putQ | refine blk_drewN ?_ _ | refine blk_drew ?_ | refine blk_alloc ?_ _)); exact BK246.out)); first | (simp only [List.setIfInBounds_toArray, List.set_cons_zero, List.set_cons_succ]; done) | rfl) hb); have n7_ := Aside0.mk (below_step z10_7 hb); clear HO231; clear HO238; clear HO245; clear BK221; clear BK222; clear BK246; clear HB; have HO231 := n0_; have HO238 := n1_; have HO245 := n2_; have HO253 := n3_; have BK221 := n4_; have BK222 := n5_; have BK246 := n6_; have HB := n7_; clear n0_ n1_ n2_ n3_ n4_ n5_ n6_ n7_; (try clear hb); (try clear hk); (try clear ho0)) | ((with_reducible refine gate_dst (N := 7) rfl ?_); refine boxz (cs := #[.int .i64 0, .int .i64 0, .int .i64 0, .int .i64 0, .slice none 0 0]) (t := 64) rfl ?_; intro gb254 hg w60 hbox hb; have n0_ := Aside0.mk (Kd.R_below z10_12 hb); have n1_ := Aside0.mk (Kd.R_below z10_17 hb); have n2_ := Aside0.mk (Kd.R_below z10_26 hb); have n3_ := Aside0.mk (Kd.R_below z10_30 hb); have n4_ := Aside0.mk (blk_belowB BK221 z10_1 hb); have n5_ := Aside0.mk (blk_belowB BK222 z10_2 hb); have n6_ := Aside0.mk (blk_belowB BK246 z10_5 hb); have n7_ := Aside0.mk (below_step z10_7 hb); have n8_ := Aside0.mk (hbox); have n9_ := Aside0.mk ((by rw [hg]; exact (below_size z10_7) : w.heap.size ≤ gb254)); have n10_ := Aside0.mk ((by rw [hg]; exact (below_size z10_7) : w.heap.size ≤ gb254)); have n11_ := Aside0.mk ((by rw [hg]; exact Nat.ne_of_lt (blk_ltB BK221 z10_1) : gb221 ≠ gb254)); have n12_ := Aside0.mk ((by rw [hg]; exact Nat.ne_of_gt (blk_ltB BK221 z10_1) : gb254 ≠ gb221)); have n13_ := Aside0.mk ((by rw [hg]; exact Nat.ne_of_lt (blk_ltB BK222 z10_2) : gb222 ≠ gb254)); have n14_ := Aside0.mk ((by rw [hg]; exact Nat.ne_of_gt (blk_ltB BK222 z10_2) : gb254 ≠ gb222)); have n15_ := Aside0.mk ((by rw [hg]; exact Nat.ne_of_lt (blk_ltB BK246 z10_5) : gb246 ≠ gb254)); have n16_ := Aside0.mk ((by rw [hg]; exact Nat.ne_of_gt (blk_ltB BK246 z10_5) : gb254 ≠ gb246)); clear HO231; clear HO238; clear HO245; clear HO253; clear BK221; clear BK222; clear BK246; clear HB; have HO231 := n0_; have HO238 := n1_; have HO245 := n2_; have HO253 := n3_; have BK221 := n4_; have BK222 := n5_; have BK246 := n6_; have HB := n7_; have BK254 := n8_; have GW254 := n9_; have GE254 := n10_; have NB221_254 := n11_; have NB254_221 := n12_; have NB222_254 := n13_; have NB254_222 := n14_; have NB246_254 := n15_; have NB254_246 := n16_; clear n0_ n1_ n2_ n3_ n4_ n5_ n6_ n7_ n8_ n9_ n10_ n11_ n12_ n13_ n14_ n15_ n16_; clear hb hbox hg; have hnb61 := NB254_221.out; have hnc61 := NB221_254.out; have hnb62 := NB254_222.out; have hnc62 := NB222_254.out; have hnb63 := NB254_246.out; have hnc63 := NB246_254.out; obtain ⟨_, _, _, _, _, _, _, _, _, _⟩ := be_5 BK254.out; obtain ⟨Ao65, co65, eo65⟩ := Kd.R_slice HO253.out; subst eo65; have hnb66 := NB222_246.out; have hnc66 := NB246_222.out; obtain ⟨_, _, _, _, _, _, _, _, _, _⟩ := be_5 BK222.out) | ((with_reducible refine gate_callee (f := 32) rfl ?_); refine goesL_ (some 32) rfl rfl Try.func32 (by kernel_rfl) rfl #[.agg #[.int .i64 a1_0, .int .i64 a1_1, .int .i64 a1_2, .int .i64 a1_3, .slice A1_4 l1_4.length c1_4]] rfl z10_6 ?_; (with_reducible refine (laws_toMask.calls k a1_0 a1_1 a1_2 a1_3 _ _ l1_4 t255 t256 t257 t258 t259 _ ?side1 ?side2 A23.out).mono ?_); (case side1 => exact Kd.C_below HR1_4.out z10_21); (case side2 => exact HC1_4.out); rintro e w68 ⟨v260, rfl, ho0, hb⟩; refine ⟨_, rfl, ?_⟩; have n0_ := Aside0.mk (Kd.R_elder' z10_47 (Kd.R_base ho0) hb); have n1_ := Aside0.mk (Kd.R_elder' z10_48 (Kd.R_base ho0) hb); have n2_ := Aside0.mk (Kd.R_elder' z10_49 (Kd.R_base ho0) hb); have n3_ := Aside0.mk (Kd.R_elder' z10_50 (Kd.R_base ho0) hb); have n4_ := Aside0.mk (Kd.R_lower (Kd.R_new' (Kd.R_new' (Kd.R_new' (Kd.R_new' ho0 (Kd.R_lt z10_47)) (Kd.R_lt z10_48)) (Kd.R_lt z10_49)) (Kd.R_lt z10_50)) (below_size z10_21)); have n5_ := Aside0.mk (blk_belowB BK221 (by (with_reducible repeat (first | refine blk_drewN ?_ _ | refine blk_drew ?_ | refine blk_alloc ?_ _)); refine blk_far ?_ NB221_254.out _; (with_reducible repeat (first | refine blk_drewN ?_ _ | refine blk_drew ?_ | refine blk_alloc ?_ _)); refine blk_far ?_ NB221_254.out _; (with_reducible repeat (first | refine blk_drewN ?_ _ | refine blk_drew ?_ | refine blk_alloc ?_ _)); refine blk_far ?_ NB221_254.out _; (with_reducible repeat (first | refine blk_drewN ?_ _ | refine blk_drew ?_ | refine blk_alloc ?_ _)); refine blk_far ?_ NB221_254.out _; (with_reducible repeat (first | refine blk_drewN ?_ _ | refine blk_drew ?_ | refine blk_alloc ?_ _)); refine blk_far ?_ NB221_254.out _; (with_reducible repeat (first | refine blk_drewN ?_ _ | refine blk_drew ?_ | refine blk_alloc ?_ _)); exact BK221.out) hb); have n6_ := Aside0.mk (blk_belowB BK222 (by (with_reducible repeat (first | refine blk_drewN ?_ _ | refine blk_drew ?_ | refine blk_alloc ?_ _)); refine blk_far ?_ NB222_254.out _; (with_reducible repeat (first | refine blk_drewN ?_ _ | refine blk_drew ?_ | refine blk_alloc ?_ _)); refine blk_far ?_ NB222_254.out _; (with_reducible repeat (first | refine blk_drewN ?_ _ | refine blk_drew ?_ | refine blk_alloc ?_ _)); refine blk_far ?_ NB222_254.out _; (with_reducible repeat (first | refine blk_drewN ?_ _ | refine blk_drew ?_ | refine blk_alloc ?_ _)); refine blk_far ?_ NB222_254.out _; (with_reducible repeat (first | refine blk_drewN ?_ _ | refine blk_drew ?_ | refine blk_alloc ?_ _)); refine blk_far ?_ NB222_254.out _; (with_reducible repeat (first | refine blk_drewN ?_ _ | refine blk_drew ?_ | refine blk_alloc ?_ _)); exact BK222.out) hb); have n7_ := Aside0.mk (blk_belowB BK246 (by (with_reducible repeat (first | refine blk_drewN ?_ _ | refine blk_drew ?_ | refine blk_alloc ?_ _)); refine blk_far ?_ NB246_254.out _; (with_reducible repeat (first | refine blk_drewN ?_ _ | refine blk_drew ?_ | refine blk_alloc ?_ _)); refine blk_far ?_ NB246_254.out _; (with_reducible repeat (first | refine blk_drewN ?_ _ | refine blk_drew ?_ | refine blk_alloc ?_ _)); refine blk_far ?_ NB246_254.out _; (with_reducible repeat (first | refine blk_drewN ?_ _ | refine blk_drew ?_ | refine blk_alloc ?_ _)); refine blk_far ?_ NB246_254.out _; (with_reducible repeat (first | refine blk_drewN ?_ _ | refine blk_drew ?_ | refine blk_alloc ?_ _)); refine blk_far ?_ NB246_254.out _; (with_reducible repeat (first | refine blk_drewN ?_ _ | refine blk_drew ?_ | refine blk_alloc ?_ _)); exact BK246.out) hb); have n8_ := Aside0.mk (blk_below (g := gb254) (o := .cells #[.int .i64 t247, .int .i64 t248, .int .i64 t249, .int .i64 t250, .slice Ao65 t251.length co65] 64 (0, 0)) (by apply blk_fin; (focus ((with_reducible repeat (first | apply blk_putQ | refine blk_drewN ?_ _ | refine blk_drew ?_ | refine blk_alloc ?_ _)); exact BK254.out)); first | (simp only [List.setIfInBounds_toArray, List.set_cons_zero, List.set_cons_succ]; done) | rfl) hb); have n9_ := Aside0.mk (below_step z10_21 hb); clear HO231; clear HO238; clear HO245; clear HO253; clear BK221; clear BK222; clear BK246; clear BK254; clear HB; have HO231 := n0_; have HO238 := n1_; have HO245 := n2_; have HO253 := n3_; have HO261 := n4_; have BK221 := n5_; have BK222 := n6_; have BK246 := n7_; have BK254 := n8_; have HB := n9_; clear n0_ n1_ n2_ n3_ n4_ n5_ n6_ n7_ n8_ n9_; (try clear hb); (try clear hk); (try clear ho0)) | ((with_reducible refine gate_dst (N := 8) rfl ?_); refine boxz (cs := #[.int .i64 0, .int .i64 0, .int .i64 0, .int .i64 0, .slice none 0 0]) (t := 64) rfl ?_; intro gb262 hg w69 hbox hb; have n0_ := Aside0.mk (Kd.R_below z10_12 hb); have n1_ := Aside0.mk (Kd.R_below z10_17 hb); have n2_ := Aside0.mk (Kd.R_below z10_26 hb); have n3_ := Aside0.mk (Kd.R_below z10_30 hb); have n4_ := Aside0.mk (Kd.R_below z10_31 hb); have n5_ := Aside0.mk (blk_belowB BK221 z10_1 hb); have n6_ := Aside0.mk (blk_belowB BK222 z10_2 hb); have n7_ := Aside0.mk (blk_belowB BK246 z10_5 hb); have n8_ := Aside0.mk (blk_belowB BK254 z10_8 hb); have n9_ := Aside0.mk (below_step z10_21 hb); have n10_ := Aside0.mk (hbox); have n11_ := Aside0.mk ((by rw [hg]; exact (below_size z10_21) : w.heap.size ≤ gb262)); have n12_ := Aside0.mk ((by rw [hg]; exact (below_size z10_21) : w.heap.size ≤ gb262)); have n13_ := Aside0.mk ((by rw [hg]; exact Nat.ne_of_lt (blk_ltB BK221 z10_1) : gb221 ≠ gb262)); have n14_ := Aside0.mk ((by rw [hg]; exact Nat.ne_of_gt (blk_ltB BK221 z10_1) : gb262 ≠ gb221)); have n15_ := Aside0.mk ((by rw [hg]; exact Nat.ne_of_lt (blk_ltB BK222 z10_2) : gb222 ≠ gb262)); have n16_ := Aside0.mk ((by rw [hg]; exact Nat.ne_of_gt (blk_ltB BK222 z10_2) : gb262 ≠ gb222)); have n17_ := Aside0.mk ((by rw [hg]; exact Nat.ne_of_lt (blk_ltB BK246 z10_5) : gb246 ≠ gb262)); have n18_ := Aside0.mk ((by rw [hg]; exact Nat.ne_of_gt (blk_ltB BK246 z10_5) : gb262 ≠ gb246)); have n19_ := Aside0.mk ((by rw [hg]; exact Nat.ne_of_lt (blk_ltB BK254 z10_8) : gb254 ≠ gb262)); have n20_ := Aside0.mk ((by rw [hg]; exact Nat.ne_of_gt (blk_ltB BK254 z10_8) : gb262 ≠ gb254)); clear HO231; clear HO238; clear HO245; clear HO253; clear HO261; clear BK221; clear BK222; clear BK246; clear BK254; clear HB; have HO231 := n0_; have HO238 := n1_; have HO245 := n2_; have HO253 := n3_; have HO261 := n4_; have BK221 := n5_; have BK222 := n6_; have BK246 := n7_; have BK254 := n8_; have HB := n9_; have BK262 := n10_; have GW262 := n11_; have GE262 := n12_; have NB221_262 := n13_; have NB262_221 := n14_; have NB222_262 := n15_; have NB262_222 := n16_; have NB246_262 := n17_; have NB262_246 := n18_; have NB254_262 := n19_; have NB262_254 := n20_; clear n0_ n1_ n2_ n3_ n4_ n5_ n6_ n7_ n8_ n9_ n10_ n11_ n12_ n13_ n14_ n15_ n16_ n17_ n18_ n19_ n20_; clear hb hbox hg; have hnb70 := NB262_221.out; have hnc70 := NB221_262.out; have hnb71 := NB262_222.out; have hnc71 := NB222_262.out; have hnb72 := NB262_246.out; have hnc72 := NB246_262.out; have hnb73 := NB262_254.out; have hnc73 := NB254_262.out; obtain ⟨_, _, _, _, _, _, _, _, _, _⟩ := be_5 BK262.out; obtain ⟨Ao75, co75, eo75⟩ := Kd.R_slice HO261.out; subst eo75; obtain ⟨_, _, _, _, _, _, _, _, _, _⟩ := be_5 BK254.out) | ((with_reducible refine gate_callee (f := 55) rfl ?_); refine goesL_ (some 35) rfl rfl Try.func55 (by kernel_rfl) rfl #[.agg #[.int .i64 t247, .int .i64 t248, .int .i64 t249, .int .i64 t250, .slice Ao65 t251.length co65], .agg #[.int .i64 t255, .int .i64 t256, .int .i64 t257, .int .i64 t258, .slice Ao75 t259.length co75]] rfl z10_6 ?_; (with_reducible refine (impl_MeetMask.calls k t247 t248 t249 t250 _ _ t251 t255 t256 t257 t258 _ _ t259 t263 t264 t265 t266 t267 _ ?side1 ?side2 ?side3 ?side4 A24.out).mono ?_); (case side1 => refine (Kd.R_reads' (e := 3) (base := w.heap.size) (ok := fun k_ => ((((True ∧ some k_ ≠ (v230 : Value).ownBlock) ∧ some k_ ≠ (v237 : Value).ownBlock) ∧ some k_ ≠ (.slice Ao55 t243.length co55 : Value).ownBlock) ∧ some k_ ≠ (.slice Ao75 t259.length co75 : Value).ownBlock)) (n := t251.length) (c := co65) ?_).2.2; exact z10_28); (case side2 => exact (Kd.R_reads' HO253.out).2.1); (case side3 => refine (Kd.R_reads' (e := 3) (base := w.heap.size) (ok := fun k_ => ((((True ∧ some k_ ≠ (v230 : Value).ownBlock) ∧ some k_ ≠ (v237 : Value).ownBlock) ∧ some k_ ≠ (.slice Ao55 t243.length co55 : Value).ownBlock) ∧ some k_ ≠ (.slice Ao65 t251.length co65 : Value).ownBlock)) (n := t259.length) (c := co75) ?_).2.2; exact z10_29); (case side4 => exact (Kd.R_reads' HO261.out).2.1); rintro e w77 ⟨v268, rfl, ho0, hb⟩; refine ⟨_, rfl, ?_⟩; have n0_ := Aside0.mk (Kd.R_elder' z10_51 (Kd.R_base ho0) hb); have n1_ := Aside0.mk (Kd.R_elder' z10_52 (Kd.R_base ho0) hb); have n2_ := Aside0.mk (Kd.R_elder' z10_53 (Kd.R_base ho0) hb); have n3_ := Aside0.mk (Kd.R_elder' z10_28 (Kd.R_base ho0) hb); have n4_ := Aside0.mk (Kd.R_elder' z10_29 (Kd.R_base ho0) hb); have n5_ := Aside0.mk (Kd.R_lower (Kd.R_new' (Kd.R_new' (Kd.R_new' (Kd.R_new' (Kd.R_new' ho0 (Kd.R_lt z10_51)) (Kd.R_lt z10_52)) (Kd.R_lt z10_53)) (Kd.R_lt z10_28)) (Kd.R_lt z10_29)) (below_size z10_24)); have n6_ := Aside0.mk (blk_belowB BK221 (by (with_reducible repeat (first | refine blk_drewN ?_ _ | refine blk_drew ?_ | refine blk_alloc ?_ _)); refine blk_far ?_ NB221_262.out _; (with_reducible repeat (first | refine blk_drewN ?_ _ | refine blk_drew ?_ | refine blk_alloc ?_ _)); refine blk_far ?_ NB221_262.out _; (with_reducible repeat (first | refine blk_drewN ?_ _ | refine blk_drew ?_ | refine blk_alloc ?_ _)); refine blk_far ?_ NB221_262.out _; (with_reducible repeat (first | refine blk_drewN ?_ _ | refine blk_drew ?_ | refine blk_alloc ?_ _)); refine blk_far ?_ NB221_262.out _; (with_reducible repeat (first | refine blk_drewN ?_ _ | refine blk_drew ?_ | refine blk_alloc ?_ _)); refine blk_far ?_ NB221_262.out _; (with_reducible repeat (first | refine blk_drewN ?_ _ | refine blk_drew ?_ | refine blk_alloc ?_ _)); exact BK221.out) hb); have n7_ := Aside0.mk (blk_belowB BK222 (by (with_reducible repeat (first | refine blk_drewN ?_ _ | refine blk_drew ?_ | refine blk_alloc ?_ _)); refine blk_far ?_ NB222_262.out _; (with_reducible repeat (first | refine blk_drewN ?_ _ | refine blk_drew ?_ | refine blk_alloc ?_ _)); refine blk_far ?_ NB222_262.out _; (with_reducible repeat (first | refine blk_drewN ?_ _ | refine blk_drew ?_ | refine blk_alloc ?_ _)); refine blk_far ?_ NB222_262.out _; (with_reducible repeat (first | refine blk_drewN ?_ _ | refine blk_drew ?_ | refine blk_alloc ?_ _)); refine blk_far ?_ NB222_262.out _; (with_reducible repeat (first | refine blk_drewN ?_ _ | refine blk_drew ?_ | refine blk_alloc ?_ _)); refine blk_far ?_ NB222_262.out _; (with_reducible repeat (first | refine blk_drewN ?_ _ | refine blk_drew ?_ | refine blk_alloc ?_ _)); exact BK222.out) hb); have n8_ := Aside0.mk (blk_belowB BK246 (by (with_reducible repeat (first | refine blk_drewN ?_ _ | refine blk_drew ?_ | refine blk_alloc ?_ _)); refine blk_far ?_ NB246_262.out _; (with_reducible repeat (first | refine blk_drewN ?_ _ | refine blk_drew ?_ | refine blk_alloc ?_ _)); refine blk_far ?_ NB246_262.out _; (with_reducible repeat (first | refine blk_drewN ?_ _ | refine blk_drew ?_ | refine blk_alloc ?_ _)); refine blk_far ?_ NB246_262.out _; (with_reducible repeat (first | refine blk_drewN ?_ _ | refine blk_drew ?_ | refine blk_alloc ?_ _)); refine blk_far ?_ NB246_262.out _; (with_reducible repeat (first | refine blk_drewN ?_ _ | refine blk_drew ?_ | refine blk_alloc ?_ _)); refine blk_far ?_ NB246_262.out _; (with_reducible repeat (first | refine blk_drewN ?_ _ | refine blk_drew ?_ | refine blk_alloc ?_ _)); exact BK246.out) hb); have n9_ := Aside0.mk (blk_belowB BK254 (by (with_reducible repeat (first | refine blk_drewN ?_ _ | refine blk_drew ?_ | refine blk_alloc ?_ _)); refine blk_far ?_ NB254_262.out _; (with_reducible repeat (first | refine blk_drewN ?_ _ | refine blk_drew ?_ | refine blk_alloc ?_ _)); refine blk_far ?_ NB254_262.out _; (with_reducible repeat (first | refine blk_drewN ?_ _ | refine blk_drew ?_ | refine blk_alloc ?_ _)); refine blk_far ?_ NB254_262.out _; (with_reducible repeat (first | refine blk_drewN ?_ _ | refine blk_drew ?_ | refine blk_alloc ?_ _)); refine blk_far ?_ NB254_262.out _; (with_reducible repeat (first | refine blk_drewN ?_ _ | refine blk_drew ?_ | refine blk_alloc ?_ _)); refine blk_far ?_ NB254_262.out _; (with_reducible repeat (first | refine blk_drewN ?_ _ | refine blk_drew ?_ | refine blk_alloc ?_ _)); exact BK254.out) hb); have n10_ := Aside0.mk (blk_below (g := gb262) (o := .cells #[.int .i64 t255, .int .i64 t256, .int .i64 t257, .int .i64 t258, .slice Ao75 t259.length co75] 64 (0, 0)) (by apply blk_fin; (focus ((with_reducible repeat (first | apply blk_putQ | refine blk_drewN ?_ _ | refine blk_drew ?_ | refine blk_alloc ?_ _)); exact BK262.out)); first | (simp only [List.setIfInBounds_toArray, List.set_cons_zero, List.set_cons_succ]; done) | rfl) hb); have n11_ := Aside0.mk (below_step z10_24 hb); clear HO231; clear HO238; clear HO245; clear HO253; clear HO261; clear BK221; clear BK222; clear BK246; clear BK254; clear BK262; clear HB; have HO231 := n0_; have HO238 := n1_; have HO245 := n2_; have HO253 := n3_; have HO261 := n4_; have HO269 := n5_; have BK221 := n6_; have BK222 := n7_; have BK246 := n8_; have BK254 := n9_; have BK262 := n10_; have HB := n11_; clear n0_ n1_ n2_ n3_ n4_ n5_ n6_ n7_ n8_ n9_ n10_ n11_; (try clear hb); (try clear hk); (try clear ho0)) | ((with_reducible refine gate_dst (N := 9) rfl ?_); refine boxz (cs := #[.int .i64 0, .int .i64 0, .int .i64 0, .int .i64 0, .slice none 0 0]) (t := 64) rfl ?_; intro gb270 hg w78 hbox hb; have n0_ := Aside0.mk (Kd.R_below z10_12 hb); have n1_ := Aside0.mk (Kd.R_below z10_17 hb); have n2_ := Aside0.mk (Kd.R_below z10_26 hb); have n3_ := Aside0.mk (Kd.R_below z10_30 hb); have n4_ := Aside0.mk (Kd.R_below z10_31 hb); have n5_ := Aside0.mk (Kd.R_below z10_32 hb); have n6_ := Aside0.mk (blk_belowB BK221 z10_1 hb); have n7_ := Aside0.mk (blk_belowB BK222 z10_2 hb); have n8_ := Aside0.mk (blk_belowB BK246 z10_5 hb); have n9_ := Aside0.mk (blk_belowB BK254 z10_8 hb); have n10_ := Aside0.mk (blk_belowB BK262 z10_10 hb); have n11_ := Aside0.mk (below_step z10_24 hb); have n12_ := Aside0.mk (hbox); have n13_ := Aside0.mk ((by rw [hg]; exact (below_size z10_24) : w.heap.size ≤ gb270)); have n14_ := Aside0.mk ((by rw [hg]; exact (below_size z10_24) : w.heap.size ≤ gb270)); have n15_ := Aside0.mk ((by rw [hg]; exact Nat.ne_of_lt (blk_ltB BK221 z10_1) : gb221 ≠ gb270)); have n16_ := Aside0.mk ((by rw [hg]; exact Nat.ne_of_gt (blk_ltB BK221 z10_1) : gb270 ≠ gb221)); have n17_ := Aside0.mk ((by rw [hg]; exact Nat.ne_of_lt (blk_ltB BK222 z10_2) : gb222 ≠ gb270)); have n18_ := Aside0.mk ((by rw [hg]; exact Nat.ne_of_gt (blk_ltB BK222 z10_2) : gb270 ≠ gb222)); have n19_ := Aside0.mk ((by rw [hg]; exact Nat.ne_of_lt (blk_ltB BK246 z10_5) : gb246 ≠ gb270)); have n20_ := Aside0.mk ((by rw [hg]; exact Nat.ne_of_gt (blk_ltB BK246 z10_5) : gb270 ≠ gb246)); have n21_ := Aside0.mk ((by rw [hg]; exact Nat.ne_of_lt (blk_ltB BK254 z10_8) : gb254 ≠ gb270)); have n22_ := Aside0.mk ((by rw [hg]; exact Nat.ne_of_gt (blk_ltB BK254 z10_8) : gb270 ≠ gb254)); have n23_ := Aside0.mk ((by rw [hg]; exact Nat.ne_of_lt (blk_ltB BK262 z10_10) : gb262 ≠ gb270)); have n24_ := Aside0.mk ((by rw [hg]; exact Nat.ne_of_gt (blk_ltB BK262 z10_10) : gb270 ≠ gb262)); clear HO231; clear HO238; clear HO245; clear HO253; clear HO261; clear HO269; clear BK221; clear BK222; clear BK246; clear BK254; clear BK262; clear HB; have HO231 := n0_; have HO238 := n1_; have HO245 := n2_; have HO253 := n3_; have HO261 := n4_; have HO269 := n5_; have BK221 := n6_; have BK222 := n7_; have BK246 := n8_; have BK254 := n9_; have BK262 := n10_; have HB := n11_; have BK270 := n12_; have GW270 := n13_; have GE270 := n14_; have NB221_270 := n15_; have NB270_221 := n16_; have NB222_270 := n17_; have NB270_222 := n18_; have NB246_270 := n19_; have NB270_246 := n20_; have NB254_270 := n21_; have NB270_254 := n22_; have NB262_270 := n23_; have NB270_262 := n24_; clear n0_ n1_ n2_ n3_ n4_ n5_ n6_ n7_ n8_ n9_ n10_ n11_ n12_ n13_ n14_ n15_ n16_ n17_ n18_ n19_ n20_ n21_ n22_ n23_ n24_; clear hb hbox hg; have hnb79 := NB270_221.out; have hnc79 := NB221_270.out; have hnb80 := NB270_222.out; have hnc80 := NB222_270.out; have hnb81 := NB270_246.out; have hnc81 := NB246_270.out; have hnb82 := NB270_254.out; have hnc82 := NB254_270.out; have hnb83 := NB270_262.out; have hnc83 := NB262_270.out; obtain ⟨_, _, _, _, _, _, _, _, _, _⟩ := be_5 BK270.out; obtain ⟨Ao85, co85, eo85⟩ := Kd.R_slice HO269.out; subst eo85; obtain ⟨_, _, _, _, _, _, _, _, _, _⟩ := be_5 BK246.out) | ((with_reducible refine gate_callee (f := 34) rfl ?_); refine goesL_ (some 38) rfl rfl Try.func34 (by kernel_rfl) rfl #[.agg #[.int .i64 t263, .int .i64 t264, .int .i64 t265, .int .i64 t266, .slice Ao85 t267.length co85], .agg #[.int .i64 t239, .int .i64 t240, .int .i64 t241, .int .i64 t242, .slice Ao55 t243.length co55]] rfl z10_6 ?_; (with_reducible refine (laws_eqMask.calls k t263 t264 t265 t266 _ _ t267 t239 t240 t241 t242 _ _ t243 true _ ?side1 ?side2 ?side3 ?side4 A25.out).mono ?_); (case side1 => refine (Kd.R_reads' (e := 3) (base := w.heap.size) (ok := fun k_ => (((((True ∧ some k_ ≠ (v230 : Value).ownBlock) ∧ some k_ ≠ (v237 : Value).ownBlock) ∧ some k_ ≠ (.slice Ao55 t243.length co55 : Value).ownBlock) ∧ some k_ ≠ (.slice Ao65 t251.length co65 : Value).ownBlock) ∧ some k_ ≠ (.slice Ao75 t259.length co75 : Value).ownBlock)) (n := t267.length) (c := co85) ?_).2.2; exact z10_54); (case side2 => exact (Kd.R_reads' HO269.out).2.1); (case side3 => refine (Kd.R_reads' (e := 3) (base := w.heap.size) (ok := fun k_ => ((((some k_ ≠ (v230 : Value).ownBlock ∧ some k_ ≠ (v237 : Value).ownBlock) ∧ some k_ ≠ (.slice Ao65 t251.length co65 : Value).ownBlock) ∧ some k_ ≠ (.slice Ao75 t259.length co75 : Value).ownBlock) ∧ some k_ ≠ (.slice Ao85 t267.length co85 : Value).ownBlock)) (n := t243.length) (c := co55) ?_).2.2; exact z10_55); (case side4 => exact (Kd.R_reads' HO245.out).2.1); rintro e w87 ⟨rfl, hb⟩; refine ⟨_, rfl, ?_⟩; have n0_ := Aside0.mk (Kd.R_below (by (with_reducible repeat (first | apply Kd.R_alloc | apply Kd.R_drewN | apply Kd.R_drew)); exact (Kd.R_mono (Kd.R_far (p := ⟨gb270, 4, none⟩) (Kd.R_far (p := ⟨gb270, 3, none⟩) (Kd.R_far (p := ⟨gb270, 2, none⟩) (Kd.R_far (p := ⟨gb270, 1, none⟩) (Kd.R_far (p := ⟨gb270, 0, none⟩) (Kd.R_types HO231.out BK270.out (by decide)) (fun _ hk => hk.2) (.int .i64 t263)) (fun _ hk => hk.2) (.int .i64 t264)) (fun _ hk => hk.2) (.int .i64 t265)) (fun _ hk => hk.2) (.int .i64 t266)) (fun _ hk => hk.2) (.slice Ao85 t267.length co85)) (fun _ h_ => h_.1))) hb); have n1_ := Aside0.mk (Kd.R_below (by (with_reducible repeat (first | apply Kd.R_alloc | apply Kd.R_drewN | apply Kd.R_drew)); exact (Kd.R_mono (Kd.R_far (p := ⟨gb270, 4, none⟩) (Kd.R_far (p := ⟨gb270, 3, none⟩) (Kd.R_far (p := ⟨gb270, 2, none⟩) (Kd.R_far (p := ⟨gb270, 1, none⟩) (Kd.R_far (p := ⟨gb270, 0, none⟩) (Kd.R_types HO238.out BK270.out (by decide)) (fun _ hk => hk.2) (.int .i64 t263)) (fun _ hk => hk.2) (.int .i64 t264)) (fun _ hk => hk.2) (.int .i64 t265)) (fun _ hk => hk.2) (.int .i64 t266)) (fun _ hk => hk.2) (.slice Ao85 t267.length co85)) (fun _ h_ => h_.1))) hb); have n2_ := Aside0.mk (Kd.R_below z10_55 hb); have n3_ := Aside0.mk (Kd.R_below (by (with_reducible repeat (first | apply Kd.R_alloc | apply Kd.R_drewN | apply Kd.R_drew)); exact (Kd.R_mono (Kd.R_far (p := ⟨gb270, 4, none⟩) (Kd.R_far (p := ⟨gb270, 3, none⟩) (Kd.R_far (p := ⟨gb270, 2, none⟩) (Kd.R_far (p := ⟨gb270, 1, none⟩) (Kd.R_far (p := ⟨gb270, 0, none⟩) (Kd.R_types HO253.out BK270.out (by decide)) (fun _ hk => hk.2) (.int .i64 t263)) (fun _ hk => hk.2) (.int .i64 t264)) (fun _ hk => hk.2) (.int .i64 t265)) (fun _ hk => hk.2) (.int .i64 t266)) (fun _ hk => hk.2) (.slice Ao85 t267.length co85)) (fun _ h_ => h_.1))) hb); have n4_ := Aside0.mk (Kd.R_below (by (with_reducible repeat (first | apply Kd.R_alloc | apply Kd.R_drewN | apply Kd.R_drew)); exact (Kd.R_mono (Kd.R_far (p := ⟨gb270, 4, none⟩) (Kd.R_far (p := ⟨gb270, 3, none⟩) (Kd.R_far (p := ⟨gb270, 2, none⟩) (Kd.R_far (p := ⟨gb270, 1, none⟩) (Kd.R_far (p := ⟨gb270, 0, none⟩) (Kd.R_types HO261.out BK270.out (by decide)) (fun _ hk => hk.2) (.int .i64 t263)) (fun _ hk => hk.2) (.int .i64 t264)) (fun _ hk => hk.2) (.int .i64 t265)) (fun _ hk => hk.2) (.int .i64 t266)) (fun _ hk => hk.2) (.slice Ao85 t267.length co85)) (fun _ h_ => h_.1))) hb); have n5_ := Aside0.mk (Kd.R_below z10_54 hb); have n6_ := Aside0.mk (blk_belowB BK221 (by (with_reducible repeat (first | refine blk_drewN ?_ _ | refine blk_drew ?_ | refine blk_alloc ?_ _)); refine blk_far ?_ NB221_270.out _; (with_reducible repeat (first | refine blk_drewN ?_ _ | refine blk_drew ?_ | refine blk_alloc ?_ _)); refine blk_far ?_ NB221_270.out _; (with_reducible repeat (first | refine blk_drewN ?_ _ | refine blk_drew ?_ | refine blk_alloc ?_ _)); refine blk_far ?_ NB221_270.out _; (with_reducible repeat (first | refine blk_drewN ?_ _ | refine blk_drew ?_ | refine blk_alloc ?_ _)); refine blk_far ?_ NB221_270.out _; (with_reducible repeat (first | refine blk_drewN ?_ _ | refine blk_drew ?_ | refine blk_alloc ?_ _)); refine blk_far ?_ NB221_270.out _; (with_reducible repeat (first | refine blk_drewN ?_ _ | refine blk_drew ?_ | refine blk_alloc ?_ _)); exact BK221.out) hb); have n7_ := Aside0.mk (blk_belowB BK222 (by (with_reducible repeat (first | refine blk_drewN ?_ _ | refine blk_drew ?_ | refine blk_alloc ?_ _)); refine blk_far ?_ NB222_270.out _; (with_reducible repeat (first | refine blk_drewN ?_ _ | refine blk_drew ?_ | refine blk_alloc ?_ _)); refine blk_far ?_ NB222_270.out _; (with_reducible repeat (first | refine blk_drewN ?_ _ | refine blk_drew ?_ | refine blk_alloc ?_ _)); refine blk_far ?_ NB222_270.out _; (with_reducible repeat (first | refine blk_drewN ?_ _ | refine blk_drew ?_ | refine blk_alloc ?_ _)); refine blk_far ?_ NB222_270.out _; (with_reducible repeat (first | refine blk_drewN ?_ _ | refine blk_drew ?_ | refine blk_alloc ?_ _)); refine blk_far ?_ NB222_270.out _; (with_reducible repeat (first | refine blk_drewN ?_ _ | refine blk_drew ?_ | refine blk_alloc ?_ _)); exact BK222.out) hb); have n8_ := Aside0.mk (blk_belowB BK246 (by (with_reducible repeat (first | refine blk_drewN ?_ _ | refine blk_drew ?_ | refine blk_alloc ?_ _)); refine blk_far ?_ NB246_270.out _; (with_reducible repeat (first | refine blk_drewN ?_ _ | refine blk_drew ?_ | refine blk_alloc ?_ _)); refine blk_far ?_ NB246_270.out _; (with_reducible repeat (first | refine blk_drewN ?_ _ | refine blk_drew ?_ | refine blk_alloc ?_ _)); refine blk_far ?_ NB246_270.out _; (with_reducible repeat (first | refine blk_drewN ?_ _ | refine blk_drew ?_ | refine blk_alloc ?_ _)); refine blk_far ?_ NB246_270.out _; (with_reducible repeat (first | refine blk_drewN ?_ _ | refine blk_drew ?_ | refine blk_alloc ?_ _)); refine blk_far ?_ NB246_270.out _; (with_reducible repeat (first | refine blk_drewN ?_ _ | refine blk_drew ?_ | refine blk_alloc ?_ _)); exact BK246.out) hb); have n9_ := Aside0.mk (blk_belowB BK254 (by (with_reducible repeat (first | refine blk_drewN ?_ _ | refine blk_drew ?_ | refine blk_alloc ?_ _)); refine blk_far ?_ NB254_270.out _; (with_reducible repeat (first | refine blk_drewN ?_ _ | refine blk_drew ?_ | refine blk_alloc ?_ _)); refine blk_far ?_ NB254_270.out _; (with_reducible repeat (first | refine blk_drewN ?_ _ | refine blk_drew ?_ | refine blk_alloc ?_ _)); refine blk_far ?_ NB254_270.out _; (with_reducible repeat (first | refine blk_drewN ?_ _ | refine blk_drew ?_ | refine blk_alloc ?_ _)); refine blk_far ?_ NB254_270.out _; (with_reducible repeat (first | refine blk_drewN ?_ _ | refine blk_drew ?_ | refine blk_alloc ?_ _)); refine blk_far ?_ NB254_270.out _; (with_reducible repeat (first | refine blk_drewN ?_ _ | refine blk_drew ?_ | refine blk_alloc ?_ _)); exact BK254.out) hb); have n10_ := Aside0.mk (blk_belowB BK262 (by (with_reducible repeat (first | refine blk_drewN ?_ _ | refine blk_drew ?_ | refine blk_alloc ?_ _)); refine blk_far ?_ NB262_270.out _; (with_reducible repeat (first | refine blk_drewN ?_ _ | refine blk_drew ?_ | refine blk_alloc ?_ _)); refine blk_far ?_ NB262_270.out _; (with_reducible repeat (first | refine blk_drewN ?_ _ | refine blk_drew ?_ | refine blk_alloc ?_ _)); refine blk_far ?_ NB262_270.out _; (with_reducible repeat (first | refine blk_drewN ?_ _ | refine blk_drew ?_ | refine blk_alloc ?_ _)); refine blk_far ?_ NB262_270.out _; (with_reducible repeat (first | refine blk_drewN ?_ _ | refine blk_drew ?_ | refine blk_alloc ?_ _)); refine blk_far ?_ NB262_270.out _; (with_reducible repeat (first | refine blk_drewN ?_ _ | refine blk_drew ?_ | refine blk_alloc ?_ _)); exact BK262.out) hb); have n11_ := Aside0.mk (blk_below (g := gb270) (o := .cells #[.int .i64 t263, .int .i64 t264, .int .i64 t265, .int .i64 t266, .slice Ao85 t267.length co85] 64 (0, 0)) (by apply blk_fin; (focus ((with_reducible repeat (first | apply blk_putQ | refine blk_drewN ?_ _ | refine blk_drew ?_ | refine blk_alloc ?_ _)); exact BK270.out)); first | (simp only [List.setIfInBounds_toArray, List.set_cons_zero, List.set_cons_succ]; done) | rfl) hb); have n12_ := Aside0.mk (below_step z10_3 hb); clear HO231; clear HO238; clear HO245; clear HO253; clear HO261; clear HO269; clear BK221; clear BK222; clear BK246; clear BK254; clear BK262; clear BK270; clear HB; have HO231 := n0_; have HO238 := n1_; have HO245 := n2_; have HO253 := n3_; have HO261 := n4_; have HO269 := n5_; have BK221 := n6_; have BK222 := n7_; have BK246 := n8_; have BK254 := n9_; have BK262 := n10_; have BK270 := n11_; have HB := n12_; clear n0_ n1_ n2_ n3_ n4_ n5_ n6_ n7_ n8_ n9_ n10_ n11_ n12_; (try clear hb); (try clear hk)))
      have n0_ := Aside0.mk (Kd.R_drew HO231.out)
      have n1_ := Aside0.mk (Kd.R_drew HO238.out)
      have n2_ := Aside0.mk (Kd.R_drew HO245.out)
      have n3_ := Aside0.mk (Kd.R_drew HO253.out)
      have n4_ := Aside0.mk (Kd.R_drew HO261.out)
      have n5_ := Aside0.mk (Kd.R_drew HO269.out)
      have n6_ := Aside0.mk (blk_drew BK221.out)
      have n7_ := Aside0.mk (blk_drew BK222.out)
      have n8_ := Aside0.mk (blk_drew BK246.out)
      have n9_ := Aside0.mk (blk_drew BK254.out)
      have n10_ := Aside0.mk (blk_drew BK262.out)
      have n11_ := Aside0.mk (blk_drew BK270.out)
      have n12_ := Aside0.mk (below_drew1 HB.out)
      clear HO231; clear HO238; clear HO245; clear HO253; clear HO261; clear HO269; clear BK221; clear BK222; clear BK246; clear BK254; clear BK262; clear BK270; clear HB; have HO231 := n0_; have HO238 := n1_; have HO245 := n2_; have HO253 := n3_; have HO261 := n4_; have HO269 := n5_; have BK221 := n6_; have BK222 := n7_; have BK246 := n8_; have BK254 := n9_; have BK262 := n10_; have BK270 := n11_; have HB := n12_; clear n0_ n1_ n2_ n3_ n4_ n5_ n6_ n7_ n8_ n9_ n10_ n11_ n12_
      refine start_ (n := 5) (S := fun w' => w'.cell? ⟨gb254, 0, none⟩ = some (.int .i64 t247) ∧ w'.cell? ⟨gb254, 1, none⟩ = some (.int .i64 t248) ∧ w'.cell? ⟨gb254, 2, none⟩ = some (.int .i64 t249) ∧ w'.cell? ⟨gb254, 3, none⟩ = some (.int .i64 t250) ∧ w'.cell? ⟨gb254, 4, none⟩ = some (.slice Ao65 t251.length co65) ∧ w'.cell? ⟨gb221, 0, none⟩ = some (.int .i64 a0_0) ∧ w'.cell? ⟨gb221, 1, none⟩ = some (.int .i64 a0_1) ∧ w'.cell? ⟨gb221, 2, none⟩ = some (.int .i64 a0_2) ∧ w'.cell? ⟨gb221, 3, none⟩ = some (.int .i64 a0_3) ∧ w'.cell? ⟨gb221, 4, none⟩ = some (.slice A0_4 l0_4.length c0_4)) (ds := []) #[false, false, false, false, false] (by kernel_rfl) rfl rfl ⟨(blk_cell BK254.out 0).trans rfl, (blk_cell BK254.out 1).trans rfl, (blk_cell BK254.out 2).trans rfl, (blk_cell BK254.out 3).trans rfl, (blk_cell BK254.out 4).trans rfl, (blk_cell BK221.out 0).trans rfl, (blk_cell BK221.out 1).trans rfl, (blk_cell BK221.out 2).trans rfl, (blk_cell BK221.out 3).trans rfl, (blk_cell BK221.out 4).trans rfl⟩ (fun hHeld => ?_)
      generalize w87.drew = w88 at HO231 HO238 HO245 HO253 HO261 HO269 BK221 BK222 BK246 BK254 BK262 BK270 HB hHeld ⊢
      refine take_ (i := 0) (N := some 40) (v := ?_) (a' := ?_) #[true, false, false, false, false] rfl rfl (by kernel_rfl) (fun _ _ _ h => h) (Or.inl ⟨by rfl, ?_⟩) hHeld ?_ ?_
      rotate_left
      ·rintro w' ⟨s0, s1, s2, s3, s4, s5, s6, s7, s8, s9⟩
       go_simp; with_reducible rfl
      rotate_left
      ·exact x10_put
      refine take_ (i := 1) (N := some 41) (v := ?_) (a' := ?_) #[true, true, false, false, false] rfl rfl (by kernel_rfl) (fun _ _ _ h => h) (Or.inl ⟨by rfl, ?_⟩) hHeld ?_ ?_
      rotate_left
      ·rintro w' ⟨s0, s1, s2, s3, s4, s5, s6, s7, s8, s9⟩
       go_simp; with_reducible rfl
      rotate_left
      ·exact x10_put
      refine one_ (i := 2) (N := some 42) #[true, true, true, false, false] rfl rfl (by kernel_rfl) (by decide) (fun K hK => ?_)
      refine goes_ Try.func32 (by kernel_rfl) rfl #[.agg #[.int .i64 a0_0, .int .i64 a0_1, .int .i64 a0_2, .int .i64 a0_3, .slice A0_4 l0_4.length c0_4]] (by rfl) rfl rfl z10_6 ?_
      with_reducible refine (laws_toMask.calls k a0_0 a0_1 a0_2 a0_3 _ _ l0_4 t272 t273 t274 t275 t276 _ ?side1 ?side2 A27.out).mono ?_
      (case side1 => exact z10_22)
      (case side2 => exact HC0_4.out)
      rintro e w89 ⟨v277, rfl, ho0, hb⟩
      refine ⟨_, rfl, ?_⟩
      have n0_ := Aside0.mk (Kd.R_elder' z10_12 (Kd.R_base ho0) hb)
      have n1_ := Aside0.mk (Kd.R_elder' z10_17 (Kd.R_base ho0) hb)
      have n2_ := Aside0.mk (Kd.R_elder' z10_26 (Kd.R_base ho0) hb)
      have n3_ := Aside0.mk (Kd.R_elder' z10_30 (Kd.R_base ho0) hb)
      have n4_ := Aside0.mk (Kd.R_elder' z10_31 (Kd.R_base ho0) hb)
      have n5_ := Aside0.mk (Kd.R_elder' z10_32 (Kd.R_base ho0) hb)
      have n6_ := Aside0.mk (Kd.R_lower (Kd.R_new' (Kd.R_new' (Kd.R_new' (Kd.R_new' (Kd.R_new' (Kd.R_new' ho0 (Kd.R_lt z10_12)) (Kd.R_lt z10_17)) (Kd.R_lt z10_26)) (Kd.R_lt z10_30)) (Kd.R_lt z10_31)) (Kd.R_lt z10_32)) (below_size z10_3))
      have n7_ := Aside0.mk (blk_belowB BK221 z10_1 hb)
      have n8_ := Aside0.mk (blk_belowB BK222 z10_2 hb)
      have n9_ := Aside0.mk (blk_belowB BK246 z10_5 hb)
      have n10_ := Aside0.mk (blk_belowB BK254 z10_8 hb)
      have n11_ := Aside0.mk (blk_belowB BK262 z10_10 hb)
      have n12_ := Aside0.mk (blk_belowB BK270 z10_11 hb)
      have n13_ := Aside0.mk (below_step z10_3 hb)
      clear HO231; clear HO238; clear HO245; clear HO253; clear HO261; clear HO269; clear BK221; clear BK222; clear BK246; clear BK254; clear BK262; clear BK270; clear HB; have HO231 := n0_; have HO238 := n1_; have HO245 := n2_; have HO253 := n3_; have HO261 := n4_; have HO269 := n5_; have HO278 := n6_; have BK221 := n7_; have BK222 := n8_; have BK246 := n9_; have BK254 := n10_; have BK262 := n11_; have BK270 := n12_; have HB := n13_; clear n0_ n1_ n2_ n3_ n4_ n5_ n6_ n7_ n8_ n9_ n10_ n11_ n12_ n13_; (try clear hb); (try clear hb2); (try clear hk); (try clear hi); (try clear ho0)
      obtain ⟨Ao90, co90, eo90⟩ := Kd.R_slice HO278.out
      (first | subst eo90 | (injection eo90 with f1_ f2_ f3_; have f4_ := f1_.symm; have f5_ := f3_.symm; clear f1_ f2_ f3_; subst f4_; subst f5_))
      refine hK.out _ _ ⟨(blk_cell BK254.out 0).trans rfl, (blk_cell BK254.out 1).trans rfl, (blk_cell BK254.out 2).trans rfl, (blk_cell BK254.out 3).trans rfl, (blk_cell BK254.out 4).trans rfl, (blk_cell BK221.out 0).trans rfl, (blk_cell BK221.out 1).trans rfl, (blk_cell BK221.out 2).trans rfl, (blk_cell BK221.out 3).trans rfl, (blk_cell BK221.out 4).trans rfl⟩ (fun hHeld => ?_)
      clear hK K
      refine norm_ (a' := ?_) ?_ ?_
      rotate_left
      ·show Act.put _ (some 42) _ = _
       simp only [Act.put, List.setIfInBounds_toArray, List.set_cons_zero, List.set_cons_succ, i64_w, i32_w]
       rfl
      refine one_ (i := 3) (N := some 43) #[true, true, true, true, false] rfl rfl (by kernel_rfl) (by decide) (fun K hK => ?_)
      refine goes_ Try.func34 (by kernel_rfl) rfl #[.agg #[.int .i64 t247, .int .i64 t248, .int .i64 t249, .int .i64 t250, .slice Ao65 t251.length co65], .agg #[.int .i64 t272, .int .i64 t273, .int .i64 t274, .int .i64 t275, .slice Ao90 t276.length co90]] (by rfl) rfl rfl z10_6 ?_
      with_reducible refine (laws_eqMask.calls k t247 t248 t249 t250 _ _ t251 t272 t273 t274 t275 _ _ t276 true _ ?side1 ?side2 ?side3 ?side4 A28.out).mono ?_
      (case side1 => repeat (first | exact (Kd.R_reads' HO253.out).2.2 | (with_reducible refine Kd.C_alloc ?_ _) | (with_reducible refine Kd.C_drewN ?_ _) | (with_reducible refine Kd.C_drew ?_)))
      (case side2 => exact (Kd.R_reads' HO253.out).2.1)
      (case side3 => repeat (first | exact (Kd.R_reads' HO278.out).2.2 | (with_reducible refine Kd.C_alloc ?_ _) | (with_reducible refine Kd.C_drewN ?_ _) | (with_reducible refine Kd.C_drew ?_)))
      (case side4 => exact (Kd.R_reads' HO278.out).2.1)
      rintro e w91 ⟨rfl, hb⟩
      refine ⟨_, rfl, ?_⟩
      have n0_ := Aside0.mk (Kd.R_below z10_12 hb)
      have n1_ := Aside0.mk (Kd.R_below z10_17 hb)
      have n2_ := Aside0.mk (Kd.R_below z10_26 hb)
      have n3_ := Aside0.mk (Kd.R_below z10_30 hb)
      have n4_ := Aside0.mk (Kd.R_below z10_31 hb)
      have n5_ := Aside0.mk (Kd.R_below z10_32 hb)
      have n6_ := Aside0.mk (Kd.R_below z10_63 hb)
      have n7_ := Aside0.mk (blk_belowB BK221 z10_1 hb)
      have n8_ := Aside0.mk (blk_belowB BK222 z10_2 hb)
      have n9_ := Aside0.mk (blk_belowB BK246 z10_5 hb)
      have n10_ := Aside0.mk (blk_belowB BK254 z10_8 hb)
      have n11_ := Aside0.mk (blk_belowB BK262 z10_10 hb)
      have n12_ := Aside0.mk (blk_belowB BK270 z10_11 hb)
      have n13_ := Aside0.mk (below_step z10_3 hb)
      clear HO231; clear HO238; clear HO245; clear HO253; clear HO261; clear HO269; clear HO278; clear BK221; clear BK222; clear BK246; clear BK254; clear BK262; clear BK270; clear HB; have HO231 := n0_; have HO238 := n1_; have HO245 := n2_; have HO253 := n3_; have HO261 := n4_; have HO269 := n5_; have HO278 := n6_; have BK221 := n7_; have BK222 := n8_; have BK246 := n9_; have BK254 := n10_; have BK262 := n11_; have BK270 := n12_; have HB := n13_; clear n0_ n1_ n2_ n3_ n4_ n5_ n6_ n7_ n8_ n9_ n10_ n11_ n12_ n13_; (try clear hb); (try clear hb2); (try clear hk); (try clear hi)
      refine hK.out _ _ ⟨(blk_cell BK254.out 0).trans rfl, (blk_cell BK254.out 1).trans rfl, (blk_cell BK254.out 2).trans rfl, (blk_cell BK254.out 3).trans rfl, (blk_cell BK254.out 4).trans rfl, (blk_cell BK221.out 0).trans rfl, (blk_cell BK221.out 1).trans rfl, (blk_cell BK221.out 2).trans rfl, (blk_cell BK221.out 3).trans rfl, (blk_cell BK221.out 4).trans rfl⟩ (fun hHeld => ?_)
      clear hK K
      refine norm_ (a' := ?_) ?_ ?_
      rotate_left
      ·show Act.put _ (some 43) _ = _
       simp only [Act.put, List.setIfInBounds_toArray, List.set_cons_zero, List.set_cons_succ, i64_w, i32_w]
       rfl
      refine pure_ (i := 4) (N := some 44) (v := ?_) (a' := ?_) #[true, true, true, true, true] rfl rfl (by kernel_rfl) (fun _ _ _ h => h) (Or.inl ⟨by rfl, ?_⟩) ?_ ?_; rotate_left
      ·intro w'
       go_simp; with_reducible rfl
      rotate_left
      ·exact x10_put
      refine done_ (by kernel_rfl) ?_
      try go_wp2
      have n0_ := Aside0.mk (Kd.R_drew HO231.out)
      have n1_ := Aside0.mk (Kd.R_drew HO238.out)
      have n2_ := Aside0.mk (Kd.R_drew HO245.out)
      have n3_ := Aside0.mk (Kd.R_drew HO253.out)
      have n4_ := Aside0.mk (Kd.R_drew HO261.out)
      have n5_ := Aside0.mk (Kd.R_drew HO269.out)
      have n6_ := Aside0.mk (Kd.R_drew HO278.out)
      have n7_ := Aside0.mk (blk_drew BK221.out)
      have n8_ := Aside0.mk (blk_drew BK222.out)
      have n9_ := Aside0.mk (blk_drew BK246.out)
      have n10_ := Aside0.mk (blk_drew BK254.out)
      have n11_ := Aside0.mk (blk_drew BK262.out)
      have n12_ := Aside0.mk (blk_drew BK270.out)
      have n13_ := Aside0.mk (below_drew1 HB.out)
      clear HO231; clear HO238; clear HO245; clear HO253; clear HO261; clear HO269; clear HO278; clear BK221; clear BK222; clear BK246; clear BK254; clear BK262; clear BK270; clear HB; have HO231 := n0_; have HO238 := n1_; have HO245 := n2_; have HO253 := n3_; have HO261 := n4_; have HO269 := n5_; have HO278 := n6_; have BK221 := n7_; have BK222 := n8_; have BK246 := n9_; have BK254 := n10_; have BK262 := n11_; have BK270 := n12_; have HB := n13_; clear n0_ n1_ n2_ n3_ n4_ n5_ n6_ n7_ n8_ n9_ n10_ n11_ n12_ n13_
      refine start_ (n := 5) (S := fun w' => w'.cell? ⟨gb262, 0, none⟩ = some (.int .i64 t255) ∧ w'.cell? ⟨gb262, 1, none⟩ = some (.int .i64 t256) ∧ w'.cell? ⟨gb262, 2, none⟩ = some (.int .i64 t257) ∧ w'.cell? ⟨gb262, 3, none⟩ = some (.int .i64 t258) ∧ w'.cell? ⟨gb262, 4, none⟩ = some (.slice Ao75 t259.length co75) ∧ w'.cell? ⟨gb222, 0, none⟩ = some (.int .i64 a1_0) ∧ w'.cell? ⟨gb222, 1, none⟩ = some (.int .i64 a1_1) ∧ w'.cell? ⟨gb222, 2, none⟩ = some (.int .i64 a1_2) ∧ w'.cell? ⟨gb222, 3, none⟩ = some (.int .i64 a1_3) ∧ w'.cell? ⟨gb222, 4, none⟩ = some (.slice A1_4 l1_4.length c1_4)) (ds := []) #[false, false, false, false, false] (by kernel_rfl) rfl rfl ⟨(blk_cell BK262.out 0).trans rfl, (blk_cell BK262.out 1).trans rfl, (blk_cell BK262.out 2).trans rfl, (blk_cell BK262.out 3).trans rfl, (blk_cell BK262.out 4).trans rfl, (blk_cell BK222.out 0).trans rfl, (blk_cell BK222.out 1).trans rfl, (blk_cell BK222.out 2).trans rfl, (blk_cell BK222.out 3).trans rfl, (blk_cell BK222.out 4).trans rfl⟩ (fun hHeld => ?_)
      generalize w91.drew = w92 at HO231 HO238 HO245 HO253 HO261 HO269 HO278 BK221 BK222 BK246 BK254 BK262 BK270 HB hHeld ⊢
      refine take_ (i := 0) (N := some 45) (v := ?_) (a' := ?_) #[true, false, false, false, false] rfl rfl (by kernel_rfl) (fun _ _ _ h => h) (Or.inl ⟨by rfl, ?_⟩) hHeld ?_ ?_
      rotate_left
      ·rintro w' ⟨s0, s1, s2, s3, s4, s5, s6, s7, s8, s9⟩
       go_simp; with_reducible rfl
      rotate_left
      ·exact x10_put
      refine take_ (i := 1) (N := some 46) (v := ?_) (a' := ?_) #[true, true, false, false, false] rfl rfl (by kernel_rfl) (fun _ _ _ h => h) (Or.inl ⟨by rfl, ?_⟩) hHeld ?_ ?_
      rotate_left
      ·rintro w' ⟨s0, s1, s2, s3, s4, s5, s6, s7, s8, s9⟩
       go_simp; with_reducible rfl
      rotate_left
      ·exact x10_put
      refine one_ (i := 2) (N := some 47) #[true, true, true, false, false] rfl rfl (by kernel_rfl) (by decide) (fun K hK => ?_)
      refine goes_ Try.func32 (by kernel_rfl) rfl #[.agg #[.int .i64 a1_0, .int .i64 a1_1, .int .i64 a1_2, .int .i64 a1_3, .slice A1_4 l1_4.length c1_4]] (by rfl) rfl rfl z10_6 ?_
      with_reducible refine (laws_toMask.calls k a1_0 a1_1 a1_2 a1_3 _ _ l1_4 t280 t281 t282 t283 t284 _ ?side1 ?side2 A30.out).mono ?_
      (case side1 => exact z10_19)
      (case side2 => exact HC1_4.out)
      rintro e w93 ⟨v285, rfl, ho0, hb⟩
      refine ⟨_, rfl, ?_⟩
      have n0_ := Aside0.mk (Kd.R_elder' z10_12 (Kd.R_base ho0) hb)
      have n1_ := Aside0.mk (Kd.R_elder' z10_17 (Kd.R_base ho0) hb)
      have n2_ := Aside0.mk (Kd.R_elder' z10_26 (Kd.R_base ho0) hb)
      have n3_ := Aside0.mk (Kd.R_elder' z10_30 (Kd.R_base ho0) hb)
      have n4_ := Aside0.mk (Kd.R_elder' z10_31 (Kd.R_base ho0) hb)
      have n5_ := Aside0.mk (Kd.R_elder' z10_32 (Kd.R_base ho0) hb)
      have n6_ := Aside0.mk (Kd.R_elder' z10_63 (Kd.R_base ho0) hb)
      have n7_ := Aside0.mk (Kd.R_lower (Kd.R_new' (Kd.R_new' (Kd.R_new' (Kd.R_new' (Kd.R_new' (Kd.R_new' (Kd.R_new' ho0 (Kd.R_lt z10_12)) (Kd.R_lt z10_17)) (Kd.R_lt z10_26)) (Kd.R_lt z10_30)) (Kd.R_lt z10_31)) (Kd.R_lt z10_32)) (Kd.R_lt z10_63)) (below_size z10_3))
      have n8_ := Aside0.mk (blk_belowB BK221 z10_1 hb)
      have n9_ := Aside0.mk (blk_belowB BK222 z10_2 hb)
      have n10_ := Aside0.mk (blk_belowB BK246 z10_5 hb)
      have n11_ := Aside0.mk (blk_belowB BK254 z10_8 hb)
      have n12_ := Aside0.mk (blk_belowB BK262 z10_10 hb)
      have n13_ := Aside0.mk (blk_belowB BK270 z10_11 hb)
      have n14_ := Aside0.mk (below_step z10_3 hb)
      clear HO231; clear HO238; clear HO245; clear HO253; clear HO261; clear HO269; clear HO278; clear BK221; clear BK222; clear BK246; clear BK254; clear BK262; clear BK270; clear HB; have HO231 := n0_; have HO238 := n1_; have HO245 := n2_; have HO253 := n3_; have HO261 := n4_; have HO269 := n5_; have HO278 := n6_; have HO286 := n7_; have BK221 := n8_; have BK222 := n9_; have BK246 := n10_; have BK254 := n11_; have BK262 := n12_; have BK270 := n13_; have HB := n14_; clear n0_ n1_ n2_ n3_ n4_ n5_ n6_ n7_ n8_ n9_ n10_ n11_ n12_ n13_ n14_; (try clear hb); (try clear hb2); (try clear hk); (try clear hi); (try clear ho0)
      obtain ⟨Ao94, co94, eo94⟩ := Kd.R_slice HO286.out
      (first | subst eo94 | (injection eo94 with f1_ f2_ f3_; have f4_ := f1_.symm; have f5_ := f3_.symm; clear f1_ f2_ f3_; subst f4_; subst f5_))
      refine hK.out _ _ ⟨(blk_cell BK262.out 0).trans rfl, (blk_cell BK262.out 1).trans rfl, (blk_cell BK262.out 2).trans rfl, (blk_cell BK262.out 3).trans rfl, (blk_cell BK262.out 4).trans rfl, (blk_cell BK222.out 0).trans rfl, (blk_cell BK222.out 1).trans rfl, (blk_cell BK222.out 2).trans rfl, (blk_cell BK222.out 3).trans rfl, (blk_cell BK222.out 4).trans rfl⟩ (fun hHeld => ?_)
      clear hK K
      refine norm_ (a' := ?_) ?_ ?_
      rotate_left
      ·show Act.put _ (some 47) _ = _
       simp only [Act.put, List.setIfInBounds_toArray, List.set_cons_zero, List.set_cons_succ, i64_w, i32_w]
       rfl
      refine one_ (i := 3) (N := some 48) #[true, true, true, true, false] rfl rfl (by kernel_rfl) (by decide) (fun K hK => ?_)
      refine goes_ Try.func34 (by kernel_rfl) rfl #[.agg #[.int .i64 t255, .int .i64 t256, .int .i64 t257, .int .i64 t258, .slice Ao75 t259.length co75], .agg #[.int .i64 t280, .int .i64 t281, .int .i64 t282, .int .i64 t283, .slice Ao94 t284.length co94]] (by rfl) rfl rfl z10_6 ?_
      with_reducible refine (laws_eqMask.calls k t255 t256 t257 t258 _ _ t259 t280 t281 t282 t283 _ _ t284 true _ ?side1 ?side2 ?side3 ?side4 A31.out).mono ?_
      (case side1 => repeat (first | exact (Kd.R_reads' HO261.out).2.2 | (with_reducible refine Kd.C_alloc ?_ _) | (with_reducible refine Kd.C_drewN ?_ _) | (with_reducible refine Kd.C_drew ?_)))
      (case side2 => exact (Kd.R_reads' HO261.out).2.1)
      (case side3 => repeat (first | exact (Kd.R_reads' HO286.out).2.2 | (with_reducible refine Kd.C_alloc ?_ _) | (with_reducible refine Kd.C_drewN ?_ _) | (with_reducible refine Kd.C_drew ?_)))
      (case side4 => exact (Kd.R_reads' HO286.out).2.1)
      rintro e w95 ⟨rfl, hb⟩
      refine ⟨_, rfl, ?_⟩
      have n0_ := Aside0.mk (Kd.R_below z10_12 hb)
      have n1_ := Aside0.mk (Kd.R_below z10_17 hb)
      have n2_ := Aside0.mk (Kd.R_below z10_26 hb)
      have n3_ := Aside0.mk (Kd.R_below z10_30 hb)
      have n4_ := Aside0.mk (Kd.R_below z10_31 hb)
      have n5_ := Aside0.mk (Kd.R_below z10_32 hb)
      have n6_ := Aside0.mk (Kd.R_below z10_63 hb)
      have n7_ := Aside0.mk (Kd.R_below (by (with_reducible repeat (first | apply Kd.R_alloc | apply Kd.R_drewN | apply Kd.R_drew)); exact HO286.out) hb)
      have n8_ := Aside0.mk (blk_belowB BK221 z10_1 hb)
      have n9_ := Aside0.mk (blk_belowB BK222 z10_2 hb)
      have n10_ := Aside0.mk (blk_belowB BK246 z10_5 hb)
      have n11_ := Aside0.mk (blk_belowB BK254 z10_8 hb)
      have n12_ := Aside0.mk (blk_belowB BK262 z10_10 hb)
      have n13_ := Aside0.mk (blk_belowB BK270 z10_11 hb)
      have n14_ := Aside0.mk (below_step z10_3 hb)
      clear HO231; clear HO238; clear HO245; clear HO253; clear HO261; clear HO269; clear HO278; clear HO286; clear BK221; clear BK222; clear BK246; clear BK254; clear BK262; clear BK270; clear HB; have HO231 := n0_; have HO238 := n1_; have HO245 := n2_; have HO253 := n3_; have HO261 := n4_; have HO269 := n5_; have HO278 := n6_; have HO286 := n7_; have BK221 := n8_; have BK222 := n9_; have BK246 := n10_; have BK254 := n11_; have BK262 := n12_; have BK270 := n13_; have HB := n14_; clear n0_ n1_ n2_ n3_ n4_ n5_ n6_ n7_ n8_ n9_ n10_ n11_ n12_ n13_ n14_; (try clear hb); (try clear hb2); (try clear hk); (try clear hi)
      refine hK.out _ _ ⟨(blk_cell BK262.out 0).trans rfl, (blk_cell BK262.out 1).trans rfl, (blk_cell BK262.out 2).trans rfl, (blk_cell BK262.out 3).trans rfl, (blk_cell BK262.out 4).trans rfl, (blk_cell BK222.out 0).trans rfl, (blk_cell BK222.out 1).trans rfl, (blk_cell BK222.out 2).trans rfl, (blk_cell BK222.out 3).trans rfl, (blk_cell BK222.out 4).trans rfl⟩ (fun hHeld => ?_)
      clear hK K
      refine norm_ (a' := ?_) ?_ ?_
      rotate_left
      ·show Act.put _ (some 48) _ = _
       simp only [Act.put, List.setIfInBounds_toArray, List.set_cons_zero, List.set_cons_succ, i64_w, i32_w]
       rfl
      refine pure_ (i := 4) (N := some 49) (v := ?_) (a' := ?_) #[true, true, true, true, true] rfl rfl (by kernel_rfl) (fun _ _ _ h => h) (Or.inl ⟨by rfl, ?_⟩) ?_ ?_; rotate_left
      ·intro w'
       go_simp; with_reducible rfl
      rotate_left
      ·exact x10_put
      refine done_ (by kernel_rfl) ?_
      obtain ⟨_, _, _, _, _, _, _, _, _, _⟩ := be_5 BK254.out
      go_upto_region 21 with (first | ((with_reducible refine gate_callee (f := 56) rfl ?_); refine goesL_ (some 52) rfl rfl Try.func56 (by kernel_rfl) rfl #[.agg #[.int .i64 t247, .int .i64 t248, .int .i64 t249, .int .i64 t250, .slice Ao65 t251.length co65], .int .i64 1] rfl z10_6 ?_; (with_reducible refine (laws_markMask.calls k t247 t248 t249 t250 (fun k_ => some k_ = (.slice Ao65 t251.length co65 : Value).ownBlock) (.slice Ao65 t251.length co65) t251 1 t288 t289 w _ ?side1 ?side2 A33.out).mono ?_); (case side1 => exact z10_34); (case side2 => exact Kd.R_tight rfl HO253.out); rintro e w97 ⟨rfl, hy0, hb, hkp⟩; refine ⟨_, rfl, ?_⟩; have n0_ := Aside0.mk (blk_kept z10_1 hkp (fun hs_ => (fun e_ => (Kd.R_ne HO253.out BK221.out (by decide)) e_) hs_)); have n1_ := Aside0.mk (blk_kept z10_2 hkp (fun hs_ => (fun e_ => (Kd.R_ne HO253.out BK222.out (by decide)) e_) hs_)); have n2_ := Aside0.mk (Kd.R_mono (ok' := fun k_ => some k_ ≠ (v237 : Value).ownBlock ∧ some k_ ≠ (.slice Ao55 t243.length co55 : Value).ownBlock ∧ some k_ ≠ (.slice Ao65 t251.length co65 : Value).ownBlock ∧ some k_ ≠ (.slice Ao75 t259.length co75 : Value).ownBlock ∧ some k_ ≠ (.slice Ao85 t267.length co85 : Value).ownBlock ∧ some k_ ≠ (.slice Ao90 t276.length co90 : Value).ownBlock ∧ some k_ ≠ (.slice Ao94 t284.length co94 : Value).ownBlock) (Kd.R_keptB (HO231.out) hkp (fun k_ hk_ hs_ => (hk_.1.1.1.1.2) hs_)) (fun k_ hk_ => ⟨hk_.1.1.1.1.1.1.1, hk_.1.1.1.1.1.1.2, hk_.1.1.1.1.1.2, hk_.1.1.1.1.2, hk_.1.1.1.2, hk_.1.1.2, hk_.1.2⟩)); have n3_ := Aside0.mk (Kd.R_mono (ok' := fun k_ => some k_ ≠ (v230 : Value).ownBlock ∧ some k_ ≠ (.slice Ao55 t243.length co55 : Value).ownBlock ∧ some k_ ≠ (.slice Ao65 t251.length co65 : Value).ownBlock ∧ some k_ ≠ (.slice Ao75 t259.length co75 : Value).ownBlock ∧ some k_ ≠ (.slice Ao85 t267.length co85 : Value).ownBlock ∧ some k_ ≠ (.slice Ao90 t276.length co90 : Value).ownBlock ∧ some k_ ≠ (.slice Ao94 t284.length co94 : Value).ownBlock) (Kd.R_keptB (HO238.out) hkp (fun k_ hk_ hs_ => (hk_.1.1.1.1.2) hs_)) (fun k_ hk_ => ⟨hk_.1.1.1.1.1.1.1, hk_.1.1.1.1.1.1.2, hk_.1.1.1.1.1.2, hk_.1.1.1.1.2, hk_.1.1.1.2, hk_.1.1.2, hk_.1.2⟩)); have n4_ := Aside0.mk (Kd.R_mono (ok' := fun k_ => some k_ ≠ (v230 : Value).ownBlock ∧ some k_ ≠ (v237 : Value).ownBlock ∧ some k_ ≠ (.slice Ao65 t251.length co65 : Value).ownBlock ∧ some k_ ≠ (.slice Ao75 t259.length co75 : Value).ownBlock ∧ some k_ ≠ (.slice Ao85 t267.length co85 : Value).ownBlock ∧ some k_ ≠ (.slice Ao90 t276.length co90 : Value).ownBlock ∧ some k_ ≠ (.slice Ao94 t284.length co94 : Value).ownBlock) (Kd.R_keptB (HO245.out) hkp (fun k_ hk_ hs_ => (hk_.1.1.1.1.2) hs_)) (fun k_ hk_ => ⟨hk_.1.1.1.1.1.1.1, hk_.1.1.1.1.1.1.2, hk_.1.1.1.1.1.2, hk_.1.1.1.1.2, hk_.1.1.1.2, hk_.1.1.2, hk_.1.2⟩)); have n5_ := Aside0.mk (blk_kept z10_5 hkp (fun hs_ => (fun e_ => (Kd.R_ne HO253.out BK246.out (by decide)) e_) hs_)); have n6_ := Aside0.mk (Kd.R_reok rfl hy0 (fun k_ e_ => HO253.out.1 k_ e_)); have n7_ := Aside0.mk (blk_kept z10_8 hkp (fun hs_ => (fun e_ => (Kd.R_ne HO253.out BK254.out (by decide)) e_) hs_)); have n8_ := Aside0.mk (Kd.R_mono (ok' := fun k_ => some k_ ≠ (v230 : Value).ownBlock ∧ some k_ ≠ (v237 : Value).ownBlock ∧ some k_ ≠ (.slice Ao55 t243.length co55 : Value).ownBlock ∧ some k_ ≠ (.slice Ao65 t251.length co65 : Value).ownBlock ∧ some k_ ≠ (.slice Ao85 t267.length co85 : Value).ownBlock ∧ some k_ ≠ (.slice Ao90 t276.length co90 : Value).ownBlock ∧ some k_ ≠ (.slice Ao94 t284.length co94 : Value).ownBlock) (Kd.R_keptB (HO261.out) hkp (fun k_ hk_ hs_ => (hk_.1.1.1.2) hs_)) (fun k_ hk_ => ⟨hk_.1.1.1.1.1.1.1.2, hk_.1.1.1.1.1.1.2, hk_.1.1.1.1.1.2, hk_.1.1.1.1.2, hk_.1.1.1.2, hk_.1.1.2, hk_.1.2⟩)); have n9_ := Aside0.mk (blk_kept z10_10 hkp (fun hs_ => (fun e_ => (Kd.R_ne HO253.out BK262.out (by decide)) e_) hs_)); have n10_ := Aside0.mk (Kd.R_mono (ok' := fun k_ => some k_ ≠ (v230 : Value).ownBlock ∧ some k_ ≠ (v237 : Value).ownBlock ∧ some k_ ≠ (.slice Ao55 t243.length co55 : Value).ownBlock ∧ some k_ ≠ (.slice Ao65 t251.length co65 : Value).ownBlock ∧ some k_ ≠ (.slice Ao75 t259.length co75 : Value).ownBlock ∧ some k_ ≠ (.slice Ao90 t276.length co90 : Value).ownBlock ∧ some k_ ≠ (.slice Ao94 t284.length co94 : Value).ownBlock) (Kd.R_keptB (HO269.out) hkp (fun k_ hk_ hs_ => (hk_.1.1.1.2) hs_)) (fun k_ hk_ => ⟨hk_.1.1.1.1.1.1.1.2, hk_.1.1.1.1.1.1.2, hk_.1.1.1.1.1.2, hk_.1.1.1.1.2, hk_.1.1.1.2, hk_.1.1.2, hk_.1.2⟩)); have n11_ := Aside0.mk (blk_kept z10_11 hkp (fun hs_ => (fun e_ => (Kd.R_ne HO253.out BK270.out (by decide)) e_) hs_)); have n12_ := Aside0.mk (Kd.R_mono (ok' := fun k_ => some k_ ≠ (v230 : Value).ownBlock ∧ some k_ ≠ (v237 : Value).ownBlock ∧ some k_ ≠ (.slice Ao55 t243.length co55 : Value).ownBlock ∧ some k_ ≠ (.slice Ao65 t251.length co65 : Value).ownBlock ∧ some k_ ≠ (.slice Ao75 t259.length co75 : Value).ownBlock ∧ some k_ ≠ (.slice Ao85 t267.length co85 : Value).ownBlock ∧ some k_ ≠ (.slice Ao94 t284.length co94 : Value).ownBlock) (Kd.R_keptB (HO278.out) hkp (fun k_ hk_ hs_ => (hk_.1.1.1.2) hs_)) (fun k_ hk_ => ⟨hk_.1.1.1.1.1.1.1.2, hk_.1.1.1.1.1.1.2, hk_.1.1.1.1.1.2, hk_.1.1.1.1.2, hk_.1.1.1.2, hk_.1.1.2, hk_.1.2⟩)); have n13_ := Aside0.mk (Kd.R_mono (ok' := fun k_ => some k_ ≠ (v230 : Value).ownBlock ∧ some k_ ≠ (v237 : Value).ownBlock ∧ some k_ ≠ (.slice Ao55 t243.length co55 : Value).ownBlock ∧ some k_ ≠ (.slice Ao65 t251.length co65 : Value).ownBlock ∧ some k_ ≠ (.slice Ao75 t259.length co75 : Value).ownBlock ∧ some k_ ≠ (.slice Ao85 t267.length co85 : Value).ownBlock ∧ some k_ ≠ (.slice Ao90 t276.length co90 : Value).ownBlock) (Kd.R_keptB (HO286.out) hkp (fun k_ hk_ hs_ => (hk_.1.1.1.2) hs_)) (fun k_ hk_ => ⟨hk_.1.1.1.1.1.1.1.2, hk_.1.1.1.1.1.1.2, hk_.1.1.1.1.1.2, hk_.1.1.1.1.2, hk_.1.1.1.2, hk_.1.1.2, hk_.1.2⟩)); have n14_ := Aside0.mk (hb); clear BK221; clear BK222; clear HO231; clear HO238; clear HO245; clear BK246; clear HO253; clear BK254; clear HO261; clear BK262; clear HO269; clear BK270; clear HO278; clear HO286; clear HB; have BK221 := n0_; have BK222 := n1_; have HO231 := n2_; have HO238 := n3_; have HO245 := n4_; have BK246 := n5_; have HO253 := n6_; have BK254 := n7_; have HO261 := n8_; have BK262 := n9_; have HO269 := n10_; have BK270 := n11_; have HO278 := n12_; have HO286 := n13_; have HB := n14_; clear n0_ n1_ n2_ n3_ n4_ n5_ n6_ n7_ n8_ n9_ n10_ n11_ n12_ n13_ n14_; (try clear hb); (try clear hkp); (try clear hy0); have hcz98_0 : w97.cell? ⟨gb262, 0, none⟩ = some (.int .i64 t255) := (blk_cell BK262.out 0).trans rfl; have hcz98_1 : w97.cell? ⟨gb262, 1, none⟩ = some (.int .i64 t256) := (blk_cell BK262.out 1).trans rfl; have hcz98_2 : w97.cell? ⟨gb262, 2, none⟩ = some (.int .i64 t257) := (blk_cell BK262.out 2).trans rfl; have hcz98_3 : w97.cell? ⟨gb262, 3, none⟩ = some (.int .i64 t258) := (blk_cell BK262.out 3).trans rfl; have hcz98_4 : w97.cell? ⟨gb262, 4, none⟩ = some (.slice Ao75 t259.length co75) := (blk_cell BK262.out 4).trans rfl; have hfz98_0 := blk_frozen BK262.out 0; have hfz98_1 := blk_frozen BK262.out 1; have hfz98_2 := blk_frozen BK262.out 2; have hfz98_3 := blk_frozen BK262.out 3; have hfz98_4 := blk_frozen BK262.out 4) | ((with_reducible refine gate_callee (f := 56) rfl ?_); refine goesL_ (some 55) rfl rfl Try.func56 (by kernel_rfl) rfl #[.agg #[.int .i64 t255, .int .i64 t256, .int .i64 t257, .int .i64 t258, .slice Ao75 t259.length co75], .int .i64 t288] rfl z10_6 ?_; (with_reducible refine (laws_markMask.calls k t255 t256 t257 t258 (fun k_ => some k_ = (.slice Ao75 t259.length co75 : Value).ownBlock) (.slice Ao75 t259.length co75) t259 t288 t290 t291 w _ ?side1 ?side2 A34.out).mono ?_); (case side1 => exact z10_34); (case side2 => exact Kd.R_tight rfl HO261.out); rintro e w99 ⟨rfl, hy0, hb, hkp⟩; refine ⟨_, rfl, ?_⟩; have n0_ := Aside0.mk (blk_kept z10_1 hkp (fun hs_ => (fun e_ => (Kd.R_ne HO261.out BK221.out (by decide)) e_) hs_)); have n1_ := Aside0.mk (blk_kept z10_2 hkp (fun hs_ => (fun e_ => (Kd.R_ne HO261.out BK222.out (by decide)) e_) hs_)); have n2_ := Aside0.mk (Kd.R_mono (ok' := fun k_ => some k_ ≠ (v237 : Value).ownBlock ∧ some k_ ≠ (.slice Ao55 t243.length co55 : Value).ownBlock ∧ some k_ ≠ (.slice Ao65 t251.length co65 : Value).ownBlock ∧ some k_ ≠ (.slice Ao75 t259.length co75 : Value).ownBlock ∧ some k_ ≠ (.slice Ao85 t267.length co85 : Value).ownBlock ∧ some k_ ≠ (.slice Ao90 t276.length co90 : Value).ownBlock ∧ some k_ ≠ (.slice Ao94 t284.length co94 : Value).ownBlock) (Kd.R_keptB (HO231.out) hkp (fun k_ hk_ hs_ => (hk_.2.2.2.1) hs_)) (fun k_ hk_ => ⟨hk_.1.1, hk_.1.2.1, hk_.1.2.2.1, hk_.1.2.2.2.1, hk_.1.2.2.2.2.1, hk_.1.2.2.2.2.2.1, hk_.1.2.2.2.2.2.2⟩)); have n3_ := Aside0.mk (Kd.R_mono (ok' := fun k_ => some k_ ≠ (v230 : Value).ownBlock ∧ some k_ ≠ (.slice Ao55 t243.length co55 : Value).ownBlock ∧ some k_ ≠ (.slice Ao65 t251.length co65 : Value).ownBlock ∧ some k_ ≠ (.slice Ao75 t259.length co75 : Value).ownBlock ∧ some k_ ≠ (.slice Ao85 t267.length co85 : Value).ownBlock ∧ some k_ ≠ (.slice Ao90 t276.length co90 : Value).ownBlock ∧ some k_ ≠ (.slice Ao94 t284.length co94 : Value).ownBlock) (Kd.R_keptB (HO238.out) hkp (fun k_ hk_ hs_ => (hk_.2.2.2.1) hs_)) (fun k_ hk_ => ⟨hk_.1.1, hk_.1.2.1, hk_.1.2.2.1, hk_.1.2.2.2.1, hk_.1.2.2.2.2.1, hk_.1.2.2.2.2.2.1, hk_.1.2.2.2.2.2.2⟩)); have n4_ := Aside0.mk (Kd.R_mono (ok' := fun k_ => some k_ ≠ (v230 : Value).ownBlock ∧ some k_ ≠ (v237 : Value).ownBlock ∧ some k_ ≠ (.slice Ao65 t251.length co65 : Value).ownBlock ∧ some k_ ≠ (.slice Ao75 t259.length co75 : Value).ownBlock ∧ some k_ ≠ (.slice Ao85 t267.length co85 : Value).ownBlock ∧ some k_ ≠ (.slice Ao90 t276.length co90 : Value).ownBlock ∧ some k_ ≠ (.slice Ao94 t284.length co94 : Value).ownBlock) (Kd.R_keptB (HO245.out) hkp (fun k_ hk_ hs_ => (hk_.2.2.2.1) hs_)) (fun k_ hk_ => ⟨hk_.1.1, hk_.1.2.1, hk_.1.2.2.1, hk_.1.2.2.2.1, hk_.1.2.2.2.2.1, hk_.1.2.2.2.2.2.1, hk_.1.2.2.2.2.2.2⟩)); have n5_ := Aside0.mk (blk_kept z10_5 hkp (fun hs_ => (fun e_ => (Kd.R_ne HO261.out BK246.out (by decide)) e_) hs_)); have n6_ := Aside0.mk (Kd.R_mono (ok' := fun k_ => some k_ ≠ (v230 : Value).ownBlock ∧ some k_ ≠ (v237 : Value).ownBlock ∧ some k_ ≠ (.slice Ao55 t243.length co55 : Value).ownBlock ∧ some k_ ≠ (.slice Ao75 t259.length co75 : Value).ownBlock ∧ some k_ ≠ (.slice Ao85 t267.length co85 : Value).ownBlock ∧ some k_ ≠ (.slice Ao90 t276.length co90 : Value).ownBlock ∧ some k_ ≠ (.slice Ao94 t284.length co94 : Value).ownBlock) (Kd.R_keptB (HO253.out) hkp (fun k_ hk_ hs_ => (hk_.1.1.1.2) hs_)) (fun k_ hk_ => ⟨hk_.1.1.1.1.1.1.1.2, hk_.1.1.1.1.1.1.2, hk_.1.1.1.1.1.2, hk_.1.1.1.1.2, hk_.1.1.1.2, hk_.1.1.2, hk_.1.2⟩)); have n7_ := Aside0.mk (blk_kept z10_8 hkp (fun hs_ => (fun e_ => (Kd.R_ne HO261.out BK254.out (by decide)) e_) hs_)); have n8_ := Aside0.mk (Kd.R_reok rfl hy0 (fun k_ e_ => HO261.out.1 k_ e_)); have n9_ := Aside0.mk (blk_kept z10_10 hkp (fun hs_ => (fun e_ => (Kd.R_ne HO261.out BK262.out (by decide)) e_) hs_)); have n10_ := Aside0.mk (Kd.R_mono (ok' := fun k_ => some k_ ≠ (v230 : Value).ownBlock ∧ some k_ ≠ (v237 : Value).ownBlock ∧ some k_ ≠ (.slice Ao55 t243.length co55 : Value).ownBlock ∧ some k_ ≠ (.slice Ao65 t251.length co65 : Value).ownBlock ∧ some k_ ≠ (.slice Ao75 t259.length co75 : Value).ownBlock ∧ some k_ ≠ (.slice Ao90 t276.length co90 : Value).ownBlock ∧ some k_ ≠ (.slice Ao94 t284.length co94 : Value).ownBlock) (Kd.R_keptB (HO269.out) hkp (fun k_ hk_ hs_ => (hk_.2.2.2.2.1) hs_)) (fun k_ hk_ => ⟨hk_.1.1, hk_.1.2.1, hk_.1.2.2.1, hk_.1.2.2.2.1, hk_.1.2.2.2.2.1, hk_.1.2.2.2.2.2.1, hk_.1.2.2.2.2.2.2⟩)); have n11_ := Aside0.mk (blk_kept z10_11 hkp (fun hs_ => (fun e_ => (Kd.R_ne HO261.out BK270.out (by decide)) e_) hs_)); have n12_ := Aside0.mk (Kd.R_mono (ok' := fun k_ => some k_ ≠ (v230 : Value).ownBlock ∧ some k_ ≠ (v237 : Value).ownBlock ∧ some k_ ≠ (.slice Ao55 t243.length co55 : Value).ownBlock ∧ some k_ ≠ (.slice Ao65 t251.length co65 : Value).ownBlock ∧ some k_ ≠ (.slice Ao75 t259.length co75 : Value).ownBlock ∧ some k_ ≠ (.slice Ao85 t267.length co85 : Value).ownBlock ∧ some k_ ≠ (.slice Ao94 t284.length co94 : Value).ownBlock) (Kd.R_keptB (HO278.out) hkp (fun k_ hk_ hs_ => (hk_.2.2.2.2.1) hs_)) (fun k_ hk_ => ⟨hk_.1.1, hk_.1.2.1, hk_.1.2.2.1, hk_.1.2.2.2.1, hk_.1.2.2.2.2.1, hk_.1.2.2.2.2.2.1, hk_.1.2.2.2.2.2.2⟩)); have n13_ := Aside0.mk (Kd.R_mono (ok' := fun k_ => some k_ ≠ (v230 : Value).ownBlock ∧ some k_ ≠ (v237 : Value).ownBlock ∧ some k_ ≠ (.slice Ao55 t243.length co55 : Value).ownBlock ∧ some k_ ≠ (.slice Ao65 t251.length co65 : Value).ownBlock ∧ some k_ ≠ (.slice Ao75 t259.length co75 : Value).ownBlock ∧ some k_ ≠ (.slice Ao85 t267.length co85 : Value).ownBlock ∧ some k_ ≠ (.slice Ao90 t276.length co90 : Value).ownBlock) (Kd.R_keptB (HO286.out) hkp (fun k_ hk_ hs_ => (hk_.2.2.2.2.1) hs_)) (fun k_ hk_ => ⟨hk_.1.1, hk_.1.2.1, hk_.1.2.2.1, hk_.1.2.2.2.1, hk_.1.2.2.2.2.1, hk_.1.2.2.2.2.2.1, hk_.1.2.2.2.2.2.2⟩)); have n14_ := Aside0.mk (hb); clear BK221; clear BK222; clear HO231; clear HO238; clear HO245; clear BK246; clear HO253; clear BK254; clear HO261; clear BK262; clear HO269; clear BK270; clear HO278; clear HO286; clear HB; have BK221 := n0_; have BK222 := n1_; have HO231 := n2_; have HO238 := n3_; have HO245 := n4_; have BK246 := n5_; have HO253 := n6_; have BK254 := n7_; have HO261 := n8_; have BK262 := n9_; have HO269 := n10_; have BK270 := n11_; have HO278 := n12_; have HO286 := n13_; have HB := n14_; clear n0_ n1_ n2_ n3_ n4_ n5_ n6_ n7_ n8_ n9_ n10_ n11_ n12_ n13_ n14_; (try clear hb); (try clear hkp); (try clear hy0)))
      (try simp only [Act.put, List.setIfInBounds_toArray, List.set_cons_zero, List.set_cons_succ])
      go_cut [63] (fun v63 wc => ∃ (kq : Nat) (x63_34 : Bool), v63 = .bool x63_34 ∧ Aside0 (laws_FnExactMeetMask.j0 kq x63_34 a0_0 a0_1 a0_2 a0_3 l0_4 a1_0 a1_1 a1_2 a1_3 l1_4 t239 t240 t241 t242 t243 t263 t264 t265 t266 t267 = some r) ∧ Aside0 (kq ≤ k) ∧ Aside0 (Kd.R (Kd.int .i64) 3 wc w.heap.size (fun k_ => some k_ ≠ ((.slice Ao65 t251.length co65) : Value).ownBlock ∧ some k_ ≠ ((.slice Ao75 t259.length co75) : Value).ownBlock ∧ some k_ ≠ ((.slice Ao85 t267.length co85) : Value).ownBlock) (.slice Ao55 t243.length co55) t243) ∧ Aside0 (Kd.R (Kd.int .i64) 3 wc w.heap.size (fun k_ => some k_ ≠ ((.slice Ao55 t243.length co55) : Value).ownBlock ∧ some k_ ≠ ((.slice Ao75 t259.length co75) : Value).ownBlock ∧ some k_ ≠ ((.slice Ao85 t267.length co85) : Value).ownBlock) (.slice Ao65 t251.length co65) t289) ∧ Aside0 (Kd.R (Kd.int .i64) 3 wc w.heap.size (fun k_ => some k_ ≠ ((.slice Ao55 t243.length co55) : Value).ownBlock ∧ some k_ ≠ ((.slice Ao65 t251.length co65) : Value).ownBlock ∧ some k_ ≠ ((.slice Ao85 t267.length co85) : Value).ownBlock) (.slice Ao75 t259.length co75) t291) ∧ Aside0 (Kd.R (Kd.int .i64) 3 wc w.heap.size (fun k_ => some k_ ≠ ((.slice Ao55 t243.length co55) : Value).ownBlock ∧ some k_ ≠ ((.slice Ao65 t251.length co65) : Value).ownBlock ∧ some k_ ≠ ((.slice Ao75 t259.length co75) : Value).ownBlock) (.slice Ao85 t267.length co85) t267) ∧ Aside0 (wc.heap[gb221]? = some (.cells #[.int .i64 a0_0, .int .i64 a0_1, .int .i64 a0_2, .int .i64 a0_3, (.slice A0_4 l0_4.length c0_4)] 59 (0, 0))) ∧ Aside0 (wc.heap[gb222]? = some (.cells #[.int .i64 a1_0, .int .i64 a1_1, .int .i64 a1_2, .int .i64 a1_3, (.slice A1_4 l1_4.length c1_4)] 59 (0, 0))) ∧ Aside0 (wc.heap[gb246]? = some (.cells #[.int .i64 t239, .int .i64 t240, .int .i64 t241, .int .i64 t242, (.slice Ao55 t243.length co55)] 64 (0, 0))) ∧ Aside0 (wc.heap[gb254]? = some (.cells #[.int .i64 t247, .int .i64 t248, .int .i64 t249, .int .i64 t250, (.slice Ao65 t251.length co65)] 64 (0, 0))) ∧ Aside0 (wc.heap[gb262]? = some (.cells #[.int .i64 t255, .int .i64 t256, .int .i64 t257, .int .i64 t258, (.slice Ao75 t259.length co75)] 64 (0, 0))) ∧ Aside0 (wc.heap[gb270]? = some (.cells #[.int .i64 t263, .int .i64 t264, .int .i64 t265, .int .i64 t266, (.slice Ao85 t267.length co85)] 64 (0, 0))) ∧ Aside0 (Below w.heap.size w wc))
      case first =>
       have H := HC35.out; clear HC35
       by_cases c100 : t290 < 0
       ·rw [if_pos c100] at H
        have c100b0 : decide (t290 < 0) = true := decide_eq_true c100
        clear c100
        (first | rw [c100b0] | (simp only [i64_w, i32_w]; rw [c100b0]) | skip)
        have H' := Aside0.mk H
        clear H
        go_wp2
        go_meet
        case rel => exact ⟨_, (true), (by first | rfl | (simp; done) | (simp [*]; done)), H', ⟨by first | omega | exact Nat.le_refl _⟩, ⟨by (with_reducible repeat (first | apply Kd.R_alloc | apply Kd.R_drewN | apply Kd.R_drew)); exact Kd.R_mono HO245.out (fun _ hk => ⟨hk.2.2.1, ⟨hk.2.2.2.1, hk.2.2.2.2.1⟩⟩)⟩, ⟨by (with_reducible repeat (first | apply Kd.R_alloc | apply Kd.R_drewN | apply Kd.R_drew)); exact Kd.R_mono HO253.out (fun _ hk => ⟨hk.2.2.1, ⟨hk.2.2.2.1, hk.2.2.2.2.1⟩⟩)⟩, ⟨by (with_reducible repeat (first | apply Kd.R_alloc | apply Kd.R_drewN | apply Kd.R_drew)); exact Kd.R_mono HO261.out (fun _ hk => ⟨hk.2.2.1, ⟨hk.2.2.2.1, hk.2.2.2.2.1⟩⟩)⟩, ⟨by (with_reducible repeat (first | apply Kd.R_alloc | apply Kd.R_drewN | apply Kd.R_drew)); exact Kd.R_mono HO269.out (fun _ hk => ⟨hk.2.2.1, ⟨hk.2.2.2.1, hk.2.2.2.2.1⟩⟩)⟩, ⟨by (with_reducible repeat (first | refine blk_drewN ?_ _ | refine blk_drew ?_ | refine blk_alloc ?_ _)); exact BK221.out⟩, ⟨by (with_reducible repeat (first | refine blk_drewN ?_ _ | refine blk_drew ?_ | refine blk_alloc ?_ _)); exact BK222.out⟩, ⟨by (with_reducible repeat (first | refine blk_drewN ?_ _ | refine blk_drew ?_ | refine blk_alloc ?_ _)); exact BK246.out⟩, ⟨by (with_reducible repeat (first | refine blk_drewN ?_ _ | refine blk_drew ?_ | refine blk_alloc ?_ _)); exact BK254.out⟩, ⟨by (with_reducible repeat (first | refine blk_drewN ?_ _ | refine blk_drew ?_ | refine blk_alloc ?_ _)); exact BK262.out⟩, ⟨by (with_reducible repeat (first | refine blk_drewN ?_ _ | refine blk_drew ?_ | refine blk_alloc ?_ _)); exact BK270.out⟩, ⟨by repeat (first | (with_reducible first | exact HB.out | apply below_alloc | apply pw_below_drewN | apply below_drew1 | refine below_set ?_ GE221.out | refine below_set ?_ GE222.out | refine below_set ?_ GE246.out | refine below_set ?_ GE254.out | refine below_set ?_ GE262.out | refine below_set ?_ GE270.out) | exact HB.out)⟩⟩
       ·rw [if_neg c100] at H
        have c100b0 : decide (t290 < 0) = false := decide_eq_false c100
        clear c100
        (first | rw [c100b0] | (simp only [i64_w, i32_w]; rw [c100b0]) | skip)
        replace H := Option.bind_eq_some_iff.mp H
        obtain ⟨t292, A1010, H⟩ := H
        try dsimp only at H
        have A101 := Aside0.mk A1010
        clear A1010
        have H' := Aside0.mk H
        clear H; have hnb102 := NB270_221.out; have hnc102 := NB221_270.out; have hnb103 := NB270_222.out; have hnc103 := NB222_270.out; have hnb104 := NB270_246.out; have hnc104 := NB246_270.out; have hnb105 := NB270_254.out; have hnc105 := NB254_270.out; have hnb106 := NB270_262.out; have hnc106 := NB262_270.out
        obtain ⟨_, _, _, _, _, _, _, _, _, _⟩ := be_5 BK270.out
        have hnb108 := NB246_221.out; have hnc108 := NB221_246.out; have hnb109 := NB246_222.out; have hnc109 := NB222_246.out; have hnb110 := NB246_254.out; have hnc110 := NB254_246.out; have hnb111 := NB246_262.out; have hnc111 := NB262_246.out
        obtain ⟨_, _, _, _, _, _, _, _, _, _⟩ := be_5 BK246.out
        go_wp2_with (first | (go_at_call 34; (with_reducible refine (laws_eqMask.calls k t263 t264 t265 t266 _ _ t267 t239 t240 t241 t242 _ _ t243 t292 _ ?side1 ?side2 ?side3 ?side4 A101.out).mono ?_); (case side1 => repeat (first | exact (Kd.R_reads' HO269.out).2.2 | (with_reducible refine Kd.C_alloc ?_ _) | (with_reducible refine Kd.C_drewN ?_ _) | (with_reducible refine Kd.C_drew ?_))); (case side2 => exact (Kd.R_reads' HO269.out).2.1); (case side3 => repeat (first | exact (Kd.R_reads' HO245.out).2.2 | (with_reducible refine Kd.C_alloc ?_ _) | (with_reducible refine Kd.C_drewN ?_ _) | (with_reducible refine Kd.C_drew ?_))); (case side4 => exact (Kd.R_reads' HO245.out).2.1); rintro e w113 ⟨rfl, hb⟩; have n0_ := Aside0.mk (Kd.R_below z10_12 hb); have n1_ := Aside0.mk (Kd.R_below z10_17 hb); have n2_ := Aside0.mk (Kd.R_below z10_26 hb); have n3_ := Aside0.mk (Kd.R_below z10_30 hb); have n4_ := Aside0.mk (Kd.R_below z10_31 hb); have n5_ := Aside0.mk (Kd.R_below z10_32 hb); have n6_ := Aside0.mk (Kd.R_below z10_63 hb); have n7_ := Aside0.mk (Kd.R_below (by (with_reducible repeat (first | apply Kd.R_alloc | apply Kd.R_drewN | apply Kd.R_drew)); exact HO286.out) hb); have n8_ := Aside0.mk (blk_belowB BK221 z10_1 hb); have n9_ := Aside0.mk (blk_belowB BK222 z10_2 hb); have n10_ := Aside0.mk (blk_belowB BK246 z10_5 hb); have n11_ := Aside0.mk (blk_belowB BK254 z10_8 hb); have n12_ := Aside0.mk (blk_belowB BK262 z10_10 hb); have n13_ := Aside0.mk (blk_belowB BK270 z10_11 hb); have n14_ := Aside0.mk (below_step z10_3 hb); clear HO231; clear HO238; clear HO245; clear HO253; clear HO261; clear HO269; clear HO278; clear HO286; clear BK221; clear BK222; clear BK246; clear BK254; clear BK262; clear BK270; clear HB; have HO231 := n0_; have HO238 := n1_; have HO245 := n2_; have HO253 := n3_; have HO261 := n4_; have HO269 := n5_; have HO278 := n6_; have HO286 := n7_; have BK221 := n8_; have BK222 := n9_; have BK246 := n10_; have BK254 := n11_; have BK262 := n12_; have BK270 := n13_; have HB := n14_; clear n0_ n1_ n2_ n3_ n4_ n5_ n6_ n7_ n8_ n9_ n10_ n11_ n12_ n13_ n14_; (try clear hb)))
        go_meet
        case rel => exact ⟨_, (!t292), (by first | rfl | (simp; done) | (simp [*]; done)), H', ⟨by first | omega | exact Nat.le_refl _⟩, ⟨by (with_reducible repeat (first | apply Kd.R_alloc | apply Kd.R_drewN | apply Kd.R_drew)); exact Kd.R_mono HO245.out (fun _ hk => ⟨hk.2.2.1, ⟨hk.2.2.2.1, hk.2.2.2.2.1⟩⟩)⟩, ⟨by (with_reducible repeat (first | apply Kd.R_alloc | apply Kd.R_drewN | apply Kd.R_drew)); exact Kd.R_mono HO253.out (fun _ hk => ⟨hk.2.2.1, ⟨hk.2.2.2.1, hk.2.2.2.2.1⟩⟩)⟩, ⟨by (with_reducible repeat (first | apply Kd.R_alloc | apply Kd.R_drewN | apply Kd.R_drew)); exact Kd.R_mono HO261.out (fun _ hk => ⟨hk.2.2.1, ⟨hk.2.2.2.1, hk.2.2.2.2.1⟩⟩)⟩, ⟨by (with_reducible repeat (first | apply Kd.R_alloc | apply Kd.R_drewN | apply Kd.R_drew)); exact Kd.R_mono HO269.out (fun _ hk => ⟨hk.2.2.1, ⟨hk.2.2.2.1, hk.2.2.2.2.1⟩⟩)⟩, ⟨by (with_reducible repeat (first | refine blk_drewN ?_ _ | refine blk_drew ?_ | refine blk_alloc ?_ _)); exact BK221.out⟩, ⟨by (with_reducible repeat (first | refine blk_drewN ?_ _ | refine blk_drew ?_ | refine blk_alloc ?_ _)); exact BK222.out⟩, ⟨by (with_reducible repeat (first | refine blk_drewN ?_ _ | refine blk_drew ?_ | refine blk_alloc ?_ _)); exact BK246.out⟩, ⟨by (with_reducible repeat (first | refine blk_drewN ?_ _ | refine blk_drew ?_ | refine blk_alloc ?_ _)); exact BK254.out⟩, ⟨by (with_reducible repeat (first | refine blk_drewN ?_ _ | refine blk_drew ?_ | refine blk_alloc ?_ _)); exact BK262.out⟩, ⟨by (with_reducible repeat (first | refine blk_drewN ?_ _ | refine blk_drew ?_ | refine blk_alloc ?_ _)); exact BK270.out⟩, ⟨by repeat (first | (with_reducible first | exact HB.out | apply below_alloc | apply pw_below_drewN | apply below_drew1 | refine below_set ?_ GE221.out | refine below_set ?_ GE222.out | refine below_set ?_ GE246.out | refine below_set ?_ GE254.out | refine below_set ?_ GE262.out | refine below_set ?_ GE270.out) | exact HB.out)⟩⟩
      case rest =>
       clear HC35; try clear c1
       try clear p2
       try clear c3
       try clear c5
       try clear c6
       try clear c7
       try clear c8
       try clear c10
       try clear c11
       try clear c32
       try clear c34
       try clear c55
       try clear c56
       try clear c57
       try clear c61
       try clear c62
       try clear c63
       try clear c66
       try clear c70
       try clear c71
       try clear c72
       try clear c73
       try clear c79
       try clear c80
       try clear c81
       try clear c82
       try clear c83
       try clear c100
       try clear c100b0
       try clear c102
       try clear c103
       try clear c104
       try clear c105
       try clear c106
       try clear c108
       try clear c109
       try clear c110
       try clear c111
       obtain ⟨kq, x63_34, rfl, HA, HJ34, HO_247004, HO_255004, HO_263004, HO_271004, BK221, BK222, BK246, BK254, BK262, BK270, HB⟩ := hcut
       have hl255004_34 := (Kd.R_reads' HO_255004.out).1
       rw [hl255004_34] at HO_255004
       (try simp only [hl255004_34])
       (try simp only [hl255004_34] at BK221)
       (try simp only [hl255004_34] at BK222)
       (try simp only [hl255004_34] at BK246)
       (try simp only [hl255004_34] at BK254)
       (try simp only [hl255004_34] at BK262)
       (try simp only [hl255004_34] at BK270)
       (try simp only [hl255004_34] at HO_247004)
       (try simp only [hl255004_34] at HO_263004)
       (try simp only [hl255004_34] at HO_271004)
       have hl263004_34 := (Kd.R_reads' HO_263004.out).1
       rw [hl263004_34] at HO_263004
       (try simp only [hl263004_34])
       (try simp only [hl263004_34] at BK221)
       (try simp only [hl263004_34] at BK222)
       (try simp only [hl263004_34] at BK246)
       (try simp only [hl263004_34] at BK254)
       (try simp only [hl263004_34] at BK262)
       (try simp only [hl263004_34] at BK270)
       (try simp only [hl263004_34] at HO_247004)
       (try simp only [hl263004_34] at HO_255004)
       (try simp only [hl263004_34] at HO_271004)
       cases kq with
       | zero => exact absurd HA.out (by simp [laws_FnExactMeetMask.j0])
       | succ kj34 =>
        have H := HA.out; clear HA
        simp only [laws_FnExactMeetMask.j0] at H
        by_cases c114 : x63_34 = true
        ·subst c114
         have H1 : (some false) = some r := by rw [if_pos rfl] at H; exact H
         clear H; have H := H1; clear H1
         obtain rfl := Option.some.inj H
         exact absurd hT Bool.false_ne_true
        ·replace c114 := Bool.eq_false_iff.mpr c114
         subst c114
         have H1 : ((laws_markMask.f kj34 t263 t264 t265 t266 t267 1).bind fun bt293 => ((laws_heldMask.f kj34 t263 t264 t265 t266 bt293.2 1).bind fun t295 => (if t295 < 0 then (some false) else (if t295 = bt293.1 then ((laws_toMask.f kj34 a0_0 a0_1 a0_2 a0_3 l0_4).bind fun bt296 => ((laws_toMask.f kj34 a1_0 a1_1 a1_2 a1_3 l1_4).bind fun bt303 => ((impl_MeetMask.f kj34 bt296.1 bt296.2.1 bt296.2.2.1 bt296.2.2.2.1 bt296.2.2.2.2 bt303.1 bt303.2.1 bt303.2.2.1 bt303.2.2.2.1 bt303.2.2.2.2).bind fun bt310 => ((laws_eqMask.f kj34 bt310.1 bt310.2.1 bt310.2.2.1 bt310.2.2.2.1 bt310.2.2.2.2 t239 t240 t241 t242 t243).bind fun t318 => (if t318 = true then ((laws_heldMask.f kj34 t263 t264 t265 t266 bt293.2 1).bind fun t319 => (if t319 < 0 then (some false) else (if t319 = bt293.1 then (some true) else (some false)))) else (some false)))))) else (some false))))) = some r := by rw [if_neg (show ¬ (false = true) by decide)] at H; exact H
         clear H; have H := H1; clear H1
         replace H := Option.bind_eq_some_iff.mp H
         obtain ⟨⟨t293, t294⟩, A1150, H⟩ := H
         try dsimp only at H
         have A115 := Aside0.mk A1150
         clear A1150
         replace H := Option.bind_eq_some_iff.mp H
         obtain ⟨t295, A1160, H⟩ := H
         try dsimp only at H
         have A116 := Aside0.mk A1160
         clear A1160
         by_cases c117 : t295 < 0
         ·rw [if_pos c117] at H
          have c117b0 : decide (t295 < 0) = true := decide_eq_true c117
          clear c117
          obtain rfl := Option.some.inj H
          exact absurd hT Bool.false_ne_true
         ·rw [if_neg c117] at H
          have c117b0 : decide (t295 < 0) = false := decide_eq_false c117
          clear c117
          by_cases c118 : t295 = t293
          ·rw [if_pos c118] at H
           have c118b0 : (t295 == t293) = true := beq_iff_eq.mpr c118
           have c118b1 : (t295 != t293) = false := bne_eq_false_iff_eq.mpr c118
           clear c118
           replace H := Option.bind_eq_some_iff.mp H
           obtain ⟨⟨t296, t297, t298, t299, t300⟩, A1190, H⟩ := H
           try dsimp only at H
           have A119 := Aside0.mk A1190
           clear A1190
           replace H := Option.bind_eq_some_iff.mp H
           obtain ⟨⟨t303, t304, t305, t306, t307⟩, A1200, H⟩ := H
           try dsimp only at H
           have A120 := Aside0.mk A1200
           clear A1200
           replace H := Option.bind_eq_some_iff.mp H
           obtain ⟨⟨t310, t311, t312, t313, t314⟩, A1210, H⟩ := H
           try dsimp only at H
           have A121 := Aside0.mk A1210
           clear A1210
           replace H := Option.bind_eq_some_iff.mp H
           obtain ⟨t318, A1220, H⟩ := H
           try dsimp only at H
           have A122 := Aside0.mk A1220
           clear A1220
           by_cases c123 : t318 = true
           ·subst c123
            have H1 : ((laws_heldMask.f kj34 t263 t264 t265 t266 t294 1).bind fun t319 => (if t319 < 0 then (some false) else (if t319 = t293 then (some true) else (some false)))) = some r := by rw [if_pos rfl] at H; exact H
            clear H; have H := H1; clear H1
            replace H := Option.bind_eq_some_iff.mp H
            obtain ⟨t319, A1240, H⟩ := H
            try dsimp only at H
            have A124 := Aside0.mk A1240
            clear A1240
            by_cases c125 : t319 < 0
            ·rw [if_pos c125] at H
             have c125b0 : decide (t319 < 0) = true := decide_eq_true c125
             clear c125
             obtain rfl := Option.some.inj H
             exact absurd hT Bool.false_ne_true
            ·rw [if_neg c125] at H
             have c125b0 : decide (t319 < 0) = false := decide_eq_false c125
             clear c125
             by_cases c126 : t319 = t293
             ·rw [if_pos c126] at H
              have c126b0 : (t319 == t293) = true := beq_iff_eq.mpr c126
              have c126b1 : (t319 != t293) = false := bne_eq_false_iff_eq.mpr c126
              clear c126
              obtain rfl := Option.some.inj H
              simp only [Option.some.injEq, Prod.mk.injEq] at H
              obtain ⟨rfl⟩ := H
              have hnb127 := NB270_221.out; have hnc127 := NB221_270.out; have hnb128 := NB270_222.out; have hnc128 := NB222_270.out; have hnb129 := NB270_246.out; have hnc129 := NB246_270.out; have hnb130 := NB270_254.out; have hnc130 := NB254_270.out; have hnb131 := NB270_262.out; have hnc131 := NB262_270.out
              obtain ⟨_, _, _, _, _, _, _, _, _, _⟩ := be_5 BK270.out
              try go_wp2_with (first | ((with_reducible refine gate_callee (f := 56) rfl ?_); refine goesL_ (some 66) rfl rfl Try.func56 (by kernel_rfl) rfl #[.agg #[.int .i64 t263, .int .i64 t264, .int .i64 t265, .int .i64 t266, .slice Ao85 t267.length co85], .int .i64 1] rfl z10_6 ?_; (with_reducible refine (laws_markMask.calls kj34 t263 t264 t265 t266 (fun k_ => some k_ = (.slice Ao85 t267.length co85 : Value).ownBlock) (.slice Ao85 t267.length co85) t267 1 t293 t294 w _ ?side1 ?side2 A115.out).mono ?_); (case side1 => exact z10_34); (case side2 => exact Kd.R_tight rfl HO_271004.out); rintro e w133 ⟨rfl, hy0, hb, hkp⟩; refine ⟨_, rfl, ?_⟩; have n0_ := Aside0.mk (Kd.R_mono (ok' := fun k_ => some k_ ≠ (.slice Ao65 t289.length co65 : Value).ownBlock ∧ some k_ ≠ (.slice Ao75 t291.length co75 : Value).ownBlock ∧ some k_ ≠ (.slice Ao85 t267.length co85 : Value).ownBlock) (Kd.R_keptB (HO_247004.out) hkp (fun k_ hk_ hs_ => (hk_.2.2) hs_)) (fun k_ hk_ => ⟨hk_.1.1, hk_.1.2.1, hk_.1.2.2⟩)); have n1_ := Aside0.mk (Kd.R_mono (ok' := fun k_ => some k_ ≠ (.slice Ao55 t243.length co55 : Value).ownBlock ∧ some k_ ≠ (.slice Ao75 t291.length co75 : Value).ownBlock ∧ some k_ ≠ (.slice Ao85 t267.length co85 : Value).ownBlock) (Kd.R_keptB (HO_255004.out) hkp (fun k_ hk_ hs_ => (hk_.2.2) hs_)) (fun k_ hk_ => ⟨hk_.1.1, hk_.1.2.1, hk_.1.2.2⟩)); have n2_ := Aside0.mk (Kd.R_mono (ok' := fun k_ => some k_ ≠ (.slice Ao55 t243.length co55 : Value).ownBlock ∧ some k_ ≠ (.slice Ao65 t289.length co65 : Value).ownBlock ∧ some k_ ≠ (.slice Ao85 t267.length co85 : Value).ownBlock) (Kd.R_keptB (HO_263004.out) hkp (fun k_ hk_ hs_ => (hk_.2.2) hs_)) (fun k_ hk_ => ⟨hk_.1.1, hk_.1.2.1, hk_.1.2.2⟩)); have n3_ := Aside0.mk (Kd.R_reok rfl hy0 (fun k_ e_ => HO_271004.out.1 k_ e_)); have n4_ := Aside0.mk (blk_kept z10_1 hkp (fun hs_ => (fun e_ => (Kd.R_ne HO_271004.out BK221.out (by decide)) e_) hs_)); have n5_ := Aside0.mk (blk_kept z10_2 hkp (fun hs_ => (fun e_ => (Kd.R_ne HO_271004.out BK222.out (by decide)) e_) hs_)); have n6_ := Aside0.mk (blk_kept z10_5 hkp (fun hs_ => (fun e_ => (Kd.R_ne HO_271004.out BK246.out (by decide)) e_) hs_)); have n7_ := Aside0.mk (blk_kept z10_8 hkp (fun hs_ => (fun e_ => (Kd.R_ne HO_271004.out BK254.out (by decide)) e_) hs_)); have n8_ := Aside0.mk (blk_kept z10_10 hkp (fun hs_ => (fun e_ => (Kd.R_ne HO_271004.out BK262.out (by decide)) e_) hs_)); have n9_ := Aside0.mk (blk_kept z10_11 hkp (fun hs_ => (fun e_ => (Kd.R_ne HO_271004.out BK270.out (by decide)) e_) hs_)); have n10_ := Aside0.mk (hb); clear HO_247004; clear HO_255004; clear HO_263004; clear HO_271004; clear BK221; clear BK222; clear BK246; clear BK254; clear BK262; clear BK270; clear HB; have HO_247004 := n0_; have HO_255004 := n1_; have HO_263004 := n2_; have HO_271004 := n3_; have BK221 := n4_; have BK222 := n5_; have BK246 := n6_; have BK254 := n7_; have BK262 := n8_; have BK270 := n9_; have HB := n10_; clear n0_ n1_ n2_ n3_ n4_ n5_ n6_ n7_ n8_ n9_ n10_; (try clear hb); (try clear hkp); (try clear hy0); obtain ⟨_, _, _, _, _, _, _, _, _, _⟩ := be_5 BK270.out) | ((with_reducible refine gate_callee (f := 57) rfl ?_); refine goesL_ (some 69) rfl rfl Try.func57 (by kernel_rfl) rfl #[.agg #[.int .i64 t263, .int .i64 t264, .int .i64 t265, .int .i64 t266, .slice Ao85 t294.length co85], .int .i64 1] rfl z10_64 ?_; (with_reducible refine (laws_heldMask.calls kj34 t263 t264 t265 t266 _ _ t294 1 t295 _ ?side1 ?side2 A116.out).mono ?_); (case side1 => exact z10_66); (case side2 => rw [show t294.length = t267.length from (Kd.R_reads' HO_271004.out).1.symm]; exact (Kd.R_reads' HO_271004.out).2.1); rintro e w135 ⟨rfl, hb⟩; refine ⟨_, rfl, ?_⟩; have n0_ := Aside0.mk (Kd.R_below z10_13 hb); have n1_ := Aside0.mk (Kd.R_below z10_14 hb); have n2_ := Aside0.mk (Kd.R_below z10_15 hb); have n3_ := Aside0.mk (Kd.R_below z10_16 hb); have n4_ := Aside0.mk (blk_belowB BK221 z10_1 hb); have n5_ := Aside0.mk (blk_belowB BK222 z10_2 hb); have n6_ := Aside0.mk (blk_belowB BK246 z10_5 hb); have n7_ := Aside0.mk (blk_belowB BK254 z10_8 hb); have n8_ := Aside0.mk (blk_belowB BK262 z10_10 hb); have n9_ := Aside0.mk (blk_belowB BK270 z10_11 hb); have n10_ := Aside0.mk (below_step z10_3 hb); clear HO_247004; clear HO_255004; clear HO_263004; clear HO_271004; clear BK221; clear BK222; clear BK246; clear BK254; clear BK262; clear BK270; clear HB; have HO_247004 := n0_; have HO_255004 := n1_; have HO_263004 := n2_; have HO_271004 := n3_; have BK221 := n4_; have BK222 := n5_; have BK246 := n6_; have BK254 := n7_; have BK262 := n8_; have BK270 := n9_; have HB := n10_; clear n0_ n1_ n2_ n3_ n4_ n5_ n6_ n7_ n8_ n9_ n10_; (try clear hb)))
              have n0_ := Aside0.mk (Kd.R_drew HO_247004.out)
              have n1_ := Aside0.mk (Kd.R_drew HO_255004.out)
              have n2_ := Aside0.mk (Kd.R_drew HO_263004.out)
              have n3_ := Aside0.mk (Kd.R_drew HO_271004.out)
              have n4_ := Aside0.mk (blk_drew BK221.out)
              have n5_ := Aside0.mk (blk_drew BK222.out)
              have n6_ := Aside0.mk (blk_drew BK246.out)
              have n7_ := Aside0.mk (blk_drew BK254.out)
              have n8_ := Aside0.mk (blk_drew BK262.out)
              have n9_ := Aside0.mk (blk_drew BK270.out)
              have n10_ := Aside0.mk (below_drew1 HB.out)
              clear HO_247004; clear HO_255004; clear HO_263004; clear HO_271004; clear BK221; clear BK222; clear BK246; clear BK254; clear BK262; clear BK270; clear HB; have HO_247004 := n0_; have HO_255004 := n1_; have HO_263004 := n2_; have HO_271004 := n3_; have BK221 := n4_; have BK222 := n5_; have BK246 := n6_; have BK254 := n7_; have BK262 := n8_; have BK270 := n9_; have HB := n10_; clear n0_ n1_ n2_ n3_ n4_ n5_ n6_ n7_ n8_ n9_ n10_
              refine start_ (n := 7) (S := fun w' => w'.cell? ⟨gb221, 0, none⟩ = some (.int .i64 a0_0) ∧ w'.cell? ⟨gb221, 1, none⟩ = some (.int .i64 a0_1) ∧ w'.cell? ⟨gb221, 2, none⟩ = some (.int .i64 a0_2) ∧ w'.cell? ⟨gb221, 3, none⟩ = some (.int .i64 a0_3) ∧ w'.cell? ⟨gb221, 4, none⟩ = some (.slice A0_4 l0_4.length c0_4) ∧ w'.cell? ⟨gb222, 0, none⟩ = some (.int .i64 a1_0) ∧ w'.cell? ⟨gb222, 1, none⟩ = some (.int .i64 a1_1) ∧ w'.cell? ⟨gb222, 2, none⟩ = some (.int .i64 a1_2) ∧ w'.cell? ⟨gb222, 3, none⟩ = some (.int .i64 a1_3) ∧ w'.cell? ⟨gb222, 4, none⟩ = some (.slice A1_4 l1_4.length c1_4)) (ds := []) #[false, false, false, false, false, false, false] (by kernel_rfl) rfl rfl ⟨(blk_cell BK221.out 0).trans rfl, (blk_cell BK221.out 1).trans rfl, (blk_cell BK221.out 2).trans rfl, (blk_cell BK221.out 3).trans rfl, (blk_cell BK221.out 4).trans rfl, (blk_cell BK222.out 0).trans rfl, (blk_cell BK222.out 1).trans rfl, (blk_cell BK222.out 2).trans rfl, (blk_cell BK222.out 3).trans rfl, (blk_cell BK222.out 4).trans rfl⟩ (fun hHeld => ?_)
              generalize w135.drew = w136 at HO_247004 HO_255004 HO_263004 HO_271004 BK221 BK222 BK246 BK254 BK262 BK270 HB hHeld ⊢
              refine take_ (i := 0) (N := some 75) (v := ?_) (a' := ?_) #[true, false, false, false, false, false, false] rfl rfl (by kernel_rfl) (fun _ _ _ h => h) (Or.inl ⟨by rfl, ?_⟩) hHeld ?_ ?_
              rotate_left
              ·rintro w' ⟨s0, s1, s2, s3, s4, s5, s6, s7, s8, s9⟩
               go_simp; with_reducible rfl
              rotate_left
              ·exact x10_put
              refine take_ (i := 2) (N := some 77) (v := ?_) (a' := ?_) #[true, false, true, false, false, false, false] rfl rfl (by kernel_rfl) (fun _ _ _ h => h) (Or.inl ⟨by rfl, ?_⟩) hHeld ?_ ?_
              rotate_left
              ·rintro w' ⟨s0, s1, s2, s3, s4, s5, s6, s7, s8, s9⟩
               go_simp; with_reducible rfl
              rotate_left
              ·exact x10_put
              refine join_ (σ := Value × Value × Value × Nat) 1 #[true, true, true, true, true, true, false] (fun s_ => [(76, .agg #[.int .i64 t296, .int .i64 t297, .int .i64 t298, .int .i64 t299, s_.1]), (78, .agg #[.int .i64 t303, .int .i64 t304, .int .i64 t305, .int .i64 t306, s_.2.1]), (79, .agg #[.int .i64 t310, .int .i64 t311, .int .i64 t312, .int .i64 t313, s_.2.2.1]), (13, .pointer (some ⟨s_.2.2.2, 0, none⟩))]) (fun s_ w' => (w'.cell? ⟨gb221, 0, none⟩ = some (.int .i64 a0_0) ∧ w'.cell? ⟨gb221, 1, none⟩ = some (.int .i64 a0_1) ∧ w'.cell? ⟨gb221, 2, none⟩ = some (.int .i64 a0_2) ∧ w'.cell? ⟨gb221, 3, none⟩ = some (.int .i64 a0_3) ∧ w'.cell? ⟨gb221, 4, none⟩ = some (.slice A0_4 l0_4.length c0_4) ∧ w'.cell? ⟨gb222, 0, none⟩ = some (.int .i64 a1_0) ∧ w'.cell? ⟨gb222, 1, none⟩ = some (.int .i64 a1_1) ∧ w'.cell? ⟨gb222, 2, none⟩ = some (.int .i64 a1_2) ∧ w'.cell? ⟨gb222, 3, none⟩ = some (.int .i64 a1_3) ∧ w'.cell? ⟨gb222, 4, none⟩ = some (.slice A1_4 l1_4.length c1_4)) ∧ (Kd.R (Kd.int .i64) 3 w' w.heap.size (fun k_ => some k_ ≠ (s_.2.1 : Value).ownBlock ∧ some k_ ≠ (s_.2.2.1 : Value).ownBlock ∧ some k_ ≠ (.slice Ao55 t243.length co55 : Value).ownBlock ∧ some k_ ≠ (.slice Ao65 t289.length co65 : Value).ownBlock ∧ some k_ ≠ (.slice Ao75 t291.length co75 : Value).ownBlock ∧ some k_ ≠ (.slice Ao85 t267.length co85 : Value).ownBlock) s_.1 t300) ∧ (Kd.R (Kd.int .i64) 3 w' w.heap.size (fun k_ => some k_ ≠ (s_.1 : Value).ownBlock ∧ some k_ ≠ (s_.2.2.1 : Value).ownBlock ∧ some k_ ≠ (.slice Ao55 t243.length co55 : Value).ownBlock ∧ some k_ ≠ (.slice Ao65 t289.length co65 : Value).ownBlock ∧ some k_ ≠ (.slice Ao75 t291.length co75 : Value).ownBlock ∧ some k_ ≠ (.slice Ao85 t267.length co85 : Value).ownBlock) s_.2.1 t307) ∧ (Kd.R (Kd.int .i64) 3 w' w.heap.size (fun k_ => some k_ ≠ (s_.1 : Value).ownBlock ∧ some k_ ≠ (s_.2.1 : Value).ownBlock ∧ some k_ ≠ (.slice Ao55 t243.length co55 : Value).ownBlock ∧ some k_ ≠ (.slice Ao65 t289.length co65 : Value).ownBlock ∧ some k_ ≠ (.slice Ao75 t291.length co75 : Value).ownBlock ∧ some k_ ≠ (.slice Ao85 t267.length co85 : Value).ownBlock) s_.2.2.1 t314) ∧ (Kd.R (Kd.int .i64) 3 w' w.heap.size (fun k_ => some k_ ≠ (s_.1 : Value).ownBlock ∧ some k_ ≠ (s_.2.1 : Value).ownBlock ∧ some k_ ≠ (s_.2.2.1 : Value).ownBlock ∧ some k_ ≠ (.slice Ao65 t289.length co65 : Value).ownBlock ∧ some k_ ≠ (.slice Ao75 t291.length co75 : Value).ownBlock ∧ some k_ ≠ (.slice Ao85 t267.length co85 : Value).ownBlock) (.slice Ao55 t243.length co55) t243) ∧ (Kd.R (Kd.int .i64) 3 w' w.heap.size (fun k_ => some k_ ≠ (s_.1 : Value).ownBlock ∧ some k_ ≠ (s_.2.1 : Value).ownBlock ∧ some k_ ≠ (s_.2.2.1 : Value).ownBlock ∧ some k_ ≠ (.slice Ao55 t243.length co55 : Value).ownBlock ∧ some k_ ≠ (.slice Ao75 t291.length co75 : Value).ownBlock ∧ some k_ ≠ (.slice Ao85 t267.length co85 : Value).ownBlock) (.slice Ao65 t289.length co65) t289) ∧ (Kd.R (Kd.int .i64) 3 w' w.heap.size (fun k_ => some k_ ≠ (s_.1 : Value).ownBlock ∧ some k_ ≠ (s_.2.1 : Value).ownBlock ∧ some k_ ≠ (s_.2.2.1 : Value).ownBlock ∧ some k_ ≠ (.slice Ao55 t243.length co55 : Value).ownBlock ∧ some k_ ≠ (.slice Ao65 t289.length co65 : Value).ownBlock ∧ some k_ ≠ (.slice Ao85 t267.length co85 : Value).ownBlock) (.slice Ao75 t291.length co75) t291) ∧ (Kd.R (Kd.int .i64) 3 w' w.heap.size (fun k_ => some k_ ≠ (s_.1 : Value).ownBlock ∧ some k_ ≠ (s_.2.1 : Value).ownBlock ∧ some k_ ≠ (s_.2.2.1 : Value).ownBlock ∧ some k_ ≠ (.slice Ao55 t243.length co55 : Value).ownBlock ∧ some k_ ≠ (.slice Ao65 t289.length co65 : Value).ownBlock ∧ some k_ ≠ (.slice Ao75 t291.length co75 : Value).ownBlock) (.slice Ao85 t267.length co85) t294) ∧ (w'.heap[gb221]? = some (.cells #[.int .i64 a0_0, .int .i64 a0_1, .int .i64 a0_2, .int .i64 a0_3, .slice A0_4 l0_4.length c0_4] 59 (0, 0))) ∧ (w'.heap[gb222]? = some (.cells #[.int .i64 a1_0, .int .i64 a1_1, .int .i64 a1_2, .int .i64 a1_3, .slice A1_4 l1_4.length c1_4] 59 (0, 0))) ∧ (w'.heap[gb246]? = some (.cells #[.int .i64 t239, .int .i64 t240, .int .i64 t241, .int .i64 t242, .slice Ao55 t243.length co55] 64 (0, 0))) ∧ (w'.heap[gb254]? = some (.cells #[.int .i64 t247, .int .i64 t248, .int .i64 t249, .int .i64 t250, .slice Ao65 t289.length co65] 64 (0, 0))) ∧ (w'.heap[gb262]? = some (.cells #[.int .i64 t255, .int .i64 t256, .int .i64 t257, .int .i64 t258, .slice Ao75 t291.length co75] 64 (0, 0))) ∧ (w'.heap[gb270]? = some (.cells #[.int .i64 t263, .int .i64 t264, .int .i64 t265, .int .i64 t266, .slice Ao85 t267.length co85] 64 (0, 0))) ∧ (w'.heap[s_.2.2.2]? = some (.cells #[.int .i64 0, .int .i64 0, .int .i64 0, .int .i64 0, .slice none 0 0] 64 (0, 0))) ∧ (w.heap.size ≤ s_.2.2.2) ∧ (w.heap.size ≤ s_.2.2.2) ∧ (gb221 ≠ s_.2.2.2) ∧ (s_.2.2.2 ≠ gb221) ∧ (gb222 ≠ s_.2.2.2) ∧ (s_.2.2.2 ≠ gb222) ∧ (gb246 ≠ s_.2.2.2) ∧ (s_.2.2.2 ≠ gb246) ∧ (gb254 ≠ s_.2.2.2) ∧ (s_.2.2.2 ≠ gb254) ∧ (gb262 ≠ s_.2.2.2) ∧ (s_.2.2.2 ≠ gb262) ∧ (gb270 ≠ s_.2.2.2) ∧ (s_.2.2.2 ≠ gb270) ∧ (Below w.heap.size w w')) ?_ ?_
              rotate_left
              ·intro hCont
               refine two_ (i := 1) (j := 5) (Ni := some 76) (Nj := some 13) #[true, true, true, false, false, false, false] #[true, false, true, false, false, true, false] rfl rfl rfl rfl (by kernel_rfl) (by decide) (by decide) (fun K hK => ?_) (fun K hK => ?_)
               ·skip
                refine goes_ Try.func32 (by kernel_rfl) rfl #[.agg #[.int .i64 a0_0, .int .i64 a0_1, .int .i64 a0_2, .int .i64 a0_3, .slice A0_4 l0_4.length c0_4]] (by rfl) rfl rfl z10_6 ?_
                with_reducible refine (laws_toMask.calls kj34 a0_0 a0_1 a0_2 a0_3 _ _ l0_4 t296 t297 t298 t299 t300 _ ?side1 ?side2 A119.out).mono ?_
                (case side1 => exact z10_22)
                (case side2 => exact HC0_4.out)
                rintro e w137 ⟨v301, rfl, ho0, hb⟩
                refine ⟨_, rfl, ?_⟩
                have n0_ := Aside0.mk (Kd.R_elder' z10_13 (Kd.R_base ho0) hb)
                have n1_ := Aside0.mk (Kd.R_elder' z10_14 (Kd.R_base ho0) hb)
                have n2_ := Aside0.mk (Kd.R_elder' z10_15 (Kd.R_base ho0) hb)
                have n3_ := Aside0.mk (Kd.R_elder' z10_16 (Kd.R_base ho0) hb)
                have n4_ := Aside0.mk (Kd.R_lower (Kd.R_new' (Kd.R_new' (Kd.R_new' (Kd.R_new' ho0 (Kd.R_lt z10_13)) (Kd.R_lt z10_14)) (Kd.R_lt z10_15)) (Kd.R_lt z10_16)) (below_size z10_3))
                have n5_ := Aside0.mk (blk_belowB BK221 z10_1 hb)
                have n6_ := Aside0.mk (blk_belowB BK222 z10_2 hb)
                have n7_ := Aside0.mk (blk_belowB BK246 z10_5 hb)
                have n8_ := Aside0.mk (blk_belowB BK254 z10_8 hb)
                have n9_ := Aside0.mk (blk_belowB BK262 z10_10 hb)
                have n10_ := Aside0.mk (blk_belowB BK270 z10_11 hb)
                have n11_ := Aside0.mk (below_step z10_3 hb)
                clear HO_247004; clear HO_255004; clear HO_263004; clear HO_271004; clear BK221; clear BK222; clear BK246; clear BK254; clear BK262; clear BK270; clear HB; have HO_247004 := n0_; have HO_255004 := n1_; have HO_263004 := n2_; have HO_271004 := n3_; have HO302 := n4_; have BK221 := n5_; have BK222 := n6_; have BK246 := n7_; have BK254 := n8_; have BK262 := n9_; have BK270 := n10_; have HB := n11_; clear n0_ n1_ n2_ n3_ n4_ n5_ n6_ n7_ n8_ n9_ n10_ n11_; (try clear hb); (try clear hb2); (try clear hk); (try clear hi); (try clear ho0)
                refine hK.out _ _ ⟨(blk_cell BK221.out 0).trans rfl, (blk_cell BK221.out 1).trans rfl, (blk_cell BK221.out 2).trans rfl, (blk_cell BK221.out 3).trans rfl, (blk_cell BK221.out 4).trans rfl, (blk_cell BK222.out 0).trans rfl, (blk_cell BK222.out 1).trans rfl, (blk_cell BK222.out 2).trans rfl, (blk_cell BK222.out 3).trans rfl, (blk_cell BK222.out 4).trans rfl⟩ (fun hHeld => ?_)
                clear hK K
                refine norm_ (a' := ?_) ?_ ?_
                rotate_left
                ·show Act.put _ (some 76) _ = _
                 simp only [Act.put, List.setIfInBounds_toArray, List.set_cons_zero, List.set_cons_succ, i64_w, i32_w]
                 rfl
                refine two_ (i := 3) (j := 5) (Ni := some 78) (Nj := some 13) #[true, true, true, true, false, false, false] #[true, true, true, false, false, true, false] rfl rfl rfl rfl (by kernel_rfl) (by decide) (by decide) (fun K hK => ?_) (fun K hK => ?_)
                ·skip
                 refine goes_ Try.func32 (by kernel_rfl) rfl #[.agg #[.int .i64 a1_0, .int .i64 a1_1, .int .i64 a1_2, .int .i64 a1_3, .slice A1_4 l1_4.length c1_4]] (by rfl) rfl rfl z10_6 ?_
                 with_reducible refine (laws_toMask.calls kj34 a1_0 a1_1 a1_2 a1_3 _ _ l1_4 t303 t304 t305 t306 t307 _ ?side1 ?side2 A120.out).mono ?_
                 (case side1 => exact z10_19)
                 (case side2 => exact HC1_4.out)
                 rintro e w138 ⟨v308, rfl, ho0, hb⟩
                 refine ⟨_, rfl, ?_⟩
                 have n0_ := Aside0.mk (Kd.R_elder' z10_13 (Kd.R_base ho0) hb)
                 have n1_ := Aside0.mk (Kd.R_elder' z10_14 (Kd.R_base ho0) hb)
                 have n2_ := Aside0.mk (Kd.R_elder' z10_15 (Kd.R_base ho0) hb)
                 have n3_ := Aside0.mk (Kd.R_elder' z10_16 (Kd.R_base ho0) hb)
                 have n4_ := Aside0.mk (Kd.R_elder' z10_18 (Kd.R_base ho0) hb)
                 have n5_ := Aside0.mk (Kd.R_lower (Kd.R_new' (Kd.R_new' (Kd.R_new' (Kd.R_new' (Kd.R_new' ho0 (Kd.R_lt z10_13)) (Kd.R_lt z10_14)) (Kd.R_lt z10_15)) (Kd.R_lt z10_16)) (Kd.R_lt z10_18)) (below_size z10_3))
                 have n6_ := Aside0.mk (blk_belowB BK221 z10_1 hb)
                 have n7_ := Aside0.mk (blk_belowB BK222 z10_2 hb)
                 have n8_ := Aside0.mk (blk_belowB BK246 z10_5 hb)
                 have n9_ := Aside0.mk (blk_belowB BK254 z10_8 hb)
                 have n10_ := Aside0.mk (blk_belowB BK262 z10_10 hb)
                 have n11_ := Aside0.mk (blk_belowB BK270 z10_11 hb)
                 have n12_ := Aside0.mk (below_step z10_3 hb)
                 clear HO_247004; clear HO_255004; clear HO_263004; clear HO_271004; clear HO302; clear BK221; clear BK222; clear BK246; clear BK254; clear BK262; clear BK270; clear HB; have HO_247004 := n0_; have HO_255004 := n1_; have HO_263004 := n2_; have HO_271004 := n3_; have HO302 := n4_; have HO309 := n5_; have BK221 := n6_; have BK222 := n7_; have BK246 := n8_; have BK254 := n9_; have BK262 := n10_; have BK270 := n11_; have HB := n12_; clear n0_ n1_ n2_ n3_ n4_ n5_ n6_ n7_ n8_ n9_ n10_ n11_ n12_; (try clear hb); (try clear hb2); (try clear hk); (try clear hi); (try clear ho0)
                 obtain ⟨Ao139, co139, eo139⟩ := Kd.R_slice HO302.out
                 (first | subst eo139 | (injection eo139 with f1_ f2_ f3_; have f4_ := f1_.symm; have f5_ := f3_.symm; clear f1_ f2_ f3_; subst f4_; subst f5_))
                 obtain ⟨Ao140, co140, eo140⟩ := Kd.R_slice HO309.out
                 (first | subst eo140 | (injection eo140 with f1_ f2_ f3_; have f4_ := f1_.symm; have f5_ := f3_.symm; clear f1_ f2_ f3_; subst f4_; subst f5_))
                 refine hK.out _ _ ⟨(blk_cell BK221.out 0).trans rfl, (blk_cell BK221.out 1).trans rfl, (blk_cell BK221.out 2).trans rfl, (blk_cell BK221.out 3).trans rfl, (blk_cell BK221.out 4).trans rfl, (blk_cell BK222.out 0).trans rfl, (blk_cell BK222.out 1).trans rfl, (blk_cell BK222.out 2).trans rfl, (blk_cell BK222.out 3).trans rfl, (blk_cell BK222.out 4).trans rfl⟩ (fun hHeld => ?_)
                 clear hK K
                 refine norm_ (a' := ?_) ?_ ?_
                 rotate_left
                 ·show Act.put _ (some 78) _ = _
                  simp only [Act.put, List.setIfInBounds_toArray, List.set_cons_zero, List.set_cons_succ, i64_w, i32_w]
                  rfl
                 refine two_ (i := 4) (j := 5) (Ni := some 79) (Nj := some 13) #[true, true, true, true, true, false, false] #[true, true, true, true, false, true, false] rfl rfl rfl rfl (by kernel_rfl) (by decide) (by decide) (fun K hK => ?_) (fun K hK => ?_)
                 ·skip
                  refine goes_ Try.func55 (by kernel_rfl) rfl #[.agg #[.int .i64 t296, .int .i64 t297, .int .i64 t298, .int .i64 t299, .slice Ao139 t300.length co139], .agg #[.int .i64 t303, .int .i64 t304, .int .i64 t305, .int .i64 t306, .slice Ao140 t307.length co140]] (by rfl) rfl rfl z10_6 ?_
                  with_reducible refine (impl_MeetMask.calls kj34 t296 t297 t298 t299 _ _ t300 t303 t304 t305 t306 _ _ t307 t310 t311 t312 t313 t314 _ ?side1 ?side2 ?side3 ?side4 A121.out).mono ?_
                  (case side1 => exact z10_58)
                  (case side2 => exact (Kd.R_reads' HO302.out).2.1)
                  (case side3 => exact z10_59)
                  (case side4 => exact (Kd.R_reads' HO309.out).2.1)
                  rintro e w141 ⟨v315, rfl, ho0, hb⟩
                  refine ⟨_, rfl, ?_⟩
                  have n0_ := Aside0.mk (Kd.R_elder' z10_13 (Kd.R_base ho0) hb)
                  have n1_ := Aside0.mk (Kd.R_elder' z10_14 (Kd.R_base ho0) hb)
                  have n2_ := Aside0.mk (Kd.R_elder' z10_15 (Kd.R_base ho0) hb)
                  have n3_ := Aside0.mk (Kd.R_elder' z10_16 (Kd.R_base ho0) hb)
                  have n4_ := Aside0.mk (Kd.R_elder' z10_18 (Kd.R_base ho0) hb)
                  have n5_ := Aside0.mk (Kd.R_elder' z10_27 (Kd.R_base ho0) hb)
                  have n6_ := Aside0.mk (Kd.R_lower (Kd.R_new' (Kd.R_new' (Kd.R_new' (Kd.R_new' (Kd.R_new' (Kd.R_new' ho0 (Kd.R_lt z10_13)) (Kd.R_lt z10_14)) (Kd.R_lt z10_15)) (Kd.R_lt z10_16)) (Kd.R_lt z10_18)) (Kd.R_lt z10_27)) (below_size z10_3))
                  have n7_ := Aside0.mk (blk_belowB BK221 z10_1 hb)
                  have n8_ := Aside0.mk (blk_belowB BK222 z10_2 hb)
                  have n9_ := Aside0.mk (blk_belowB BK246 z10_5 hb)
                  have n10_ := Aside0.mk (blk_belowB BK254 z10_8 hb)
                  have n11_ := Aside0.mk (blk_belowB BK262 z10_10 hb)
                  have n12_ := Aside0.mk (blk_belowB BK270 z10_11 hb)
                  have n13_ := Aside0.mk (below_step z10_3 hb)
                  clear HO_247004; clear HO_255004; clear HO_263004; clear HO_271004; clear HO302; clear HO309; clear BK221; clear BK222; clear BK246; clear BK254; clear BK262; clear BK270; clear HB; have HO_247004 := n0_; have HO_255004 := n1_; have HO_263004 := n2_; have HO_271004 := n3_; have HO302 := n4_; have HO309 := n5_; have HO316 := n6_; have BK221 := n7_; have BK222 := n8_; have BK246 := n9_; have BK254 := n10_; have BK262 := n11_; have BK270 := n12_; have HB := n13_; clear n0_ n1_ n2_ n3_ n4_ n5_ n6_ n7_ n8_ n9_ n10_ n11_ n12_ n13_; (try clear hb); (try clear hb2); (try clear hk); (try clear hi); (try clear ho0)
                  refine hK.out _ _ ⟨(blk_cell BK221.out 0).trans rfl, (blk_cell BK221.out 1).trans rfl, (blk_cell BK221.out 2).trans rfl, (blk_cell BK221.out 3).trans rfl, (blk_cell BK221.out 4).trans rfl, (blk_cell BK222.out 0).trans rfl, (blk_cell BK222.out 1).trans rfl, (blk_cell BK222.out 2).trans rfl, (blk_cell BK222.out 3).trans rfl, (blk_cell BK222.out 4).trans rfl⟩ (fun hHeld => ?_)
                  clear hK K
                  refine norm_ (a' := ?_) ?_ ?_
                  rotate_left
                  ·show Act.put _ (some 79) _ = _
                   simp only [Act.put, List.setIfInBounds_toArray, List.set_cons_zero, List.set_cons_succ, i64_w, i32_w]
                   rfl
                  refine one_ (i := 5) (N := some 13) #[true, true, true, true, true, true, false] rfl rfl (by kernel_rfl) (by decide) (fun K hK => ?_)
                  refine box_step ?hg (N := 13) ?hd (cs := #[.int .i64 0, .int .i64 0, .int .i64 0, .int .i64 0, .slice none 0 0]) (t := 64) ?hr ?_; (case hd => rfl); (case hg => rfl); (case hr => first | (go_simp; done) | (go_simp; rfl))
                  intro gb317 hg w142 hbox hb
                  have n0_ := Aside0.mk (Kd.R_below z10_13 hb)
                  have n1_ := Aside0.mk (Kd.R_below z10_14 hb)
                  have n2_ := Aside0.mk (Kd.R_below z10_15 hb)
                  have n3_ := Aside0.mk (Kd.R_below z10_16 hb)
                  have n4_ := Aside0.mk (Kd.R_below z10_18 hb)
                  have n5_ := Aside0.mk (Kd.R_below z10_27 hb)
                  have n6_ := Aside0.mk (Kd.R_below (by (with_reducible repeat (first | apply Kd.R_alloc | apply Kd.R_drewN | apply Kd.R_drew)); exact HO316.out) hb)
                  have n7_ := Aside0.mk (blk_belowB BK221 z10_1 hb)
                  have n8_ := Aside0.mk (blk_belowB BK222 z10_2 hb)
                  have n9_ := Aside0.mk (blk_belowB BK246 z10_5 hb)
                  have n10_ := Aside0.mk (blk_belowB BK254 z10_8 hb)
                  have n11_ := Aside0.mk (blk_belowB BK262 z10_10 hb)
                  have n12_ := Aside0.mk (blk_belowB BK270 z10_11 hb)
                  have n13_ := Aside0.mk (below_step z10_3 hb)
                  have n14_ := Aside0.mk (hbox)
                  have n15_ := Aside0.mk ((by rw [hg]; exact (below_size z10_3) : w.heap.size ≤ gb317))
                  have n16_ := Aside0.mk ((by rw [hg]; exact (below_size z10_3) : w.heap.size ≤ gb317))
                  have n17_ := Aside0.mk ((by rw [hg]; exact Nat.ne_of_lt (blk_ltB BK221 z10_1) : gb221 ≠ gb317))
                  have n18_ := Aside0.mk ((by rw [hg]; exact Nat.ne_of_gt (blk_ltB BK221 z10_1) : gb317 ≠ gb221))
                  have n19_ := Aside0.mk ((by rw [hg]; exact Nat.ne_of_lt (blk_ltB BK222 z10_2) : gb222 ≠ gb317))
                  have n20_ := Aside0.mk ((by rw [hg]; exact Nat.ne_of_gt (blk_ltB BK222 z10_2) : gb317 ≠ gb222))
                  have n21_ := Aside0.mk ((by rw [hg]; exact Nat.ne_of_lt (blk_ltB BK246 z10_5) : gb246 ≠ gb317))
                  have n22_ := Aside0.mk ((by rw [hg]; exact Nat.ne_of_gt (blk_ltB BK246 z10_5) : gb317 ≠ gb246))
                  have n23_ := Aside0.mk ((by rw [hg]; exact Nat.ne_of_lt (blk_ltB BK254 z10_8) : gb254 ≠ gb317))
                  have n24_ := Aside0.mk ((by rw [hg]; exact Nat.ne_of_gt (blk_ltB BK254 z10_8) : gb317 ≠ gb254))
                  have n25_ := Aside0.mk ((by rw [hg]; exact Nat.ne_of_lt (blk_ltB BK262 z10_10) : gb262 ≠ gb317))
                  have n26_ := Aside0.mk ((by rw [hg]; exact Nat.ne_of_gt (blk_ltB BK262 z10_10) : gb317 ≠ gb262))
                  have n27_ := Aside0.mk ((by rw [hg]; exact Nat.ne_of_lt (blk_ltB BK270 z10_11) : gb270 ≠ gb317))
                  have n28_ := Aside0.mk ((by rw [hg]; exact Nat.ne_of_gt (blk_ltB BK270 z10_11) : gb317 ≠ gb270))
                  clear HO_247004; clear HO_255004; clear HO_263004; clear HO_271004; clear HO302; clear HO309; clear HO316; clear BK221; clear BK222; clear BK246; clear BK254; clear BK262; clear BK270; clear HB; have HO_247004 := n0_; have HO_255004 := n1_; have HO_263004 := n2_; have HO_271004 := n3_; have HO302 := n4_; have HO309 := n5_; have HO316 := n6_; have BK221 := n7_; have BK222 := n8_; have BK246 := n9_; have BK254 := n10_; have BK262 := n11_; have BK270 := n12_; have HB := n13_; have BK317 := n14_; have GW317 := n15_; have GE317 := n16_; have NB221_317 := n17_; have NB317_221 := n18_; have NB222_317 := n19_; have NB317_222 := n20_; have NB246_317 := n21_; have NB317_246 := n22_; have NB254_317 := n23_; have NB317_254 := n24_; have NB262_317 := n25_; have NB317_262 := n26_; have NB270_317 := n27_; have NB317_270 := n28_; clear n0_ n1_ n2_ n3_ n4_ n5_ n6_ n7_ n8_ n9_ n10_ n11_ n12_ n13_ n14_ n15_ n16_ n17_ n18_ n19_ n20_ n21_ n22_ n23_ n24_ n25_ n26_ n27_ n28_; clear hb hbox hg
                  refine hK.out _ _ ⟨(blk_cell BK221.out 0).trans rfl, (blk_cell BK221.out 1).trans rfl, (blk_cell BK221.out 2).trans rfl, (blk_cell BK221.out 3).trans rfl, (blk_cell BK221.out 4).trans rfl, (blk_cell BK222.out 0).trans rfl, (blk_cell BK222.out 1).trans rfl, (blk_cell BK222.out 2).trans rfl, (blk_cell BK222.out 3).trans rfl, (blk_cell BK222.out 4).trans rfl⟩ (fun hHeld => ?_)
                  clear hK K
                  refine norm_ (a' := ?_) ?_ ?_
                  rotate_left
                  ·show Act.put _ (some 13) _ = _
                   simp only [Act.put, List.setIfInBounds_toArray, List.set_cons_zero, List.set_cons_succ, i64_w, i32_w]
                   rfl
                  exact norm_ z10_33 (hCont (.slice Ao139 t300.length co139, .slice Ao140 t307.length co140, v315, gb317) _ ⟨hHeld, z10_39, z10_40, z10_41, z10_35, z10_36, z10_37, z10_38, z10_1, z10_2, z10_5, z10_8, z10_10, z10_11, z10_23, GW317.out, GE317.out, NB221_317.out, NB317_221.out, NB222_317.out, NB317_222.out, NB246_317.out, NB317_246.out, NB254_317.out, NB317_254.out, NB262_317.out, NB317_262.out, NB270_317.out, NB317_270.out, z10_4⟩)
                 ·skip
                  refine box_step ?hg (N := 13) ?hd (cs := #[.int .i64 0, .int .i64 0, .int .i64 0, .int .i64 0, .slice none 0 0]) (t := 64) ?hr ?_; (case hd => rfl); (case hg => rfl); (case hr => first | (go_simp; done) | (go_simp; rfl))
                  intro gb317 hg w139 hbox hb
                  have n0_ := Aside0.mk (Kd.R_below z10_13 hb)
                  have n1_ := Aside0.mk (Kd.R_below z10_14 hb)
                  have n2_ := Aside0.mk (Kd.R_below z10_15 hb)
                  have n3_ := Aside0.mk (Kd.R_below z10_16 hb)
                  have n4_ := Aside0.mk (Kd.R_below z10_18 hb)
                  have n5_ := Aside0.mk (Kd.R_below z10_27 hb)
                  have n6_ := Aside0.mk (blk_belowB BK221 z10_1 hb)
                  have n7_ := Aside0.mk (blk_belowB BK222 z10_2 hb)
                  have n8_ := Aside0.mk (blk_belowB BK246 z10_5 hb)
                  have n9_ := Aside0.mk (blk_belowB BK254 z10_8 hb)
                  have n10_ := Aside0.mk (blk_belowB BK262 z10_10 hb)
                  have n11_ := Aside0.mk (blk_belowB BK270 z10_11 hb)
                  have n12_ := Aside0.mk (below_step z10_3 hb)
                  have n13_ := Aside0.mk (hbox)
                  have n14_ := Aside0.mk ((by rw [hg]; exact (below_size z10_3) : w.heap.size ≤ gb317))
                  have n15_ := Aside0.mk ((by rw [hg]; exact (below_size z10_3) : w.heap.size ≤ gb317))
                  have n16_ := Aside0.mk ((by rw [hg]; exact Nat.ne_of_lt (blk_ltB BK221 z10_1) : gb221 ≠ gb317))
                  have n17_ := Aside0.mk ((by rw [hg]; exact Nat.ne_of_gt (blk_ltB BK221 z10_1) : gb317 ≠ gb221))
                  have n18_ := Aside0.mk ((by rw [hg]; exact Nat.ne_of_lt (blk_ltB BK222 z10_2) : gb222 ≠ gb317))
                  have n19_ := Aside0.mk ((by rw [hg]; exact Nat.ne_of_gt (blk_ltB BK222 z10_2) : gb317 ≠ gb222))
                  have n20_ := Aside0.mk ((by rw [hg]; exact Nat.ne_of_lt (blk_ltB BK246 z10_5) : gb246 ≠ gb317))
                  have n21_ := Aside0.mk ((by rw [hg]; exact Nat.ne_of_gt (blk_ltB BK246 z10_5) : gb317 ≠ gb246))
                  have n22_ := Aside0.mk ((by rw [hg]; exact Nat.ne_of_lt (blk_ltB BK254 z10_8) : gb254 ≠ gb317))
                  have n23_ := Aside0.mk ((by rw [hg]; exact Nat.ne_of_gt (blk_ltB BK254 z10_8) : gb317 ≠ gb254))
                  have n24_ := Aside0.mk ((by rw [hg]; exact Nat.ne_of_lt (blk_ltB BK262 z10_10) : gb262 ≠ gb317))
                  have n25_ := Aside0.mk ((by rw [hg]; exact Nat.ne_of_gt (blk_ltB BK262 z10_10) : gb317 ≠ gb262))
                  have n26_ := Aside0.mk ((by rw [hg]; exact Nat.ne_of_lt (blk_ltB BK270 z10_11) : gb270 ≠ gb317))
                  have n27_ := Aside0.mk ((by rw [hg]; exact Nat.ne_of_gt (blk_ltB BK270 z10_11) : gb317 ≠ gb270))
                  clear HO_247004; clear HO_255004; clear HO_263004; clear HO_271004; clear HO302; clear HO309; clear BK221; clear BK222; clear BK246; clear BK254; clear BK262; clear BK270; clear HB; have HO_247004 := n0_; have HO_255004 := n1_; have HO_263004 := n2_; have HO_271004 := n3_; have HO302 := n4_; have HO309 := n5_; have BK221 := n6_; have BK222 := n7_; have BK246 := n8_; have BK254 := n9_; have BK262 := n10_; have BK270 := n11_; have HB := n12_; have BK317 := n13_; have GW317 := n14_; have GE317 := n15_; have NB221_317 := n16_; have NB317_221 := n17_; have NB222_317 := n18_; have NB317_222 := n19_; have NB246_317 := n20_; have NB317_246 := n21_; have NB254_317 := n22_; have NB317_254 := n23_; have NB262_317 := n24_; have NB317_262 := n25_; have NB270_317 := n26_; have NB317_270 := n27_; clear n0_ n1_ n2_ n3_ n4_ n5_ n6_ n7_ n8_ n9_ n10_ n11_ n12_ n13_ n14_ n15_ n16_ n17_ n18_ n19_ n20_ n21_ n22_ n23_ n24_ n25_ n26_ n27_; clear hb hbox hg
                  obtain ⟨Ao140, co140, eo140⟩ := Kd.R_slice HO302.out
                  (first | subst eo140 | (injection eo140 with f1_ f2_ f3_; have f4_ := f1_.symm; have f5_ := f3_.symm; clear f1_ f2_ f3_; subst f4_; subst f5_))
                  obtain ⟨Ao141, co141, eo141⟩ := Kd.R_slice HO309.out
                  (first | subst eo141 | (injection eo141 with f1_ f2_ f3_; have f4_ := f1_.symm; have f5_ := f3_.symm; clear f1_ f2_ f3_; subst f4_; subst f5_))
                  refine hK.out _ _ ⟨(blk_cell BK221.out 0).trans rfl, (blk_cell BK221.out 1).trans rfl, (blk_cell BK221.out 2).trans rfl, (blk_cell BK221.out 3).trans rfl, (blk_cell BK221.out 4).trans rfl, (blk_cell BK222.out 0).trans rfl, (blk_cell BK222.out 1).trans rfl, (blk_cell BK222.out 2).trans rfl, (blk_cell BK222.out 3).trans rfl, (blk_cell BK222.out 4).trans rfl⟩ (fun hHeld => ?_)
                  clear hK K
                  refine norm_ (a' := ?_) ?_ ?_
                  rotate_left
                  ·show Act.put _ (some 13) _ = _
                   simp only [Act.put, List.setIfInBounds_toArray, List.set_cons_zero, List.set_cons_succ, i64_w, i32_w]
                   rfl
                  refine one_ (i := 4) (N := some 79) #[true, true, true, true, true, true, false] rfl rfl (by kernel_rfl) (by decide) (fun K hK => ?_)
                  refine goes_ Try.func55 (by kernel_rfl) rfl #[.agg #[.int .i64 t296, .int .i64 t297, .int .i64 t298, .int .i64 t299, .slice Ao140 t300.length co140], .agg #[.int .i64 t303, .int .i64 t304, .int .i64 t305, .int .i64 t306, .slice Ao141 t307.length co141]] (by rfl) rfl rfl z10_6 ?_
                  with_reducible refine (impl_MeetMask.calls kj34 t296 t297 t298 t299 _ _ t300 t303 t304 t305 t306 _ _ t307 t310 t311 t312 t313 t314 _ ?side1 ?side2 ?side3 ?side4 A121.out).mono ?_
                  (case side1 => exact z10_58)
                  (case side2 => exact (Kd.R_reads' HO302.out).2.1)
                  (case side3 => exact z10_59)
                  (case side4 => exact (Kd.R_reads' HO309.out).2.1)
                  rintro e w142 ⟨v315, rfl, ho0, hb⟩
                  refine ⟨_, rfl, ?_⟩
                  have n0_ := Aside0.mk (Kd.R_elder' z10_13 (Kd.R_base ho0) hb)
                  have n1_ := Aside0.mk (Kd.R_elder' z10_14 (Kd.R_base ho0) hb)
                  have n2_ := Aside0.mk (Kd.R_elder' z10_15 (Kd.R_base ho0) hb)
                  have n3_ := Aside0.mk (Kd.R_elder' z10_16 (Kd.R_base ho0) hb)
                  have n4_ := Aside0.mk (Kd.R_elder' z10_18 (Kd.R_base ho0) hb)
                  have n5_ := Aside0.mk (Kd.R_elder' z10_27 (Kd.R_base ho0) hb)
                  have n6_ := Aside0.mk (Kd.R_lower (Kd.R_new' (Kd.R_new' (Kd.R_new' (Kd.R_new' (Kd.R_new' (Kd.R_new' ho0 (Kd.R_lt z10_13)) (Kd.R_lt z10_14)) (Kd.R_lt z10_15)) (Kd.R_lt z10_16)) (Kd.R_lt z10_18)) (Kd.R_lt z10_27)) (below_size z10_4))
                  have n7_ := Aside0.mk (blk_belowB BK221 z10_1 hb)
                  have n8_ := Aside0.mk (blk_belowB BK222 z10_2 hb)
                  have n9_ := Aside0.mk (blk_belowB BK246 z10_5 hb)
                  have n10_ := Aside0.mk (blk_belowB BK254 z10_8 hb)
                  have n11_ := Aside0.mk (blk_belowB BK262 z10_10 hb)
                  have n12_ := Aside0.mk (blk_belowB BK270 z10_11 hb)
                  have n13_ := Aside0.mk (blk_belowB BK317 z10_23 hb)
                  have n14_ := Aside0.mk (below_step z10_4 hb)
                  clear HO_247004; clear HO_255004; clear HO_263004; clear HO_271004; clear HO302; clear HO309; clear BK221; clear BK222; clear BK246; clear BK254; clear BK262; clear BK270; clear BK317; clear HB; have HO_247004 := n0_; have HO_255004 := n1_; have HO_263004 := n2_; have HO_271004 := n3_; have HO302 := n4_; have HO309 := n5_; have HO316 := n6_; have BK221 := n7_; have BK222 := n8_; have BK246 := n9_; have BK254 := n10_; have BK262 := n11_; have BK270 := n12_; have BK317 := n13_; have HB := n14_; clear n0_ n1_ n2_ n3_ n4_ n5_ n6_ n7_ n8_ n9_ n10_ n11_ n12_ n13_ n14_; (try clear hb); (try clear hb2); (try clear hk); (try clear hi); (try clear ho0)
                  refine hK.out _ _ ⟨(blk_cell BK221.out 0).trans rfl, (blk_cell BK221.out 1).trans rfl, (blk_cell BK221.out 2).trans rfl, (blk_cell BK221.out 3).trans rfl, (blk_cell BK221.out 4).trans rfl, (blk_cell BK222.out 0).trans rfl, (blk_cell BK222.out 1).trans rfl, (blk_cell BK222.out 2).trans rfl, (blk_cell BK222.out 3).trans rfl, (blk_cell BK222.out 4).trans rfl⟩ (fun hHeld => ?_)
                  clear hK K
                  refine norm_ (a' := ?_) ?_ ?_
                  rotate_left
                  ·show Act.put _ (some 79) _ = _
                   simp only [Act.put, List.setIfInBounds_toArray, List.set_cons_zero, List.set_cons_succ, i64_w, i32_w]
                   rfl
                  exact norm_ z10_33 (hCont (.slice Ao140 t300.length co140, .slice Ao141 t307.length co141, v315, gb317) _ ⟨hHeld, z10_39, z10_40, z10_41, z10_35, z10_36, z10_37, z10_38, z10_1, z10_2, z10_5, z10_8, z10_10, z10_11, z10_23, GW317.out, GE317.out, NB221_317.out, NB317_221.out, NB222_317.out, NB317_222.out, NB246_317.out, NB317_246.out, NB254_317.out, NB317_254.out, NB262_317.out, NB317_262.out, NB270_317.out, NB317_270.out, z10_4⟩)
                ·skip
                 refine box_step ?hg (N := 13) ?hd (cs := #[.int .i64 0, .int .i64 0, .int .i64 0, .int .i64 0, .slice none 0 0]) (t := 64) ?hr ?_; (case hd => rfl); (case hg => rfl); (case hr => first | (go_simp; done) | (go_simp; rfl))
                 intro gb317 hg w138 hbox hb
                 have n0_ := Aside0.mk (Kd.R_below z10_13 hb)
                 have n1_ := Aside0.mk (Kd.R_below z10_14 hb)
                 have n2_ := Aside0.mk (Kd.R_below z10_15 hb)
                 have n3_ := Aside0.mk (Kd.R_below z10_16 hb)
                 have n4_ := Aside0.mk (Kd.R_below z10_18 hb)
                 have n5_ := Aside0.mk (blk_belowB BK221 z10_1 hb)
                 have n6_ := Aside0.mk (blk_belowB BK222 z10_2 hb)
                 have n7_ := Aside0.mk (blk_belowB BK246 z10_5 hb)
                 have n8_ := Aside0.mk (blk_belowB BK254 z10_8 hb)
                 have n9_ := Aside0.mk (blk_belowB BK262 z10_10 hb)
                 have n10_ := Aside0.mk (blk_belowB BK270 z10_11 hb)
                 have n11_ := Aside0.mk (below_step z10_3 hb)
                 have n12_ := Aside0.mk (hbox)
                 have n13_ := Aside0.mk ((by rw [hg]; exact (below_size z10_3) : w.heap.size ≤ gb317))
                 have n14_ := Aside0.mk ((by rw [hg]; exact (below_size z10_3) : w.heap.size ≤ gb317))
                 have n15_ := Aside0.mk ((by rw [hg]; exact Nat.ne_of_lt (blk_ltB BK221 z10_1) : gb221 ≠ gb317))
                 have n16_ := Aside0.mk ((by rw [hg]; exact Nat.ne_of_gt (blk_ltB BK221 z10_1) : gb317 ≠ gb221))
                 have n17_ := Aside0.mk ((by rw [hg]; exact Nat.ne_of_lt (blk_ltB BK222 z10_2) : gb222 ≠ gb317))
                 have n18_ := Aside0.mk ((by rw [hg]; exact Nat.ne_of_gt (blk_ltB BK222 z10_2) : gb317 ≠ gb222))
                 have n19_ := Aside0.mk ((by rw [hg]; exact Nat.ne_of_lt (blk_ltB BK246 z10_5) : gb246 ≠ gb317))
                 have n20_ := Aside0.mk ((by rw [hg]; exact Nat.ne_of_gt (blk_ltB BK246 z10_5) : gb317 ≠ gb246))
                 have n21_ := Aside0.mk ((by rw [hg]; exact Nat.ne_of_lt (blk_ltB BK254 z10_8) : gb254 ≠ gb317))
                 have n22_ := Aside0.mk ((by rw [hg]; exact Nat.ne_of_gt (blk_ltB BK254 z10_8) : gb317 ≠ gb254))
                 have n23_ := Aside0.mk ((by rw [hg]; exact Nat.ne_of_lt (blk_ltB BK262 z10_10) : gb262 ≠ gb317))
                 have n24_ := Aside0.mk ((by rw [hg]; exact Nat.ne_of_gt (blk_ltB BK262 z10_10) : gb317 ≠ gb262))
                 have n25_ := Aside0.mk ((by rw [hg]; exact Nat.ne_of_lt (blk_ltB BK270 z10_11) : gb270 ≠ gb317))
                 have n26_ := Aside0.mk ((by rw [hg]; exact Nat.ne_of_gt (blk_ltB BK270 z10_11) : gb317 ≠ gb270))
                 clear HO_247004; clear HO_255004; clear HO_263004; clear HO_271004; clear HO302; clear BK221; clear BK222; clear BK246; clear BK254; clear BK262; clear BK270; clear HB; have HO_247004 := n0_; have HO_255004 := n1_; have HO_263004 := n2_; have HO_271004 := n3_; have HO302 := n4_; have BK221 := n5_; have BK222 := n6_; have BK246 := n7_; have BK254 := n8_; have BK262 := n9_; have BK270 := n10_; have HB := n11_; have BK317 := n12_; have GW317 := n13_; have GE317 := n14_; have NB221_317 := n15_; have NB317_221 := n16_; have NB222_317 := n17_; have NB317_222 := n18_; have NB246_317 := n19_; have NB317_246 := n20_; have NB254_317 := n21_; have NB317_254 := n22_; have NB262_317 := n23_; have NB317_262 := n24_; have NB270_317 := n25_; have NB317_270 := n26_; clear n0_ n1_ n2_ n3_ n4_ n5_ n6_ n7_ n8_ n9_ n10_ n11_ n12_ n13_ n14_ n15_ n16_ n17_ n18_ n19_ n20_ n21_ n22_ n23_ n24_ n25_ n26_; clear hb hbox hg
                 refine hK.out _ _ ⟨(blk_cell BK221.out 0).trans rfl, (blk_cell BK221.out 1).trans rfl, (blk_cell BK221.out 2).trans rfl, (blk_cell BK221.out 3).trans rfl, (blk_cell BK221.out 4).trans rfl, (blk_cell BK222.out 0).trans rfl, (blk_cell BK222.out 1).trans rfl, (blk_cell BK222.out 2).trans rfl, (blk_cell BK222.out 3).trans rfl, (blk_cell BK222.out 4).trans rfl⟩ (fun hHeld => ?_)
                 clear hK K
                 refine norm_ (a' := ?_) ?_ ?_
                 rotate_left
                 ·show Act.put _ (some 13) _ = _
                  simp only [Act.put, List.setIfInBounds_toArray, List.set_cons_zero, List.set_cons_succ, i64_w, i32_w]
                  rfl
                 refine one_ (i := 3) (N := some 78) #[true, true, true, true, false, true, false] rfl rfl (by kernel_rfl) (by decide) (fun K hK => ?_)
                 refine goes_ Try.func32 (by kernel_rfl) rfl #[.agg #[.int .i64 a1_0, .int .i64 a1_1, .int .i64 a1_2, .int .i64 a1_3, .slice A1_4 l1_4.length c1_4]] (by rfl) rfl rfl z10_6 ?_
                 with_reducible refine (laws_toMask.calls kj34 a1_0 a1_1 a1_2 a1_3 _ _ l1_4 t303 t304 t305 t306 t307 _ ?side1 ?side2 A120.out).mono ?_
                 (case side1 => exact z10_19)
                 (case side2 => exact HC1_4.out)
                 rintro e w139 ⟨v308, rfl, ho0, hb⟩
                 refine ⟨_, rfl, ?_⟩
                 have n0_ := Aside0.mk (Kd.R_elder' z10_13 (Kd.R_base ho0) hb)
                 have n1_ := Aside0.mk (Kd.R_elder' z10_14 (Kd.R_base ho0) hb)
                 have n2_ := Aside0.mk (Kd.R_elder' z10_15 (Kd.R_base ho0) hb)
                 have n3_ := Aside0.mk (Kd.R_elder' z10_16 (Kd.R_base ho0) hb)
                 have n4_ := Aside0.mk (Kd.R_elder' z10_18 (Kd.R_base ho0) hb)
                 have n5_ := Aside0.mk (Kd.R_lower (Kd.R_new' (Kd.R_new' (Kd.R_new' (Kd.R_new' (Kd.R_new' ho0 (Kd.R_lt z10_13)) (Kd.R_lt z10_14)) (Kd.R_lt z10_15)) (Kd.R_lt z10_16)) (Kd.R_lt z10_18)) (below_size z10_4))
                 have n6_ := Aside0.mk (blk_belowB BK221 z10_1 hb)
                 have n7_ := Aside0.mk (blk_belowB BK222 z10_2 hb)
                 have n8_ := Aside0.mk (blk_belowB BK246 z10_5 hb)
                 have n9_ := Aside0.mk (blk_belowB BK254 z10_8 hb)
                 have n10_ := Aside0.mk (blk_belowB BK262 z10_10 hb)
                 have n11_ := Aside0.mk (blk_belowB BK270 z10_11 hb)
                 have n12_ := Aside0.mk (blk_belowB BK317 z10_23 hb)
                 have n13_ := Aside0.mk (below_step z10_4 hb)
                 clear HO_247004; clear HO_255004; clear HO_263004; clear HO_271004; clear HO302; clear BK221; clear BK222; clear BK246; clear BK254; clear BK262; clear BK270; clear BK317; clear HB; have HO_247004 := n0_; have HO_255004 := n1_; have HO_263004 := n2_; have HO_271004 := n3_; have HO302 := n4_; have HO309 := n5_; have BK221 := n6_; have BK222 := n7_; have BK246 := n8_; have BK254 := n9_; have BK262 := n10_; have BK270 := n11_; have BK317 := n12_; have HB := n13_; clear n0_ n1_ n2_ n3_ n4_ n5_ n6_ n7_ n8_ n9_ n10_ n11_ n12_ n13_; (try clear hb); (try clear hb2); (try clear hk); (try clear hi); (try clear ho0)
                 obtain ⟨Ao140, co140, eo140⟩ := Kd.R_slice HO302.out
                 (first | subst eo140 | (injection eo140 with f1_ f2_ f3_; have f4_ := f1_.symm; have f5_ := f3_.symm; clear f1_ f2_ f3_; subst f4_; subst f5_))
                 obtain ⟨Ao141, co141, eo141⟩ := Kd.R_slice HO309.out
                 (first | subst eo141 | (injection eo141 with f1_ f2_ f3_; have f4_ := f1_.symm; have f5_ := f3_.symm; clear f1_ f2_ f3_; subst f4_; subst f5_))
                 refine hK.out _ _ ⟨(blk_cell BK221.out 0).trans rfl, (blk_cell BK221.out 1).trans rfl, (blk_cell BK221.out 2).trans rfl, (blk_cell BK221.out 3).trans rfl, (blk_cell BK221.out 4).trans rfl, (blk_cell BK222.out 0).trans rfl, (blk_cell BK222.out 1).trans rfl, (blk_cell BK222.out 2).trans rfl, (blk_cell BK222.out 3).trans rfl, (blk_cell BK222.out 4).trans rfl⟩ (fun hHeld => ?_)
                 clear hK K
                 refine norm_ (a' := ?_) ?_ ?_
                 rotate_left
                 ·show Act.put _ (some 78) _ = _
                  simp only [Act.put, List.setIfInBounds_toArray, List.set_cons_zero, List.set_cons_succ, i64_w, i32_w]
                  rfl
                 refine one_ (i := 4) (N := some 79) #[true, true, true, true, true, true, false] rfl rfl (by kernel_rfl) (by decide) (fun K hK => ?_)
                 refine goes_ Try.func55 (by kernel_rfl) rfl #[.agg #[.int .i64 t296, .int .i64 t297, .int .i64 t298, .int .i64 t299, .slice Ao140 t300.length co140], .agg #[.int .i64 t303, .int .i64 t304, .int .i64 t305, .int .i64 t306, .slice Ao141 t307.length co141]] (by rfl) rfl rfl z10_6 ?_
                 with_reducible refine (impl_MeetMask.calls kj34 t296 t297 t298 t299 _ _ t300 t303 t304 t305 t306 _ _ t307 t310 t311 t312 t313 t314 _ ?side1 ?side2 ?side3 ?side4 A121.out).mono ?_
                 (case side1 => exact z10_58)
                 (case side2 => exact (Kd.R_reads' HO302.out).2.1)
                 (case side3 => exact z10_59)
                 (case side4 => exact (Kd.R_reads' HO309.out).2.1)
                 rintro e w142 ⟨v315, rfl, ho0, hb⟩
                 refine ⟨_, rfl, ?_⟩
                 have n0_ := Aside0.mk (Kd.R_elder' z10_13 (Kd.R_base ho0) hb)
                 have n1_ := Aside0.mk (Kd.R_elder' z10_14 (Kd.R_base ho0) hb)
                 have n2_ := Aside0.mk (Kd.R_elder' z10_15 (Kd.R_base ho0) hb)
                 have n3_ := Aside0.mk (Kd.R_elder' z10_16 (Kd.R_base ho0) hb)
                 have n4_ := Aside0.mk (Kd.R_elder' z10_18 (Kd.R_base ho0) hb)
                 have n5_ := Aside0.mk (Kd.R_elder' z10_27 (Kd.R_base ho0) hb)
                 have n6_ := Aside0.mk (Kd.R_lower (Kd.R_new' (Kd.R_new' (Kd.R_new' (Kd.R_new' (Kd.R_new' (Kd.R_new' ho0 (Kd.R_lt z10_13)) (Kd.R_lt z10_14)) (Kd.R_lt z10_15)) (Kd.R_lt z10_16)) (Kd.R_lt z10_18)) (Kd.R_lt z10_27)) (below_size z10_4))
                 have n7_ := Aside0.mk (blk_belowB BK221 z10_1 hb)
                 have n8_ := Aside0.mk (blk_belowB BK222 z10_2 hb)
                 have n9_ := Aside0.mk (blk_belowB BK246 z10_5 hb)
                 have n10_ := Aside0.mk (blk_belowB BK254 z10_8 hb)
                 have n11_ := Aside0.mk (blk_belowB BK262 z10_10 hb)
                 have n12_ := Aside0.mk (blk_belowB BK270 z10_11 hb)
                 have n13_ := Aside0.mk (blk_belowB BK317 z10_23 hb)
                 have n14_ := Aside0.mk (below_step z10_4 hb)
                 clear HO_247004; clear HO_255004; clear HO_263004; clear HO_271004; clear HO302; clear HO309; clear BK221; clear BK222; clear BK246; clear BK254; clear BK262; clear BK270; clear BK317; clear HB; have HO_247004 := n0_; have HO_255004 := n1_; have HO_263004 := n2_; have HO_271004 := n3_; have HO302 := n4_; have HO309 := n5_; have HO316 := n6_; have BK221 := n7_; have BK222 := n8_; have BK246 := n9_; have BK254 := n10_; have BK262 := n11_; have BK270 := n12_; have BK317 := n13_; have HB := n14_; clear n0_ n1_ n2_ n3_ n4_ n5_ n6_ n7_ n8_ n9_ n10_ n11_ n12_ n13_ n14_; (try clear hb); (try clear hb2); (try clear hk); (try clear hi); (try clear ho0)
                 refine hK.out _ _ ⟨(blk_cell BK221.out 0).trans rfl, (blk_cell BK221.out 1).trans rfl, (blk_cell BK221.out 2).trans rfl, (blk_cell BK221.out 3).trans rfl, (blk_cell BK221.out 4).trans rfl, (blk_cell BK222.out 0).trans rfl, (blk_cell BK222.out 1).trans rfl, (blk_cell BK222.out 2).trans rfl, (blk_cell BK222.out 3).trans rfl, (blk_cell BK222.out 4).trans rfl⟩ (fun hHeld => ?_)
                 clear hK K
                 refine norm_ (a' := ?_) ?_ ?_
                 rotate_left
                 ·show Act.put _ (some 79) _ = _
                  simp only [Act.put, List.setIfInBounds_toArray, List.set_cons_zero, List.set_cons_succ, i64_w, i32_w]
                  rfl
                 exact norm_ z10_33 (hCont (.slice Ao140 t300.length co140, .slice Ao141 t307.length co141, v315, gb317) _ ⟨hHeld, z10_39, z10_40, z10_41, z10_35, z10_36, z10_37, z10_38, z10_1, z10_2, z10_5, z10_8, z10_10, z10_11, z10_23, GW317.out, GE317.out, NB221_317.out, NB317_221.out, NB222_317.out, NB317_222.out, NB246_317.out, NB317_246.out, NB254_317.out, NB317_254.out, NB262_317.out, NB317_262.out, NB270_317.out, NB317_270.out, z10_4⟩)
               ·skip
                refine box_step ?hg (N := 13) ?hd (cs := #[.int .i64 0, .int .i64 0, .int .i64 0, .int .i64 0, .slice none 0 0]) (t := 64) ?hr ?_; (case hd => rfl); (case hg => rfl); (case hr => first | (go_simp; done) | (go_simp; rfl))
                intro gb317 hg w137 hbox hb
                have n0_ := Aside0.mk (Kd.R_below z10_13 hb)
                have n1_ := Aside0.mk (Kd.R_below z10_14 hb)
                have n2_ := Aside0.mk (Kd.R_below z10_15 hb)
                have n3_ := Aside0.mk (Kd.R_below z10_16 hb)
                have n4_ := Aside0.mk (blk_belowB BK221 z10_1 hb)
                have n5_ := Aside0.mk (blk_belowB BK222 z10_2 hb)
                have n6_ := Aside0.mk (blk_belowB BK246 z10_5 hb)
                have n7_ := Aside0.mk (blk_belowB BK254 z10_8 hb)
                have n8_ := Aside0.mk (blk_belowB BK262 z10_10 hb)
                have n9_ := Aside0.mk (blk_belowB BK270 z10_11 hb)
                have n10_ := Aside0.mk (below_step z10_3 hb)
                have n11_ := Aside0.mk (hbox)
                have n12_ := Aside0.mk ((by rw [hg]; exact (below_size z10_3) : w.heap.size ≤ gb317))
                have n13_ := Aside0.mk ((by rw [hg]; exact (below_size z10_3) : w.heap.size ≤ gb317))
                have n14_ := Aside0.mk ((by rw [hg]; exact Nat.ne_of_lt (blk_ltB BK221 z10_1) : gb221 ≠ gb317))
                have n15_ := Aside0.mk ((by rw [hg]; exact Nat.ne_of_gt (blk_ltB BK221 z10_1) : gb317 ≠ gb221))
                have n16_ := Aside0.mk ((by rw [hg]; exact Nat.ne_of_lt (blk_ltB BK222 z10_2) : gb222 ≠ gb317))
                have n17_ := Aside0.mk ((by rw [hg]; exact Nat.ne_of_gt (blk_ltB BK222 z10_2) : gb317 ≠ gb222))
                have n18_ := Aside0.mk ((by rw [hg]; exact Nat.ne_of_lt (blk_ltB BK246 z10_5) : gb246 ≠ gb317))
                have n19_ := Aside0.mk ((by rw [hg]; exact Nat.ne_of_gt (blk_ltB BK246 z10_5) : gb317 ≠ gb246))
                have n20_ := Aside0.mk ((by rw [hg]; exact Nat.ne_of_lt (blk_ltB BK254 z10_8) : gb254 ≠ gb317))
                have n21_ := Aside0.mk ((by rw [hg]; exact Nat.ne_of_gt (blk_ltB BK254 z10_8) : gb317 ≠ gb254))
                have n22_ := Aside0.mk ((by rw [hg]; exact Nat.ne_of_lt (blk_ltB BK262 z10_10) : gb262 ≠ gb317))
                have n23_ := Aside0.mk ((by rw [hg]; exact Nat.ne_of_gt (blk_ltB BK262 z10_10) : gb317 ≠ gb262))
                have n24_ := Aside0.mk ((by rw [hg]; exact Nat.ne_of_lt (blk_ltB BK270 z10_11) : gb270 ≠ gb317))
                have n25_ := Aside0.mk ((by rw [hg]; exact Nat.ne_of_gt (blk_ltB BK270 z10_11) : gb317 ≠ gb270))
                clear HO_247004; clear HO_255004; clear HO_263004; clear HO_271004; clear BK221; clear BK222; clear BK246; clear BK254; clear BK262; clear BK270; clear HB; have HO_247004 := n0_; have HO_255004 := n1_; have HO_263004 := n2_; have HO_271004 := n3_; have BK221 := n4_; have BK222 := n5_; have BK246 := n6_; have BK254 := n7_; have BK262 := n8_; have BK270 := n9_; have HB := n10_; have BK317 := n11_; have GW317 := n12_; have GE317 := n13_; have NB221_317 := n14_; have NB317_221 := n15_; have NB222_317 := n16_; have NB317_222 := n17_; have NB246_317 := n18_; have NB317_246 := n19_; have NB254_317 := n20_; have NB317_254 := n21_; have NB262_317 := n22_; have NB317_262 := n23_; have NB270_317 := n24_; have NB317_270 := n25_; clear n0_ n1_ n2_ n3_ n4_ n5_ n6_ n7_ n8_ n9_ n10_ n11_ n12_ n13_ n14_ n15_ n16_ n17_ n18_ n19_ n20_ n21_ n22_ n23_ n24_ n25_; clear hb hbox hg
                refine hK.out _ _ ⟨(blk_cell BK221.out 0).trans rfl, (blk_cell BK221.out 1).trans rfl, (blk_cell BK221.out 2).trans rfl, (blk_cell BK221.out 3).trans rfl, (blk_cell BK221.out 4).trans rfl, (blk_cell BK222.out 0).trans rfl, (blk_cell BK222.out 1).trans rfl, (blk_cell BK222.out 2).trans rfl, (blk_cell BK222.out 3).trans rfl, (blk_cell BK222.out 4).trans rfl⟩ (fun hHeld => ?_)
                clear hK K
                refine norm_ (a' := ?_) ?_ ?_
                rotate_left
                ·show Act.put _ (some 13) _ = _
                 simp only [Act.put, List.setIfInBounds_toArray, List.set_cons_zero, List.set_cons_succ, i64_w, i32_w]
                 rfl
                refine one_ (i := 1) (N := some 76) #[true, true, true, false, false, true, false] rfl rfl (by kernel_rfl) (by decide) (fun K hK => ?_)
                refine goes_ Try.func32 (by kernel_rfl) rfl #[.agg #[.int .i64 a0_0, .int .i64 a0_1, .int .i64 a0_2, .int .i64 a0_3, .slice A0_4 l0_4.length c0_4]] (by rfl) rfl rfl z10_6 ?_
                with_reducible refine (laws_toMask.calls kj34 a0_0 a0_1 a0_2 a0_3 _ _ l0_4 t296 t297 t298 t299 t300 _ ?side1 ?side2 A119.out).mono ?_
                (case side1 => exact z10_22)
                (case side2 => exact HC0_4.out)
                rintro e w138 ⟨v301, rfl, ho0, hb⟩
                refine ⟨_, rfl, ?_⟩
                have n0_ := Aside0.mk (Kd.R_elder' z10_13 (Kd.R_base ho0) hb)
                have n1_ := Aside0.mk (Kd.R_elder' z10_14 (Kd.R_base ho0) hb)
                have n2_ := Aside0.mk (Kd.R_elder' z10_15 (Kd.R_base ho0) hb)
                have n3_ := Aside0.mk (Kd.R_elder' z10_16 (Kd.R_base ho0) hb)
                have n4_ := Aside0.mk (Kd.R_lower (Kd.R_new' (Kd.R_new' (Kd.R_new' (Kd.R_new' ho0 (Kd.R_lt z10_13)) (Kd.R_lt z10_14)) (Kd.R_lt z10_15)) (Kd.R_lt z10_16)) (below_size z10_4))
                have n5_ := Aside0.mk (blk_belowB BK221 z10_1 hb)
                have n6_ := Aside0.mk (blk_belowB BK222 z10_2 hb)
                have n7_ := Aside0.mk (blk_belowB BK246 z10_5 hb)
                have n8_ := Aside0.mk (blk_belowB BK254 z10_8 hb)
                have n9_ := Aside0.mk (blk_belowB BK262 z10_10 hb)
                have n10_ := Aside0.mk (blk_belowB BK270 z10_11 hb)
                have n11_ := Aside0.mk (blk_belowB BK317 z10_23 hb)
                have n12_ := Aside0.mk (below_step z10_4 hb)
                clear HO_247004; clear HO_255004; clear HO_263004; clear HO_271004; clear BK221; clear BK222; clear BK246; clear BK254; clear BK262; clear BK270; clear BK317; clear HB; have HO_247004 := n0_; have HO_255004 := n1_; have HO_263004 := n2_; have HO_271004 := n3_; have HO302 := n4_; have BK221 := n5_; have BK222 := n6_; have BK246 := n7_; have BK254 := n8_; have BK262 := n9_; have BK270 := n10_; have BK317 := n11_; have HB := n12_; clear n0_ n1_ n2_ n3_ n4_ n5_ n6_ n7_ n8_ n9_ n10_ n11_ n12_; (try clear hb); (try clear hb2); (try clear hk); (try clear hi); (try clear ho0)
                refine hK.out _ _ ⟨(blk_cell BK221.out 0).trans rfl, (blk_cell BK221.out 1).trans rfl, (blk_cell BK221.out 2).trans rfl, (blk_cell BK221.out 3).trans rfl, (blk_cell BK221.out 4).trans rfl, (blk_cell BK222.out 0).trans rfl, (blk_cell BK222.out 1).trans rfl, (blk_cell BK222.out 2).trans rfl, (blk_cell BK222.out 3).trans rfl, (blk_cell BK222.out 4).trans rfl⟩ (fun hHeld => ?_)
                clear hK K
                refine norm_ (a' := ?_) ?_ ?_
                rotate_left
                ·show Act.put _ (some 76) _ = _
                 simp only [Act.put, List.setIfInBounds_toArray, List.set_cons_zero, List.set_cons_succ, i64_w, i32_w]
                 rfl
                refine one_ (i := 3) (N := some 78) #[true, true, true, true, false, true, false] rfl rfl (by kernel_rfl) (by decide) (fun K hK => ?_)
                refine goes_ Try.func32 (by kernel_rfl) rfl #[.agg #[.int .i64 a1_0, .int .i64 a1_1, .int .i64 a1_2, .int .i64 a1_3, .slice A1_4 l1_4.length c1_4]] (by rfl) rfl rfl z10_6 ?_
                with_reducible refine (laws_toMask.calls kj34 a1_0 a1_1 a1_2 a1_3 _ _ l1_4 t303 t304 t305 t306 t307 _ ?side1 ?side2 A120.out).mono ?_
                (case side1 => exact z10_19)
                (case side2 => exact HC1_4.out)
                rintro e w139 ⟨v308, rfl, ho0, hb⟩
                refine ⟨_, rfl, ?_⟩
                have n0_ := Aside0.mk (Kd.R_elder' z10_13 (Kd.R_base ho0) hb)
                have n1_ := Aside0.mk (Kd.R_elder' z10_14 (Kd.R_base ho0) hb)
                have n2_ := Aside0.mk (Kd.R_elder' z10_15 (Kd.R_base ho0) hb)
                have n3_ := Aside0.mk (Kd.R_elder' z10_16 (Kd.R_base ho0) hb)
                have n4_ := Aside0.mk (Kd.R_elder' z10_18 (Kd.R_base ho0) hb)
                have n5_ := Aside0.mk (Kd.R_lower (Kd.R_new' (Kd.R_new' (Kd.R_new' (Kd.R_new' (Kd.R_new' ho0 (Kd.R_lt z10_13)) (Kd.R_lt z10_14)) (Kd.R_lt z10_15)) (Kd.R_lt z10_16)) (Kd.R_lt z10_18)) (below_size z10_4))
                have n6_ := Aside0.mk (blk_belowB BK221 z10_1 hb)
                have n7_ := Aside0.mk (blk_belowB BK222 z10_2 hb)
                have n8_ := Aside0.mk (blk_belowB BK246 z10_5 hb)
                have n9_ := Aside0.mk (blk_belowB BK254 z10_8 hb)
                have n10_ := Aside0.mk (blk_belowB BK262 z10_10 hb)
                have n11_ := Aside0.mk (blk_belowB BK270 z10_11 hb)
                have n12_ := Aside0.mk (blk_belowB BK317 z10_23 hb)
                have n13_ := Aside0.mk (below_step z10_4 hb)
                clear HO_247004; clear HO_255004; clear HO_263004; clear HO_271004; clear HO302; clear BK221; clear BK222; clear BK246; clear BK254; clear BK262; clear BK270; clear BK317; clear HB; have HO_247004 := n0_; have HO_255004 := n1_; have HO_263004 := n2_; have HO_271004 := n3_; have HO302 := n4_; have HO309 := n5_; have BK221 := n6_; have BK222 := n7_; have BK246 := n8_; have BK254 := n9_; have BK262 := n10_; have BK270 := n11_; have BK317 := n12_; have HB := n13_; clear n0_ n1_ n2_ n3_ n4_ n5_ n6_ n7_ n8_ n9_ n10_ n11_ n12_ n13_; (try clear hb); (try clear hb2); (try clear hk); (try clear hi); (try clear ho0)
                obtain ⟨Ao140, co140, eo140⟩ := Kd.R_slice HO302.out
                (first | subst eo140 | (injection eo140 with f1_ f2_ f3_; have f4_ := f1_.symm; have f5_ := f3_.symm; clear f1_ f2_ f3_; subst f4_; subst f5_))
                obtain ⟨Ao141, co141, eo141⟩ := Kd.R_slice HO309.out
                (first | subst eo141 | (injection eo141 with f1_ f2_ f3_; have f4_ := f1_.symm; have f5_ := f3_.symm; clear f1_ f2_ f3_; subst f4_; subst f5_))
                refine hK.out _ _ ⟨(blk_cell BK221.out 0).trans rfl, (blk_cell BK221.out 1).trans rfl, (blk_cell BK221.out 2).trans rfl, (blk_cell BK221.out 3).trans rfl, (blk_cell BK221.out 4).trans rfl, (blk_cell BK222.out 0).trans rfl, (blk_cell BK222.out 1).trans rfl, (blk_cell BK222.out 2).trans rfl, (blk_cell BK222.out 3).trans rfl, (blk_cell BK222.out 4).trans rfl⟩ (fun hHeld => ?_)
                clear hK K
                refine norm_ (a' := ?_) ?_ ?_
                rotate_left
                ·show Act.put _ (some 78) _ = _
                 simp only [Act.put, List.setIfInBounds_toArray, List.set_cons_zero, List.set_cons_succ, i64_w, i32_w]
                 rfl
                refine one_ (i := 4) (N := some 79) #[true, true, true, true, true, true, false] rfl rfl (by kernel_rfl) (by decide) (fun K hK => ?_)
                refine goes_ Try.func55 (by kernel_rfl) rfl #[.agg #[.int .i64 t296, .int .i64 t297, .int .i64 t298, .int .i64 t299, .slice Ao140 t300.length co140], .agg #[.int .i64 t303, .int .i64 t304, .int .i64 t305, .int .i64 t306, .slice Ao141 t307.length co141]] (by rfl) rfl rfl z10_6 ?_
                with_reducible refine (impl_MeetMask.calls kj34 t296 t297 t298 t299 _ _ t300 t303 t304 t305 t306 _ _ t307 t310 t311 t312 t313 t314 _ ?side1 ?side2 ?side3 ?side4 A121.out).mono ?_
                (case side1 => exact z10_58)
                (case side2 => exact (Kd.R_reads' HO302.out).2.1)
                (case side3 => exact z10_59)
                (case side4 => exact (Kd.R_reads' HO309.out).2.1)
                rintro e w142 ⟨v315, rfl, ho0, hb⟩
                refine ⟨_, rfl, ?_⟩
                have n0_ := Aside0.mk (Kd.R_elder' z10_13 (Kd.R_base ho0) hb)
                have n1_ := Aside0.mk (Kd.R_elder' z10_14 (Kd.R_base ho0) hb)
                have n2_ := Aside0.mk (Kd.R_elder' z10_15 (Kd.R_base ho0) hb)
                have n3_ := Aside0.mk (Kd.R_elder' z10_16 (Kd.R_base ho0) hb)
                have n4_ := Aside0.mk (Kd.R_elder' z10_18 (Kd.R_base ho0) hb)
                have n5_ := Aside0.mk (Kd.R_elder' z10_27 (Kd.R_base ho0) hb)
                have n6_ := Aside0.mk (Kd.R_lower (Kd.R_new' (Kd.R_new' (Kd.R_new' (Kd.R_new' (Kd.R_new' (Kd.R_new' ho0 (Kd.R_lt z10_13)) (Kd.R_lt z10_14)) (Kd.R_lt z10_15)) (Kd.R_lt z10_16)) (Kd.R_lt z10_18)) (Kd.R_lt z10_27)) (below_size z10_4))
                have n7_ := Aside0.mk (blk_belowB BK221 z10_1 hb)
                have n8_ := Aside0.mk (blk_belowB BK222 z10_2 hb)
                have n9_ := Aside0.mk (blk_belowB BK246 z10_5 hb)
                have n10_ := Aside0.mk (blk_belowB BK254 z10_8 hb)
                have n11_ := Aside0.mk (blk_belowB BK262 z10_10 hb)
                have n12_ := Aside0.mk (blk_belowB BK270 z10_11 hb)
                have n13_ := Aside0.mk (blk_belowB BK317 z10_23 hb)
                have n14_ := Aside0.mk (below_step z10_4 hb)
                clear HO_247004; clear HO_255004; clear HO_263004; clear HO_271004; clear HO302; clear HO309; clear BK221; clear BK222; clear BK246; clear BK254; clear BK262; clear BK270; clear BK317; clear HB; have HO_247004 := n0_; have HO_255004 := n1_; have HO_263004 := n2_; have HO_271004 := n3_; have HO302 := n4_; have HO309 := n5_; have HO316 := n6_; have BK221 := n7_; have BK222 := n8_; have BK246 := n9_; have BK254 := n10_; have BK262 := n11_; have BK270 := n12_; have BK317 := n13_; have HB := n14_; clear n0_ n1_ n2_ n3_ n4_ n5_ n6_ n7_ n8_ n9_ n10_ n11_ n12_ n13_ n14_; (try clear hb); (try clear hb2); (try clear hk); (try clear hi); (try clear ho0)
                refine hK.out _ _ ⟨(blk_cell BK221.out 0).trans rfl, (blk_cell BK221.out 1).trans rfl, (blk_cell BK221.out 2).trans rfl, (blk_cell BK221.out 3).trans rfl, (blk_cell BK221.out 4).trans rfl, (blk_cell BK222.out 0).trans rfl, (blk_cell BK222.out 1).trans rfl, (blk_cell BK222.out 2).trans rfl, (blk_cell BK222.out 3).trans rfl, (blk_cell BK222.out 4).trans rfl⟩ (fun hHeld => ?_)
                clear hK K
                refine norm_ (a' := ?_) ?_ ?_
                rotate_left
                ·show Act.put _ (some 79) _ = _
                 simp only [Act.put, List.setIfInBounds_toArray, List.set_cons_zero, List.set_cons_succ, i64_w, i32_w]
                 rfl
                exact norm_ z10_33 (hCont (.slice Ao140 t300.length co140, .slice Ao141 t307.length co141, v315, gb317) _ ⟨hHeld, z10_39, z10_40, z10_41, z10_35, z10_36, z10_37, z10_38, z10_1, z10_2, z10_5, z10_8, z10_10, z10_11, z10_23, GW317.out, GE317.out, NB221_317.out, NB317_221.out, NB222_317.out, NB317_222.out, NB246_317.out, NB317_246.out, NB254_317.out, NB317_254.out, NB262_317.out, NB317_262.out, NB270_317.out, NB317_270.out, z10_4⟩)
              rintro ⟨v301, v308, v315, gb317⟩ w143 ⟨hS_, h0_, h1_, h2_, h3_, h4_, h5_, h6_, h7_, h8_, h9_, h10_, h11_, h12_, h13_, h14_, h15_, h16_, h17_, h18_, h19_, h20_, h21_, h22_, h23_, h24_, h25_, h26_, h27_, h28_⟩
              have n0_ : Aside0 (Kd.R (Kd.int .i64) 3 w143 w.heap.size (fun k_ => some k_ ≠ (v308 : Value).ownBlock ∧ some k_ ≠ (v315 : Value).ownBlock ∧ some k_ ≠ (.slice Ao55 t243.length co55 : Value).ownBlock ∧ some k_ ≠ (.slice Ao65 t289.length co65 : Value).ownBlock ∧ some k_ ≠ (.slice Ao75 t291.length co75 : Value).ownBlock ∧ some k_ ≠ (.slice Ao85 t267.length co85 : Value).ownBlock) v301 t300) := ⟨h0_⟩
              have n1_ : Aside0 (Kd.R (Kd.int .i64) 3 w143 w.heap.size (fun k_ => some k_ ≠ (v301 : Value).ownBlock ∧ some k_ ≠ (v315 : Value).ownBlock ∧ some k_ ≠ (.slice Ao55 t243.length co55 : Value).ownBlock ∧ some k_ ≠ (.slice Ao65 t289.length co65 : Value).ownBlock ∧ some k_ ≠ (.slice Ao75 t291.length co75 : Value).ownBlock ∧ some k_ ≠ (.slice Ao85 t267.length co85 : Value).ownBlock) v308 t307) := ⟨h1_⟩
              have n2_ : Aside0 (Kd.R (Kd.int .i64) 3 w143 w.heap.size (fun k_ => some k_ ≠ (v301 : Value).ownBlock ∧ some k_ ≠ (v308 : Value).ownBlock ∧ some k_ ≠ (.slice Ao55 t243.length co55 : Value).ownBlock ∧ some k_ ≠ (.slice Ao65 t289.length co65 : Value).ownBlock ∧ some k_ ≠ (.slice Ao75 t291.length co75 : Value).ownBlock ∧ some k_ ≠ (.slice Ao85 t267.length co85 : Value).ownBlock) v315 t314) := ⟨h2_⟩
              have n3_ : Aside0 (Kd.R (Kd.int .i64) 3 w143 w.heap.size (fun k_ => some k_ ≠ (v301 : Value).ownBlock ∧ some k_ ≠ (v308 : Value).ownBlock ∧ some k_ ≠ (v315 : Value).ownBlock ∧ some k_ ≠ (.slice Ao65 t289.length co65 : Value).ownBlock ∧ some k_ ≠ (.slice Ao75 t291.length co75 : Value).ownBlock ∧ some k_ ≠ (.slice Ao85 t267.length co85 : Value).ownBlock) (.slice Ao55 t243.length co55) t243) := ⟨h3_⟩
              have n4_ : Aside0 (Kd.R (Kd.int .i64) 3 w143 w.heap.size (fun k_ => some k_ ≠ (v301 : Value).ownBlock ∧ some k_ ≠ (v308 : Value).ownBlock ∧ some k_ ≠ (v315 : Value).ownBlock ∧ some k_ ≠ (.slice Ao55 t243.length co55 : Value).ownBlock ∧ some k_ ≠ (.slice Ao75 t291.length co75 : Value).ownBlock ∧ some k_ ≠ (.slice Ao85 t267.length co85 : Value).ownBlock) (.slice Ao65 t289.length co65) t289) := ⟨h4_⟩
              have n5_ : Aside0 (Kd.R (Kd.int .i64) 3 w143 w.heap.size (fun k_ => some k_ ≠ (v301 : Value).ownBlock ∧ some k_ ≠ (v308 : Value).ownBlock ∧ some k_ ≠ (v315 : Value).ownBlock ∧ some k_ ≠ (.slice Ao55 t243.length co55 : Value).ownBlock ∧ some k_ ≠ (.slice Ao65 t289.length co65 : Value).ownBlock ∧ some k_ ≠ (.slice Ao85 t267.length co85 : Value).ownBlock) (.slice Ao75 t291.length co75) t291) := ⟨h5_⟩
              have n6_ : Aside0 (Kd.R (Kd.int .i64) 3 w143 w.heap.size (fun k_ => some k_ ≠ (v301 : Value).ownBlock ∧ some k_ ≠ (v308 : Value).ownBlock ∧ some k_ ≠ (v315 : Value).ownBlock ∧ some k_ ≠ (.slice Ao55 t243.length co55 : Value).ownBlock ∧ some k_ ≠ (.slice Ao65 t289.length co65 : Value).ownBlock ∧ some k_ ≠ (.slice Ao75 t291.length co75 : Value).ownBlock) (.slice Ao85 t267.length co85) t294) := ⟨h6_⟩
              have n7_ : Aside0 (w143.heap[gb221]? = some (.cells #[.int .i64 a0_0, .int .i64 a0_1, .int .i64 a0_2, .int .i64 a0_3, .slice A0_4 l0_4.length c0_4] 59 (0, 0))) := ⟨h7_⟩
              have n8_ : Aside0 (w143.heap[gb222]? = some (.cells #[.int .i64 a1_0, .int .i64 a1_1, .int .i64 a1_2, .int .i64 a1_3, .slice A1_4 l1_4.length c1_4] 59 (0, 0))) := ⟨h8_⟩
              have n9_ : Aside0 (w143.heap[gb246]? = some (.cells #[.int .i64 t239, .int .i64 t240, .int .i64 t241, .int .i64 t242, .slice Ao55 t243.length co55] 64 (0, 0))) := ⟨h9_⟩
              have n10_ : Aside0 (w143.heap[gb254]? = some (.cells #[.int .i64 t247, .int .i64 t248, .int .i64 t249, .int .i64 t250, .slice Ao65 t289.length co65] 64 (0, 0))) := ⟨h10_⟩
              have n11_ : Aside0 (w143.heap[gb262]? = some (.cells #[.int .i64 t255, .int .i64 t256, .int .i64 t257, .int .i64 t258, .slice Ao75 t291.length co75] 64 (0, 0))) := ⟨h11_⟩
              have n12_ : Aside0 (w143.heap[gb270]? = some (.cells #[.int .i64 t263, .int .i64 t264, .int .i64 t265, .int .i64 t266, .slice Ao85 t267.length co85] 64 (0, 0))) := ⟨h12_⟩
              have n13_ : Aside0 (w143.heap[gb317]? = some (.cells #[.int .i64 0, .int .i64 0, .int .i64 0, .int .i64 0, .slice none 0 0] 64 (0, 0))) := ⟨h13_⟩
              have n14_ : Aside0 (w.heap.size ≤ gb317) := ⟨h14_⟩
              have n15_ : Aside0 (w.heap.size ≤ gb317) := ⟨h15_⟩
              have n16_ : Aside0 (gb221 ≠ gb317) := ⟨h16_⟩
              have n17_ : Aside0 (gb317 ≠ gb221) := ⟨h17_⟩
              have n18_ : Aside0 (gb222 ≠ gb317) := ⟨h18_⟩
              have n19_ : Aside0 (gb317 ≠ gb222) := ⟨h19_⟩
              have n20_ : Aside0 (gb246 ≠ gb317) := ⟨h20_⟩
              have n21_ : Aside0 (gb317 ≠ gb246) := ⟨h21_⟩
              have n22_ : Aside0 (gb254 ≠ gb317) := ⟨h22_⟩
              have n23_ : Aside0 (gb317 ≠ gb254) := ⟨h23_⟩
              have n24_ : Aside0 (gb262 ≠ gb317) := ⟨h24_⟩
              have n25_ : Aside0 (gb317 ≠ gb262) := ⟨h25_⟩
              have n26_ : Aside0 (gb270 ≠ gb317) := ⟨h26_⟩
              have n27_ : Aside0 (gb317 ≠ gb270) := ⟨h27_⟩
              have n28_ : Aside0 (Below w.heap.size w w143) := ⟨h28_⟩
              clear HO_247004; clear HO_255004; clear HO_263004; clear HO_271004; clear BK221; clear BK222; clear BK246; clear BK254; clear BK262; clear BK270; clear HB; clear h0_ h1_ h2_ h3_ h4_ h5_ h6_ h7_ h8_ h9_ h10_ h11_ h12_ h13_ h14_ h15_ h16_ h17_ h18_ h19_ h20_ h21_ h22_ h23_ h24_ h25_ h26_ h27_ h28_; have HO302 := n0_; have HO309 := n1_; have HO316 := n2_; have HO_247004 := n3_; have HO_255004 := n4_; have HO_263004 := n5_; have HO_271004 := n6_; have BK221 := n7_; have BK222 := n8_; have BK246 := n9_; have BK254 := n10_; have BK262 := n11_; have BK270 := n12_; have BK317 := n13_; have GW317 := n14_; have GE317 := n15_; have NB221_317 := n16_; have NB317_221 := n17_; have NB222_317 := n18_; have NB317_222 := n19_; have NB246_317 := n20_; have NB317_246 := n21_; have NB254_317 := n22_; have NB317_254 := n23_; have NB262_317 := n24_; have NB317_262 := n25_; have NB270_317 := n26_; have NB317_270 := n27_; have HB := n28_; clear n0_ n1_ n2_ n3_ n4_ n5_ n6_ n7_ n8_ n9_ n10_ n11_ n12_ n13_ n14_ n15_ n16_ n17_ n18_ n19_ n20_ n21_ n22_ n23_ n24_ n25_ n26_ n27_ n28_
              have hHeld : w143.cell? ⟨gb221, 0, none⟩ = some (.int .i64 a0_0) ∧ w143.cell? ⟨gb221, 1, none⟩ = some (.int .i64 a0_1) ∧ w143.cell? ⟨gb221, 2, none⟩ = some (.int .i64 a0_2) ∧ w143.cell? ⟨gb221, 3, none⟩ = some (.int .i64 a0_3) ∧ w143.cell? ⟨gb221, 4, none⟩ = some (.slice A0_4 l0_4.length c0_4) ∧ w143.cell? ⟨gb222, 0, none⟩ = some (.int .i64 a1_0) ∧ w143.cell? ⟨gb222, 1, none⟩ = some (.int .i64 a1_1) ∧ w143.cell? ⟨gb222, 2, none⟩ = some (.int .i64 a1_2) ∧ w143.cell? ⟨gb222, 3, none⟩ = some (.int .i64 a1_3) ∧ w143.cell? ⟨gb222, 4, none⟩ = some (.slice A1_4 l1_4.length c1_4) := hS_
              obtain ⟨Ao148, co148, eo148⟩ := Kd.R_slice HO316.out
              (first | subst eo148 | (injection eo148 with f1_ f2_ f3_; have f4_ := f1_.symm; have f5_ := f3_.symm; clear f1_ f2_ f3_; subst f4_; subst f5_))
              refine norm_ (a' := ?_) ?_ ?_
              rotate_left
              ·simp only [putAll, Act.put, List.setIfInBounds_toArray, List.set_cons_zero, List.set_cons_succ]
               rfl
              refine one_ (i := 6) (N := none) #[true, true, true, true, true, true, true] rfl rfl (by kernel_rfl) (by decide) (fun K hK => ?_)
              have hs144 : w143.cell? ⟨gb317, 0, none⟩ = some (.int .i64 0) := (blk_cell BK317.out 0).trans rfl
              have hfs144 := blk_frozen BK317.out 0
              have hns144_0 := NB221_317.out; have hns144_1 := NB222_317.out; have hns144_2 := NB246_317.out; have hns144_3 := NB254_317.out; have hns144_4 := NB262_317.out; have hns144_5 := NB270_317.out; have hms144_0 := NB317_221.out; have hms144_1 := NB317_222.out; have hms144_2 := NB317_246.out; have hms144_3 := NB317_254.out; have hms144_4 := NB317_262.out; have hms144_5 := NB317_270.out
              have hs145 : w143.cell? ⟨gb317, 1, none⟩ = some (.int .i64 0) := (blk_cell BK317.out 1).trans rfl
              have hfs145 := blk_frozen BK317.out 1
              have hns145_0 := NB221_317.out; have hns145_1 := NB222_317.out; have hns145_2 := NB246_317.out; have hns145_3 := NB254_317.out; have hns145_4 := NB262_317.out; have hns145_5 := NB270_317.out; have hms145_0 := NB317_221.out; have hms145_1 := NB317_222.out; have hms145_2 := NB317_246.out; have hms145_3 := NB317_254.out; have hms145_4 := NB317_262.out; have hms145_5 := NB317_270.out
              have hs146 : w143.cell? ⟨gb317, 2, none⟩ = some (.int .i64 0) := (blk_cell BK317.out 2).trans rfl
              have hfs146 := blk_frozen BK317.out 2
              have hns146_0 := NB221_317.out; have hns146_1 := NB222_317.out; have hns146_2 := NB246_317.out; have hns146_3 := NB254_317.out; have hns146_4 := NB262_317.out; have hns146_5 := NB270_317.out; have hms146_0 := NB317_221.out; have hms146_1 := NB317_222.out; have hms146_2 := NB317_246.out; have hms146_3 := NB317_254.out; have hms146_4 := NB317_262.out; have hms146_5 := NB317_270.out
              have hs147 : w143.cell? ⟨gb317, 3, none⟩ = some (.int .i64 0) := (blk_cell BK317.out 3).trans rfl
              have hfs147 := blk_frozen BK317.out 3
              have hns147_0 := NB221_317.out; have hns147_1 := NB222_317.out; have hns147_2 := NB246_317.out; have hns147_3 := NB254_317.out; have hns147_4 := NB262_317.out; have hns147_5 := NB270_317.out; have hms147_0 := NB317_221.out; have hms147_1 := NB317_222.out; have hms147_2 := NB317_246.out; have hms147_3 := NB317_254.out; have hms147_4 := NB317_262.out; have hms147_5 := NB317_270.out
              have hs149 : w143.cell? ⟨gb317, 4, none⟩ = some (.slice none 0 0) := (blk_cell BK317.out 4).trans rfl
              have hfs149 := blk_frozen BK317.out 4
              have hns149_0 := NB221_317.out; have hns149_1 := NB222_317.out; have hns149_2 := NB246_317.out; have hns149_3 := NB254_317.out; have hns149_4 := NB262_317.out; have hns149_5 := NB270_317.out; have hms149_0 := NB317_221.out; have hms149_1 := NB317_222.out; have hms149_2 := NB317_246.out; have hms149_3 := NB317_254.out; have hms149_4 := NB317_262.out; have hms149_5 := NB317_270.out
              refine skip_ (w1 := ?_) (by rfl) rfl ?_ ?_
              rotate_left
              ·go_simp
               rfl
              refine hK.out _ _ ⟨((cell_far (p := ⟨gb317, _, none⟩) NB221_317.out _).trans (((cell_far (p := ⟨gb317, _, none⟩) NB221_317.out _).trans (((cell_far (p := ⟨gb317, _, none⟩) NB221_317.out _).trans (((cell_far (p := ⟨gb317, _, none⟩) NB221_317.out _).trans (((cell_far (p := ⟨gb317, _, none⟩) NB221_317.out _).trans (hHeld.1)))))))))), ((cell_far (p := ⟨gb317, _, none⟩) NB221_317.out _).trans (((cell_far (p := ⟨gb317, _, none⟩) NB221_317.out _).trans (((cell_far (p := ⟨gb317, _, none⟩) NB221_317.out _).trans (((cell_far (p := ⟨gb317, _, none⟩) NB221_317.out _).trans (((cell_far (p := ⟨gb317, _, none⟩) NB221_317.out _).trans (hHeld.2.1)))))))))), ((cell_far (p := ⟨gb317, _, none⟩) NB221_317.out _).trans (((cell_far (p := ⟨gb317, _, none⟩) NB221_317.out _).trans (((cell_far (p := ⟨gb317, _, none⟩) NB221_317.out _).trans (((cell_far (p := ⟨gb317, _, none⟩) NB221_317.out _).trans (((cell_far (p := ⟨gb317, _, none⟩) NB221_317.out _).trans (hHeld.2.2.1)))))))))), ((cell_far (p := ⟨gb317, _, none⟩) NB221_317.out _).trans (((cell_far (p := ⟨gb317, _, none⟩) NB221_317.out _).trans (((cell_far (p := ⟨gb317, _, none⟩) NB221_317.out _).trans (((cell_far (p := ⟨gb317, _, none⟩) NB221_317.out _).trans (((cell_far (p := ⟨gb317, _, none⟩) NB221_317.out _).trans (hHeld.2.2.2.1)))))))))), ((cell_far (p := ⟨gb317, _, none⟩) NB221_317.out _).trans (((cell_far (p := ⟨gb317, _, none⟩) NB221_317.out _).trans (((cell_far (p := ⟨gb317, _, none⟩) NB221_317.out _).trans (((cell_far (p := ⟨gb317, _, none⟩) NB221_317.out _).trans (((cell_far (p := ⟨gb317, _, none⟩) NB221_317.out _).trans (hHeld.2.2.2.2.1)))))))))), ((cell_far (p := ⟨gb317, _, none⟩) NB222_317.out _).trans (((cell_far (p := ⟨gb317, _, none⟩) NB222_317.out _).trans (((cell_far (p := ⟨gb317, _, none⟩) NB222_317.out _).trans (((cell_far (p := ⟨gb317, _, none⟩) NB222_317.out _).trans (((cell_far (p := ⟨gb317, _, none⟩) NB222_317.out _).trans (hHeld.2.2.2.2.2.1)))))))))), ((cell_far (p := ⟨gb317, _, none⟩) NB222_317.out _).trans (((cell_far (p := ⟨gb317, _, none⟩) NB222_317.out _).trans (((cell_far (p := ⟨gb317, _, none⟩) NB222_317.out _).trans (((cell_far (p := ⟨gb317, _, none⟩) NB222_317.out _).trans (((cell_far (p := ⟨gb317, _, none⟩) NB222_317.out _).trans (hHeld.2.2.2.2.2.2.1)))))))))), ((cell_far (p := ⟨gb317, _, none⟩) NB222_317.out _).trans (((cell_far (p := ⟨gb317, _, none⟩) NB222_317.out _).trans (((cell_far (p := ⟨gb317, _, none⟩) NB222_317.out _).trans (((cell_far (p := ⟨gb317, _, none⟩) NB222_317.out _).trans (((cell_far (p := ⟨gb317, _, none⟩) NB222_317.out _).trans (hHeld.2.2.2.2.2.2.2.1)))))))))), ((cell_far (p := ⟨gb317, _, none⟩) NB222_317.out _).trans (((cell_far (p := ⟨gb317, _, none⟩) NB222_317.out _).trans (((cell_far (p := ⟨gb317, _, none⟩) NB222_317.out _).trans (((cell_far (p := ⟨gb317, _, none⟩) NB222_317.out _).trans (((cell_far (p := ⟨gb317, _, none⟩) NB222_317.out _).trans (hHeld.2.2.2.2.2.2.2.2.1)))))))))), ((cell_far (p := ⟨gb317, _, none⟩) NB222_317.out _).trans (((cell_far (p := ⟨gb317, _, none⟩) NB222_317.out _).trans (((cell_far (p := ⟨gb317, _, none⟩) NB222_317.out _).trans (((cell_far (p := ⟨gb317, _, none⟩) NB222_317.out _).trans (((cell_far (p := ⟨gb317, _, none⟩) NB222_317.out _).trans (hHeld.2.2.2.2.2.2.2.2.2))))))))))⟩ (fun hHeld => ?_)
              clear hK K
              refine done_ (by kernel_rfl) ?_
              have hnb150 := NB317_221.out; have hnc150 := NB221_317.out; have hnb151 := NB317_222.out; have hnc151 := NB222_317.out; have hnb152 := NB317_246.out; have hnc152 := NB246_317.out; have hnb153 := NB317_254.out; have hnc153 := NB254_317.out; have hnb154 := NB317_262.out; have hnc154 := NB262_317.out; have hnb155 := NB317_270.out; have hnc155 := NB270_317.out
              obtain ⟨_, _, _, _, _, _, _, _, _, _⟩ := be_5 BK317.out
              have hnb157 := NB246_221.out; have hnc157 := NB221_246.out; have hnb158 := NB246_222.out; have hnc158 := NB222_246.out; have hnb159 := NB246_254.out; have hnc159 := NB254_246.out; have hnb160 := NB246_262.out; have hnc160 := NB262_246.out
              obtain ⟨_, _, _, _, _, _, _, _, _, _⟩ := be_5 BK246.out
              try go_wp2_with (first | ((with_reducible refine gate_callee (f := 34) rfl ?_); refine goesL_ (some 82) rfl rfl Try.func34 (by kernel_rfl) rfl #[.agg #[.int .i64 t310, .int .i64 t311, .int .i64 t312, .int .i64 t313, .slice Ao148 t314.length co148], .agg #[.int .i64 t239, .int .i64 t240, .int .i64 t241, .int .i64 t242, .slice Ao55 t243.length co55]] rfl z10_6 ?_; (with_reducible refine (laws_eqMask.calls kj34 t310 t311 t312 t313 _ _ t314 t239 t240 t241 t242 _ _ t243 true _ ?side1 ?side2 ?side3 ?side4 A122.out).mono ?_); (case side1 => refine (Kd.R_reads' (e := 3) (base := w.heap.size) (ok := fun k_ => (some k_ ≠ (v301 : Value).ownBlock ∧ (some k_ ≠ (v308 : Value).ownBlock ∧ (some k_ ≠ (.slice Ao55 t243.length co55 : Value).ownBlock ∧ (some k_ ≠ (.slice Ao65 t289.length co65 : Value).ownBlock ∧ (some k_ ≠ (.slice Ao75 t291.length co75 : Value).ownBlock ∧ some k_ ≠ (.slice Ao85 t267.length co85 : Value).ownBlock)))))) (n := t314.length) (c := co148) ?_).2.2; exact z10_43); (case side2 => exact (Kd.R_reads' HO316.out).2.1); (case side3 => refine (Kd.R_reads' (e := 3) (base := w.heap.size) (ok := fun k_ => (some k_ ≠ (v301 : Value).ownBlock ∧ (some k_ ≠ (v308 : Value).ownBlock ∧ (some k_ ≠ (.slice Ao148 t314.length co148 : Value).ownBlock ∧ (some k_ ≠ (.slice Ao65 t289.length co65 : Value).ownBlock ∧ (some k_ ≠ (.slice Ao75 t291.length co75 : Value).ownBlock ∧ some k_ ≠ (.slice Ao85 t267.length co85 : Value).ownBlock)))))) (n := t243.length) (c := co55) ?_).2.2; exact z10_42); (case side4 => exact (Kd.R_reads' HO_247004.out).2.1); rintro e w162 ⟨rfl, hb⟩; refine ⟨_, rfl, ?_⟩; have n0_ := Aside0.mk (Kd.R_below z10_42 hb); have n1_ := Aside0.mk (Kd.R_below (by (with_reducible repeat (first | apply Kd.R_alloc | apply Kd.R_drewN | apply Kd.R_drew)); exact (Kd.R_mono (Kd.R_far (p := ⟨gb317, 4, none⟩) (Kd.R_far (p := ⟨gb317, 3, none⟩) (Kd.R_far (p := ⟨gb317, 2, none⟩) (Kd.R_far (p := ⟨gb317, 1, none⟩) (Kd.R_far (p := ⟨gb317, 0, none⟩) (Kd.R_types HO_255004.out BK317.out (by decide)) (fun _ hk => hk.2) (.int .i64 t310)) (fun _ hk => hk.2) (.int .i64 t311)) (fun _ hk => hk.2) (.int .i64 t312)) (fun _ hk => hk.2) (.int .i64 t313)) (fun _ hk => hk.2) (.slice Ao148 t314.length co148)) (fun _ h_ => h_.1))) hb); have n2_ := Aside0.mk (Kd.R_below (by (with_reducible repeat (first | apply Kd.R_alloc | apply Kd.R_drewN | apply Kd.R_drew)); exact (Kd.R_mono (Kd.R_far (p := ⟨gb317, 4, none⟩) (Kd.R_far (p := ⟨gb317, 3, none⟩) (Kd.R_far (p := ⟨gb317, 2, none⟩) (Kd.R_far (p := ⟨gb317, 1, none⟩) (Kd.R_far (p := ⟨gb317, 0, none⟩) (Kd.R_types HO_263004.out BK317.out (by decide)) (fun _ hk => hk.2) (.int .i64 t310)) (fun _ hk => hk.2) (.int .i64 t311)) (fun _ hk => hk.2) (.int .i64 t312)) (fun _ hk => hk.2) (.int .i64 t313)) (fun _ hk => hk.2) (.slice Ao148 t314.length co148)) (fun _ h_ => h_.1))) hb); have n3_ := Aside0.mk (Kd.R_below (by (with_reducible repeat (first | apply Kd.R_alloc | apply Kd.R_drewN | apply Kd.R_drew)); exact (Kd.R_mono (Kd.R_far (p := ⟨gb317, 4, none⟩) (Kd.R_far (p := ⟨gb317, 3, none⟩) (Kd.R_far (p := ⟨gb317, 2, none⟩) (Kd.R_far (p := ⟨gb317, 1, none⟩) (Kd.R_far (p := ⟨gb317, 0, none⟩) (Kd.R_types HO_271004.out BK317.out (by decide)) (fun _ hk => hk.2) (.int .i64 t310)) (fun _ hk => hk.2) (.int .i64 t311)) (fun _ hk => hk.2) (.int .i64 t312)) (fun _ hk => hk.2) (.int .i64 t313)) (fun _ hk => hk.2) (.slice Ao148 t314.length co148)) (fun _ h_ => h_.1))) hb); have n4_ := Aside0.mk (Kd.R_below (by (with_reducible repeat (first | apply Kd.R_alloc | apply Kd.R_drewN | apply Kd.R_drew)); exact (Kd.R_mono (Kd.R_far (p := ⟨gb317, 4, none⟩) (Kd.R_far (p := ⟨gb317, 3, none⟩) (Kd.R_far (p := ⟨gb317, 2, none⟩) (Kd.R_far (p := ⟨gb317, 1, none⟩) (Kd.R_far (p := ⟨gb317, 0, none⟩) (Kd.R_types HO302.out BK317.out (by decide)) (fun _ hk => hk.2) (.int .i64 t310)) (fun _ hk => hk.2) (.int .i64 t311)) (fun _ hk => hk.2) (.int .i64 t312)) (fun _ hk => hk.2) (.int .i64 t313)) (fun _ hk => hk.2) (.slice Ao148 t314.length co148)) (fun _ h_ => h_.1))) hb); have n5_ := Aside0.mk (Kd.R_below (by (with_reducible repeat (first | apply Kd.R_alloc | apply Kd.R_drewN | apply Kd.R_drew)); exact (Kd.R_mono (Kd.R_far (p := ⟨gb317, 4, none⟩) (Kd.R_far (p := ⟨gb317, 3, none⟩) (Kd.R_far (p := ⟨gb317, 2, none⟩) (Kd.R_far (p := ⟨gb317, 1, none⟩) (Kd.R_far (p := ⟨gb317, 0, none⟩) (Kd.R_types HO309.out BK317.out (by decide)) (fun _ hk => hk.2) (.int .i64 t310)) (fun _ hk => hk.2) (.int .i64 t311)) (fun _ hk => hk.2) (.int .i64 t312)) (fun _ hk => hk.2) (.int .i64 t313)) (fun _ hk => hk.2) (.slice Ao148 t314.length co148)) (fun _ h_ => h_.1))) hb); have n6_ := Aside0.mk (Kd.R_below z10_43 hb); have n7_ := Aside0.mk (blk_belowB BK221 (by (with_reducible repeat (first | refine blk_drewN ?_ _ | refine blk_drew ?_ | refine blk_alloc ?_ _)); refine blk_far ?_ NB221_317.out _; (with_reducible repeat (first | refine blk_drewN ?_ _ | refine blk_drew ?_ | refine blk_alloc ?_ _)); refine blk_far ?_ NB221_317.out _; (with_reducible repeat (first | refine blk_drewN ?_ _ | refine blk_drew ?_ | refine blk_alloc ?_ _)); refine blk_far ?_ NB221_317.out _; (with_reducible repeat (first | refine blk_drewN ?_ _ | refine blk_drew ?_ | refine blk_alloc ?_ _)); refine blk_far ?_ NB221_317.out _; (with_reducible repeat (first | refine blk_drewN ?_ _ | refine blk_drew ?_ | refine blk_alloc ?_ _)); refine blk_far ?_ NB221_317.out _; (with_reducible repeat (first | refine blk_drewN ?_ _ | refine blk_drew ?_ | refine blk_alloc ?_ _)); exact BK221.out) hb); have n8_ := Aside0.mk (blk_belowB BK222 (by (with_reducible repeat (first | refine blk_drewN ?_ _ | refine blk_drew ?_ | refine blk_alloc ?_ _)); refine blk_far ?_ NB222_317.out _; (with_reducible repeat (first | refine blk_drewN ?_ _ | refine blk_drew ?_ | refine blk_alloc ?_ _)); refine blk_far ?_ NB222_317.out _; (with_reducible repeat (first | refine blk_drewN ?_ _ | refine blk_drew ?_ | refine blk_alloc ?_ _)); refine blk_far ?_ NB222_317.out _; (with_reducible repeat (first | refine blk_drewN ?_ _ | refine blk_drew ?_ | refine blk_alloc ?_ _)); refine blk_far ?_ NB222_317.out _; (with_reducible repeat (first | refine blk_drewN ?_ _ | refine blk_drew ?_ | refine blk_alloc ?_ _)); refine blk_far ?_ NB222_317.out _; (with_reducible repeat (first | refine blk_drewN ?_ _ | refine blk_drew ?_ | refine blk_alloc ?_ _)); exact BK222.out) hb); have n9_ := Aside0.mk (blk_belowB BK246 (by (with_reducible repeat (first | refine blk_drewN ?_ _ | refine blk_drew ?_ | refine blk_alloc ?_ _)); refine blk_far ?_ NB246_317.out _; (with_reducible repeat (first | refine blk_drewN ?_ _ | refine blk_drew ?_ | refine blk_alloc ?_ _)); refine blk_far ?_ NB246_317.out _; (with_reducible repeat (first | refine blk_drewN ?_ _ | refine blk_drew ?_ | refine blk_alloc ?_ _)); refine blk_far ?_ NB246_317.out _; (with_reducible repeat (first | refine blk_drewN ?_ _ | refine blk_drew ?_ | refine blk_alloc ?_ _)); refine blk_far ?_ NB246_317.out _; (with_reducible repeat (first | refine blk_drewN ?_ _ | refine blk_drew ?_ | refine blk_alloc ?_ _)); refine blk_far ?_ NB246_317.out _; (with_reducible repeat (first | refine blk_drewN ?_ _ | refine blk_drew ?_ | refine blk_alloc ?_ _)); exact BK246.out) hb); have n10_ := Aside0.mk (blk_belowB BK254 (by (with_reducible repeat (first | refine blk_drewN ?_ _ | refine blk_drew ?_ | refine blk_alloc ?_ _)); refine blk_far ?_ NB254_317.out _; (with_reducible repeat (first | refine blk_drewN ?_ _ | refine blk_drew ?_ | refine blk_alloc ?_ _)); refine blk_far ?_ NB254_317.out _; (with_reducible repeat (first | refine blk_drewN ?_ _ | refine blk_drew ?_ | refine blk_alloc ?_ _)); refine blk_far ?_ NB254_317.out _; (with_reducible repeat (first | refine blk_drewN ?_ _ | refine blk_drew ?_ | refine blk_alloc ?_ _)); refine blk_far ?_ NB254_317.out _; (with_reducible repeat (first | refine blk_drewN ?_ _ | refine blk_drew ?_ | refine blk_alloc ?_ _)); refine blk_far ?_ NB254_317.out _; (with_reducible repeat (first | refine blk_drewN ?_ _ | refine blk_drew ?_ | refine blk_alloc ?_ _)); exact BK254.out) hb); have n11_ := Aside0.mk (blk_belowB BK262 (by (with_reducible repeat (first | refine blk_drewN ?_ _ | refine blk_drew ?_ | refine blk_alloc ?_ _)); refine blk_far ?_ NB262_317.out _; (with_reducible repeat (first | refine blk_drewN ?_ _ | refine blk_drew ?_ | refine blk_alloc ?_ _)); refine blk_far ?_ NB262_317.out _; (with_reducible repeat (first | refine blk_drewN ?_ _ | refine blk_drew ?_ | refine blk_alloc ?_ _)); refine blk_far ?_ NB262_317.out _; (with_reducible repeat (first | refine blk_drewN ?_ _ | refine blk_drew ?_ | refine blk_alloc ?_ _)); refine blk_far ?_ NB262_317.out _; (with_reducible repeat (first | refine blk_drewN ?_ _ | refine blk_drew ?_ | refine blk_alloc ?_ _)); refine blk_far ?_ NB262_317.out _; (with_reducible repeat (first | refine blk_drewN ?_ _ | refine blk_drew ?_ | refine blk_alloc ?_ _)); exact BK262.out) hb); have n12_ := Aside0.mk (blk_belowB BK270 (by (with_reducible repeat (first | refine blk_drewN ?_ _ | refine blk_drew ?_ | refine blk_alloc ?_ _)); refine blk_far ?_ NB270_317.out _; (with_reducible repeat (first | refine blk_drewN ?_ _ | refine blk_drew ?_ | refine blk_alloc ?_ _)); refine blk_far ?_ NB270_317.out _; (with_reducible repeat (first | refine blk_drewN ?_ _ | refine blk_drew ?_ | refine blk_alloc ?_ _)); refine blk_far ?_ NB270_317.out _; (with_reducible repeat (first | refine blk_drewN ?_ _ | refine blk_drew ?_ | refine blk_alloc ?_ _)); refine blk_far ?_ NB270_317.out _; (with_reducible repeat (first | refine blk_drewN ?_ _ | refine blk_drew ?_ | refine blk_alloc ?_ _)); refine blk_far ?_ NB270_317.out _; (with_reducible repeat (first | refine blk_drewN ?_ _ | refine blk_drew ?_ | refine blk_alloc ?_ _)); exact BK270.out) hb); have n13_ := Aside0.mk (blk_below (g := gb317) (o := .cells #[.int .i64 t310, .int .i64 t311, .int .i64 t312, .int .i64 t313, .slice Ao148 t314.length co148] 64 (0, 0)) (by apply blk_fin; (focus ((with_reducible repeat (first | apply blk_putQ | refine blk_drewN ?_ _ | refine blk_drew ?_ | refine blk_alloc ?_ _)); exact BK317.out)); first | (simp only [List.setIfInBounds_toArray, List.set_cons_zero, List.set_cons_succ]; done) | rfl) hb); have n14_ := Aside0.mk (below_step z10_4 hb); clear HO_247004; clear HO_255004; clear HO_263004; clear HO_271004; clear HO302; clear HO309; clear HO316; clear BK221; clear BK222; clear BK246; clear BK254; clear BK262; clear BK270; clear BK317; clear HB; have HO_247004 := n0_; have HO_255004 := n1_; have HO_263004 := n2_; have HO_271004 := n3_; have HO302 := n4_; have HO309 := n5_; have HO316 := n6_; have BK221 := n7_; have BK222 := n8_; have BK246 := n9_; have BK254 := n10_; have BK262 := n11_; have BK270 := n12_; have BK317 := n13_; have HB := n14_; clear n0_ n1_ n2_ n3_ n4_ n5_ n6_ n7_ n8_ n9_ n10_ n11_ n12_ n13_ n14_; (try clear hb); (try clear hk); obtain ⟨_, _, _, _, _, _, _, _, _, _⟩ := be_5 BK270.out) | ((with_reducible refine gate_callee (f := 57) rfl ?_); refine goesL_ (some 86) rfl rfl Try.func57 (by kernel_rfl) rfl #[.agg #[.int .i64 t263, .int .i64 t264, .int .i64 t265, .int .i64 t266, .slice Ao85 t294.length co85], .int .i64 1] rfl z10_64 ?_; (with_reducible refine (laws_heldMask.calls kj34 t263 t264 t265 t266 _ _ t294 1 t319 _ ?side1 ?side2 A124.out).mono ?_); (case side1 => exact z10_66); (case side2 => rw [show t294.length = t267.length from (Kd.R_reads' HO_271004.out).1.symm]; exact (Kd.R_reads' HO_271004.out).2.1); rintro e w164 ⟨rfl, hb⟩; refine ⟨_, rfl, ?_⟩; have n0_ := Aside0.mk (Kd.R_below z10_13 hb); have n1_ := Aside0.mk (Kd.R_below z10_14 hb); have n2_ := Aside0.mk (Kd.R_below z10_15 hb); have n3_ := Aside0.mk (Kd.R_below z10_16 hb); have n4_ := Aside0.mk (Kd.R_below z10_18 hb); have n5_ := Aside0.mk (Kd.R_below z10_27 hb); have n6_ := Aside0.mk (Kd.R_below (by (with_reducible repeat (first | apply Kd.R_alloc | apply Kd.R_drewN | apply Kd.R_drew)); exact HO316.out) hb); have n7_ := Aside0.mk (blk_belowB BK221 z10_1 hb); have n8_ := Aside0.mk (blk_belowB BK222 z10_2 hb); have n9_ := Aside0.mk (blk_belowB BK246 z10_5 hb); have n10_ := Aside0.mk (blk_belowB BK254 z10_8 hb); have n11_ := Aside0.mk (blk_belowB BK262 z10_10 hb); have n12_ := Aside0.mk (blk_belowB BK270 z10_11 hb); have n13_ := Aside0.mk (blk_belowB BK317 z10_23 hb); have n14_ := Aside0.mk (below_step z10_4 hb); clear HO_247004; clear HO_255004; clear HO_263004; clear HO_271004; clear HO302; clear HO309; clear HO316; clear BK221; clear BK222; clear BK246; clear BK254; clear BK262; clear BK270; clear BK317; clear HB; have HO_247004 := n0_; have HO_255004 := n1_; have HO_263004 := n2_; have HO_271004 := n3_; have HO302 := n4_; have HO309 := n5_; have HO316 := n6_; have BK221 := n7_; have BK222 := n8_; have BK246 := n9_; have BK254 := n10_; have BK262 := n11_; have BK270 := n12_; have BK317 := n13_; have HB := n14_; clear n0_ n1_ n2_ n3_ n4_ n5_ n6_ n7_ n8_ n9_ n10_ n11_ n12_ n13_ n14_; (try clear hb); (try clear hk)))
              go_ret
              exact ⟨z10_65, z10_4⟩
             ·rw [if_neg c126] at H
              have c126b0 : (t319 == t293) = false := beq_eq_false_iff_ne.mpr c126
              have c126b1 : (t319 != t293) = true := bne_iff_ne.mpr c126
              obtain rfl := Option.some.inj H
              exact absurd hT Bool.false_ne_true
           ·replace c123 := Bool.eq_false_iff.mpr c123
            subst c123
            have H1 : (some false) = some r := by rw [if_neg (show ¬ (false = true) by decide)] at H; exact H
            clear H; have H := H1; clear H1
            obtain rfl := Option.some.inj H
            exact absurd hT Bool.false_ne_true
          ·rw [if_neg c118] at H
           have c118b0 : (t295 == t293) = false := beq_eq_false_iff_ne.mpr c118
           have c118b1 : (t295 != t293) = true := bne_iff_ne.mpr c118
           obtain rfl := Option.some.inj H
           exact absurd hT Bool.false_ne_true
     ·replace c32 := Bool.eq_false_iff.mpr c32
      subst c32
      have H1 : (some false) = some r := by rw [if_neg (show ¬ (false = true) by decide)] at H; exact H
      clear H; have H := H1; clear H1
      obtain rfl := Option.some.inj H
      exact absurd hT Bool.false_ne_true
    ·replace c29 := Bool.eq_false_iff.mpr c29
     subst c29
     have H1 : (some false) = some r := by rw [if_neg (show ¬ (false = true) by decide)] at H; exact H
     clear H; have H := H1; clear H1
     obtain rfl := Option.some.inj H
     exact absurd hT Bool.false_ne_true
   ·replace c26 := Bool.eq_false_iff.mpr c26
    subst c26
    have H1 : (some false) = some r := by rw [if_neg (show ¬ (false = true) by decide)] at H; exact H
    clear H; have H := H1; clear H1
    obtain rfl := Option.some.inj H
    exact absurd hT Bool.false_ne_true

end Go.Proofs.Ytndeonfbolookaa.MFnExactMeetMask
