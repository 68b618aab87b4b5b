/- Functions of the program as Lean functions, and the proof that a call comes to just these: machine text of this session's own program (myprint.py). -/
import Derived.Test.YtgdlbilpfmjeaaaMFnExactMaskByx0
import Derived.Test.YtgdlbilpfmjeaaaMFnExactMaskByx3
import Derived.Test.YtgdlbilpfmjeaaaMFnExactMaskByx5
import Derived.Test.YtgdlbilpfmjeaaaMFnExactMaskByx6
import Derived.Test.YtgdlbilpfmjeaaaMFnExactMaskByx9
import Derived.Test.YtgdlbilpfmjeaaaMFnExactMaskByx10
import Derived.Test.YtgdlbilpfmjeaaaMFnExactMaskByx11
namespace Go.Proofs.Ytgdlbilpfmjeaaa.MFnExactMaskBy
open Go.RowKit Go.Proofs.YtgdlbilpfmjeaaaW.PrintWords Go.Proofs.YtgdlbilpfmjeaaaW.PrintLast Go.Proofs.YtgdlbilpfmjeaaaW.PrintMore
attribute [local go_sem] max2_int min2_int max_two min_two max_three min_three max_four min_four   -- for this text's walks alone
set_option linter.unusedVariables false
set_option linter.unusedSimpArgs false

theorem z12_0 {P : Prop} (h : P := by repeat (first | (with_reducible first | exact HB.out | apply below_alloc | apply pw_below_drewN | apply below_drew1 | refine below_set ?_ GE228.out | refine below_set ?_ GE245.out | refine below_set ?_ GE261.out) | exact HB.out)) : P := h
theorem z12_1 {P : Prop} (h : P := by (with_reducible repeat (first | refine blk_drewN ?_ _ | refine blk_drew ?_ | refine blk_alloc ?_ _)); exact BK228.out) : P := h
theorem z12_2 {P : Prop} (h : P := by (try simp only [List.map_toArray, List.map_cons, List.map_nil]); first | done | rfl | (simp only [List.length_drop, List.length_take]; rfl)) : P := h
theorem z12_3 {P : Prop} (h : P := by (with_reducible repeat (first | refine blk_drewN ?_ _ | refine blk_drew ?_ | refine blk_alloc ?_ _)); exact BK245.out) : P := h
theorem z12_4 {P : Prop} (h : P := by (with_reducible repeat (first | apply Kd.R_alloc | apply Kd.R_drewN | apply Kd.R_drew)); exact (Kd.R_mono (Kd.R_far (p := ⟨gb288, 4, none⟩) (Kd.R_far (p := ⟨gb288, 3, none⟩) (Kd.R_far (p := ⟨gb288, 2, none⟩) (Kd.R_far (p := ⟨gb288, 1, none⟩) (Kd.R_far (p := ⟨gb288, 0, none⟩) (Kd.R_types HO_246004.out BK288.out (by decide)) (fun _ hk => hk.2) (.int .i64 t280)) (fun _ hk => hk.2) (.int .i64 t281)) (fun _ hk => hk.2) (.int .i64 t282)) (fun _ hk => hk.2) (.int .i64 t283)) (fun _ hk => hk.2) (.slice Ao98 t284.length co98)) (fun _ h_ => h_.1))) : P := h
theorem z12_5 {P : Prop} (h : P := by (with_reducible repeat (first | apply Kd.R_alloc | apply Kd.R_drewN | apply Kd.R_drew)); exact (Kd.R_mono (Kd.R_far (p := ⟨gb261, 4, none⟩) (Kd.R_far (p := ⟨gb261, 3, none⟩) (Kd.R_far (p := ⟨gb261, 2, none⟩) (Kd.R_far (p := ⟨gb261, 1, none⟩) (Kd.R_far (p := ⟨gb261, 0, none⟩) (Kd.R_types HO259.out BK261.out (by decide)) (fun _ hk => hk.2) (.int .i64 t253)) (fun _ hk => hk.2) (.int .i64 t254)) (fun _ hk => hk.2) (.int .i64 t255)) (fun _ hk => hk.2) (.int .i64 t256)) (fun _ hk => hk.2) (.slice Ao32 t257.length co32)) (fun _ h_ => h_.1))) : P := h
theorem z12_6 {P : Prop} (h : P := by (with_reducible repeat (first | apply Kd.R_alloc | apply Kd.R_drewN | apply Kd.R_drew)); exact (Kd.R_mono (Kd.R_far (p := ⟨gb261, 4, none⟩) (Kd.R_far (p := ⟨gb261, 3, none⟩) (Kd.R_far (p := ⟨gb261, 2, none⟩) (Kd.R_far (p := ⟨gb261, 1, none⟩) (Kd.R_far (p := ⟨gb261, 0, none⟩) (Kd.R_types HO243.out BK261.out (by decide)) (fun _ hk => hk.2) (.int .i64 t253)) (fun _ hk => hk.2) (.int .i64 t254)) (fun _ hk => hk.2) (.int .i64 t255)) (fun _ hk => hk.2) (.int .i64 t256)) (fun _ hk => hk.2) (.slice Ao32 t257.length co32)) (fun _ h_ => h_.1))) : P := h
theorem z12_7 {P : Prop} (h : P := by (with_reducible repeat (first | apply Kd.R_alloc | apply Kd.R_drewN | apply Kd.R_drew)); exact (Kd.R_mono (Kd.R_far (p := ⟨gb288, 4, none⟩) (Kd.R_far (p := ⟨gb288, 3, none⟩) (Kd.R_far (p := ⟨gb288, 2, none⟩) (Kd.R_far (p := ⟨gb288, 1, none⟩) (Kd.R_far (p := ⟨gb288, 0, none⟩) (Kd.R_types HO286.out BK288.out (by decide)) (fun _ hk => hk.2) (.int .i64 t280)) (fun _ hk => hk.2) (.int .i64 t281)) (fun _ hk => hk.2) (.int .i64 t282)) (fun _ hk => hk.2) (.int .i64 t283)) (fun _ hk => hk.2) (.slice Ao98 t284.length co98)) (fun _ h_ => h_.1))) : P := h
theorem z12_8 {P : Prop} (h : P := by repeat (first | (with_reducible first | exact HB.out | apply below_alloc | apply pw_below_drewN | apply below_drew1 | refine below_set ?_ GE228.out | refine below_set ?_ GE245.out) | exact HB.out)) : P := h
theorem z12_9 {P : Prop} (h : P := by (with_reducible repeat (first | refine blk_drewN ?_ _ | refine blk_drew ?_ | refine blk_alloc ?_ _)); exact BK261.out) : P := h
theorem z12_10 {P : Prop} (h : P := by repeat (first | (with_reducible first | exact HB.out | apply below_alloc | apply pw_below_drewN | apply below_drew1 | refine below_set ?_ GE228.out) | exact HB.out)) : P := h
theorem z12_11 {P : Prop} (h : P := by (with_reducible repeat (first | refine blk_drewN ?_ _ | refine blk_drew ?_ | refine blk_alloc ?_ _)); refine blk_put (cs := #[.int .i64 t253, .int .i64 t254, .int .i64 t255, .int .i64 t256, .slice none 0 0]) ?_ 4 _ rfl; (with_reducible repeat (first | refine blk_drewN ?_ _ | refine blk_drew ?_ | refine blk_alloc ?_ _)); refine blk_put (cs := #[.int .i64 t253, .int .i64 t254, .int .i64 t255, .int .i64 0, .slice none 0 0]) ?_ 3 _ rfl; (with_reducible repeat (first | refine blk_drewN ?_ _ | refine blk_drew ?_ | refine blk_alloc ?_ _)); refine blk_put (cs := #[.int .i64 t253, .int .i64 t254, .int .i64 0, .int .i64 0, .slice none 0 0]) ?_ 2 _ rfl; (with_reducible repeat (first | refine blk_drewN ?_ _ | refine blk_drew ?_ | refine blk_alloc ?_ _)); refine blk_put (cs := #[.int .i64 t253, .int .i64 0, .int .i64 0, .int .i64 0, .slice none 0 0]) ?_ 1 _ rfl; (with_reducible repeat (first | refine blk_drewN ?_ _ | refine blk_drew ?_ | refine blk_alloc ?_ _)); refine blk_put (cs := #[.int .i64 0, .int .i64 0, .int .i64 0, .int .i64 0, .slice none 0 0]) ?_ 0 _ rfl; (with_reducible repeat (first | refine blk_drewN ?_ _ | refine blk_drew ?_ | refine blk_alloc ?_ _)); exact BK261.out) : P := h
theorem z12_12 {P : Prop} (h : P := by (with_reducible repeat (first | refine blk_drewN ?_ _ | refine blk_drew ?_ | refine blk_alloc ?_ _)); refine blk_put (cs := #[.int .i64 t280, .int .i64 t281, .int .i64 t282, .int .i64 t283, .slice none 0 0]) ?_ 4 _ rfl; (with_reducible repeat (first | refine blk_drewN ?_ _ | refine blk_drew ?_ | refine blk_alloc ?_ _)); refine blk_put (cs := #[.int .i64 t280, .int .i64 t281, .int .i64 t282, .int .i64 0, .slice none 0 0]) ?_ 3 _ rfl; (with_reducible repeat (first | refine blk_drewN ?_ _ | refine blk_drew ?_ | refine blk_alloc ?_ _)); refine blk_put (cs := #[.int .i64 t280, .int .i64 t281, .int .i64 0, .int .i64 0, .slice none 0 0]) ?_ 2 _ rfl; (with_reducible repeat (first | refine blk_drewN ?_ _ | refine blk_drew ?_ | refine blk_alloc ?_ _)); refine blk_put (cs := #[.int .i64 t280, .int .i64 0, .int .i64 0, .int .i64 0, .slice none 0 0]) ?_ 1 _ rfl; (with_reducible repeat (first | refine blk_drewN ?_ _ | refine blk_drew ?_ | refine blk_alloc ?_ _)); refine blk_put (cs := #[.int .i64 0, .int .i64 0, .int .i64 0, .int .i64 0, .slice none 0 0]) ?_ 0 _ rfl; (with_reducible repeat (first | refine blk_drewN ?_ _ | refine blk_drew ?_ | refine blk_alloc ?_ _)); exact BK288.out) : P := h
theorem z12_13 {P : Prop} (h : P := by (with_reducible repeat (first | apply Kd.R_alloc | apply Kd.R_drewN | apply Kd.R_drew)); exact HO_246004.out) : P := h
theorem z12_14 {P : Prop} (h : P := by (with_reducible repeat (first | apply Kd.R_alloc | apply Kd.R_drewN | apply Kd.R_drew)); exact HO_262004.out) : P := h
theorem z12_15 {P : Prop} (h : P := by (with_reducible repeat (first | refine blk_drewN ?_ _ | refine blk_drew ?_ | refine blk_alloc ?_ _)); refine blk_far ?_ NB228_261.out _; (with_reducible repeat (first | refine blk_drewN ?_ _ | refine blk_drew ?_ | refine blk_alloc ?_ _)); refine blk_far ?_ NB228_261.out _; (with_reducible repeat (first | refine blk_drewN ?_ _ | refine blk_drew ?_ | refine blk_alloc ?_ _)); refine blk_far ?_ NB228_261.out _; (with_reducible repeat (first | refine blk_drewN ?_ _ | refine blk_drew ?_ | refine blk_alloc ?_ _)); refine blk_far ?_ NB228_261.out _; (with_reducible repeat (first | refine blk_drewN ?_ _ | refine blk_drew ?_ | refine blk_alloc ?_ _)); refine blk_far ?_ NB228_261.out _; (with_reducible repeat (first | refine blk_drewN ?_ _ | refine blk_drew ?_ | refine blk_alloc ?_ _)); exact BK228.out) : P := h
theorem z12_16 {P : Prop} (h : P := by (with_reducible repeat (first | refine blk_drewN ?_ _ | refine blk_drew ?_ | refine blk_alloc ?_ _)); refine blk_far ?_ NB245_261.out _; (with_reducible repeat (first | refine blk_drewN ?_ _ | refine blk_drew ?_ | refine blk_alloc ?_ _)); refine blk_far ?_ NB245_261.out _; (with_reducible repeat (first | refine blk_drewN ?_ _ | refine blk_drew ?_ | refine blk_alloc ?_ _)); refine blk_far ?_ NB245_261.out _; (with_reducible repeat (first | refine blk_drewN ?_ _ | refine blk_drew ?_ | refine blk_alloc ?_ _)); refine blk_far ?_ NB245_261.out _; (with_reducible repeat (first | refine blk_drewN ?_ _ | refine blk_drew ?_ | refine blk_alloc ?_ _)); refine blk_far ?_ NB245_261.out _; (with_reducible repeat (first | refine blk_drewN ?_ _ | refine blk_drew ?_ | refine blk_alloc ?_ _)); exact BK245.out) : P := h
theorem z12_17 {P : Prop} (h : P := by (with_reducible repeat (first | refine blk_drewN ?_ _ | refine blk_drew ?_ | refine blk_alloc ?_ _)); refine blk_far ?_ NB228_288.out _; (with_reducible repeat (first | refine blk_drewN ?_ _ | refine blk_drew ?_ | refine blk_alloc ?_ _)); refine blk_far ?_ NB228_288.out _; (with_reducible repeat (first | refine blk_drewN ?_ _ | refine blk_drew ?_ | refine blk_alloc ?_ _)); refine blk_far ?_ NB228_288.out _; (with_reducible repeat (first | refine blk_drewN ?_ _ | refine blk_drew ?_ | refine blk_alloc ?_ _)); refine blk_far ?_ NB228_288.out _; (with_reducible repeat (first | refine blk_drewN ?_ _ | refine blk_drew ?_ | refine blk_alloc ?_ _)); refine blk_far ?_ NB228_288.out _; (with_reducible repeat (first | refine blk_drewN ?_ _ | refine blk_drew ?_ | refine blk_alloc ?_ _)); exact BK228.out) : P := h
theorem z12_18 {P : Prop} (h : P := by (with_reducible repeat (first | refine blk_drewN ?_ _ | refine blk_drew ?_ | refine blk_alloc ?_ _)); refine blk_far ?_ NB245_288.out _; (with_reducible repeat (first | refine blk_drewN ?_ _ | refine blk_drew ?_ | refine blk_alloc ?_ _)); refine blk_far ?_ NB245_288.out _; (with_reducible repeat (first | refine blk_drewN ?_ _ | refine blk_drew ?_ | refine blk_alloc ?_ _)); refine blk_far ?_ NB245_288.out _; (with_reducible repeat (first | refine blk_drewN ?_ _ | refine blk_drew ?_ | refine blk_alloc ?_ _)); refine blk_far ?_ NB245_288.out _; (with_reducible repeat (first | refine blk_drewN ?_ _ | refine blk_drew ?_ | refine blk_alloc ?_ _)); refine blk_far ?_ NB245_288.out _; (with_reducible repeat (first | refine blk_drewN ?_ _ | refine blk_drew ?_ | refine blk_alloc ?_ _)); exact BK245.out) : P := h
theorem z12_19 {P : Prop} (h : P := by (with_reducible repeat (first | refine blk_drewN ?_ _ | refine blk_drew ?_ | refine blk_alloc ?_ _)); refine blk_far ?_ NB261_288.out _; (with_reducible repeat (first | refine blk_drewN ?_ _ | refine blk_drew ?_ | refine blk_alloc ?_ _)); refine blk_far ?_ NB261_288.out _; (with_reducible repeat (first | refine blk_drewN ?_ _ | refine blk_drew ?_ | refine blk_alloc ?_ _)); refine blk_far ?_ NB261_288.out _; (with_reducible repeat (first | refine blk_drewN ?_ _ | refine blk_drew ?_ | refine blk_alloc ?_ _)); refine blk_far ?_ NB261_288.out _; (with_reducible repeat (first | refine blk_drewN ?_ _ | refine blk_drew ?_ | refine blk_alloc ?_ _)); refine blk_far ?_ NB261_288.out _; (with_reducible repeat (first | refine blk_drewN ?_ _ | refine blk_drew ?_ | refine blk_alloc ?_ _)); exact BK261.out) : P := h
theorem z12_20 {P : Prop} (h : P := by repeat (first | (with_reducible first | exact HB.out | apply below_alloc | apply pw_below_drewN | apply below_drew1) | exact HB.out)) : P := h
theorem z12_21 {P : Prop} (h : P := by (with_reducible repeat (first | apply Kd.R_alloc | apply Kd.R_drewN | apply Kd.R_drew)); exact (Kd.R_mono (Kd.R_far (p := ⟨gb288, 4, none⟩) (Kd.R_far (p := ⟨gb288, 3, none⟩) (Kd.R_far (p := ⟨gb288, 2, none⟩) (Kd.R_far (p := ⟨gb288, 1, none⟩) (Kd.R_far (p := ⟨gb288, 0, none⟩) (Kd.R_types HO_262004.out BK288.out (by decide)) (fun _ hk => hk.2) (.int .i64 t280)) (fun _ hk => hk.2) (.int .i64 t281)) (fun _ hk => hk.2) (.int .i64 t282)) (fun _ hk => hk.2) (.int .i64 t283)) (fun _ hk => hk.2) (.slice Ao98 t284.length co98)) (fun _ h_ => h_.1))) : P := h
theorem z12_22 {P : Prop} (h : P := by (with_reducible repeat (first | apply Kd.R_alloc | apply Kd.R_drewN | apply Kd.R_drew)); exact (Kd.R_mono (Kd.R_far (p := ⟨gb245, 4, none⟩) (Kd.R_far (p := ⟨gb245, 3, none⟩) (Kd.R_far (p := ⟨gb245, 2, none⟩) (Kd.R_far (p := ⟨gb245, 1, none⟩) (Kd.R_far (p := ⟨gb245, 0, none⟩) (Kd.R_types HO236.out BK245.out (by decide)) (fun _ hk => hk.2) (.int .i64 t237)) (fun _ hk => hk.2) (.int .i64 t238)) (fun _ hk => hk.2) (.int .i64 t239)) (fun _ hk => hk.2) (.int .i64 t240)) (fun _ hk => hk.2) (.slice Ao22 t241.length co22)) (fun _ h_ => h_.1))) : P := h
theorem z12_23 {P : Prop} (h : P := by (with_reducible repeat (first | apply Kd.R_alloc | apply Kd.R_drewN | apply Kd.R_drew)); exact (Kd.R_mono (Kd.R_far (p := ⟨gb261, 4, none⟩) (Kd.R_far (p := ⟨gb261, 3, none⟩) (Kd.R_far (p := ⟨gb261, 2, none⟩) (Kd.R_far (p := ⟨gb261, 1, none⟩) (Kd.R_far (p := ⟨gb261, 0, none⟩) (Kd.R_types HO236.out BK261.out (by decide)) (fun _ hk => hk.2) (.int .i64 t253)) (fun _ hk => hk.2) (.int .i64 t254)) (fun _ hk => hk.2) (.int .i64 t255)) (fun _ hk => hk.2) (.int .i64 t256)) (fun _ hk => hk.2) (.slice Ao32 t257.length co32)) (fun _ h_ => h_.1))) : P := h
theorem z12_24 {P : Prop} (h : P := by (with_reducible repeat (first | apply Kd.R_alloc | apply Kd.R_drewN | apply Kd.R_drew)); exact (Kd.R_mono (Kd.R_far (p := ⟨gb261, 4, none⟩) (Kd.R_far (p := ⟨gb261, 3, none⟩) (Kd.R_far (p := ⟨gb261, 2, none⟩) (Kd.R_far (p := ⟨gb261, 1, none⟩) (Kd.R_far (p := ⟨gb261, 0, none⟩) (Kd.R_types HO248.out BK261.out (by decide)) (fun _ hk => hk.2) (.int .i64 t253)) (fun _ hk => hk.2) (.int .i64 t254)) (fun _ hk => hk.2) (.int .i64 t255)) (fun _ hk => hk.2) (.int .i64 t256)) (fun _ hk => hk.2) (.slice Ao32 t257.length co32)) (fun _ h_ => h_.1))) : P := h
theorem z12_25 {P : Prop} (h : P := by (with_reducible repeat (first | apply Kd.R_alloc | apply Kd.R_drewN | apply Kd.R_drew)); exact (Kd.R_mono (Kd.R_far (p := ⟨gb288, 4, none⟩) (Kd.R_far (p := ⟨gb288, 3, none⟩) (Kd.R_far (p := ⟨gb288, 2, none⟩) (Kd.R_far (p := ⟨gb288, 1, none⟩) (Kd.R_far (p := ⟨gb288, 0, none⟩) (Kd.R_types HO279.out BK288.out (by decide)) (fun _ hk => hk.2) (.int .i64 t280)) (fun _ hk => hk.2) (.int .i64 t281)) (fun _ hk => hk.2) (.int .i64 t282)) (fun _ hk => hk.2) (.int .i64 t283)) (fun _ hk => hk.2) (.slice Ao98 t284.length co98)) (fun _ h_ => h_.1))) : P := h
theorem z12_26 {P : Prop} (h : P := by repeat (first | (with_reducible first | exact HB.out | apply below_alloc | apply pw_below_drewN | apply below_drew1 | refine below_set ?_ GE228.out | refine below_set ?_ GE245.out | refine below_set ?_ GE261.out | refine below_set ?_ GE288.out) | exact HB.out)) : P := h
theorem z12_27 {P : Prop} (h : P := by (with_reducible repeat (first | apply Kd.R_alloc | apply Kd.R_drewN | apply Kd.R_drew)); exact HO236.out) : P := h
theorem z12_28 {P : Prop} (h : P := by (with_reducible repeat (first | apply Kd.R_alloc | apply Kd.R_drewN | apply Kd.R_drew)); exact HO243.out) : P := h
theorem z12_29 {P : Prop} (h : P := by (with_reducible repeat (first | apply Kd.R_alloc | apply Kd.R_drewN | apply Kd.R_drew)); exact HO_8.out) : P := h
theorem z12_30 {P : Prop} (h : P := by (with_reducible repeat (first | apply Kd.R_alloc | apply Kd.R_drewN | apply Kd.R_drew)); exact HO248.out) : P := h
theorem z12_31 {P : Prop} (h : P := by (with_reducible repeat (first | apply Kd.R_alloc | apply Kd.R_drewN | apply Kd.R_drew)); exact HO265.out) : P := h
/-! ### laws_FnExactMaskBy: function 5 -/
mutual
def laws_FnExactMaskBy.j0 : Nat → List (S133) → Bool → List (S129) → Bool → Bool → Int → Int → Int → Int → Int → Int → Int → Int → List Int → Int → Int → Int → Int → List Int → Option (Bool)
 | 0, _, _, _, _, _, _, _, _, _, _, _, _, _, _, _, _, _, _, _ => none
 | k + 1, x1, x7, x8, x10, x46, x229000, x229001, x229002, x229003, x246000, x246001, x246002, x246003, x246004, x262000, x262001, x262002, x262003, x262004 => if x46 = true then (some false) else ((laws_toRunS.f k x1).bind fun t263 => ((laws_eqRunS.f k x8 t263).bind fun t266 => (if t266 = true then ((laws_markRunS.f k x8 1).bind fun bt267 => (if bt267.1 < 0 then (laws_FnExactMaskBy.j1 k x1 x7 true x229000 x229001 x229002 x229003 x246000 x246001 x246002 x246003 x246004 x262000 x262001 x262002 x262003 x262004) else ((laws_eqMask.f k x262000 x262001 x262002 x262003 x262004 x246000 x246001 x246002 x246003 x246004).bind fun t269 => (if t269 = true then (laws_FnExactMaskBy.j1 k x1 x7 (x10 != x7) x229000 x229001 x229002 x229003 x246000 x246001 x246002 x246003 x246004 x262000 x262001 x262002 x262003 x262004) else (laws_FnExactMaskBy.j1 k x1 x7 true x229000 x229001 x229002 x229003 x246000 x246001 x246002 x246003 x246004 x262000 x262001 x262002 x262003 x262004))))) else (some false))))
def laws_FnExactMaskBy.j1 : Nat → List (S133) → Bool → Bool → Int → Int → Int → Int → Int → Int → Int → Int → List Int → Int → Int → Int → Int → List Int → Option (Bool)
 | 0, _, _, _, _, _, _, _, _, _, _, _, _, _, _, _, _, _ => none
 | k + 1, x1, x7, x67, x229000, x229001, x229002, x229003, x246000, x246001, x246002, x246003, x246004, x262000, x262001, x262002, x262003, x262004 => if x67 = true then (some false) else ((laws_markMask.f k x262000 x262001 x262002 x262003 x262004 1).bind fun bt270 => ((laws_heldMask.f k x262000 x262001 x262002 x262003 bt270.2 1).bind fun t272 => (if t272 < 0 then (some false) else (if t272 = bt270.1 then ((laws_toBox.f x229000 x229001 x229002 x229003).bind fun bt273 => ((laws_toRunS.f k x1).bind fun t277 => ((impl_MaskBy.f k bt273.1 bt273.2.1 bt273.2.2.1 bt273.2.2.2 t277).bind fun bt280 => ((laws_eqMask.f k bt280.1 bt280.2.1 bt280.2.2.1 bt280.2.2.2.1 bt280.2.2.2.2.1 x246000 x246001 x246002 x246003 x246004).bind fun t289 => (if t289 = true then (laws_FnExactMaskBy.j2 k bt270.1 (bt280.2.2.2.2.2 != x7) x262000 x262001 x262002 x262003 bt270.2) else (laws_FnExactMaskBy.j2 k bt270.1 true x262000 x262001 x262002 x262003 bt270.2)))))) else (some false)))))
def laws_FnExactMaskBy.j2 : Nat → Int → Bool → Int → Int → Int → Int → List Int → Option (Bool)
 | 0, _, _, _, _, _, _, _ => none
 | k + 1, x12, x95, x262000, x262001, x262002, x262003, x262004 => if x95 = true then (some false) else ((laws_heldMask.f k x262000 x262001 x262002 x262003 x262004 1).bind fun t290 => (if t290 < 0 then (some false) else (if t290 = x12 then (some true) else (some false))))
end
def laws_FnExactMaskBy.f (k : Nat) (a0_0 : Int) (a0_1 : Int) (a0_2 : Int) (a0_3 : Int) (l1 : List (S133)) : Option (Bool) := (laws_szRunS.f l1 1048576).bind fun t229 => (if t229 < 0 then (some true) else ((laws_toBox.f a0_0 a0_1 a0_2 a0_3).bind fun bt230 => ((laws_toRunS.f k l1).bind fun t234 => ((spec_MaskBy.f k bt230.1 bt230.2.1 bt230.2.2.1 bt230.2.2.2 t234).bind fun bt237 => ((laws_toRunS.f k l1).bind fun t246 => ((laws_toBox.f a0_0 a0_1 a0_2 a0_3).bind fun bt249 => ((impl_MaskBy.f k bt249.1 bt249.2.1 bt249.2.2.1 bt249.2.2.2 t246).bind fun bt253 => ((laws_eqMask.f k bt253.1 bt253.2.1 bt253.2.2.1 bt253.2.2.2.1 bt253.2.2.2.2.1 bt237.1 bt237.2.1 bt237.2.2.1 bt237.2.2.2.1 bt237.2.2.2.2.1).bind fun t262 => (if t262 = true then (laws_FnExactMaskBy.j0 k l1 bt237.2.2.2.2.2 t246 bt253.2.2.2.2.2 (bt253.2.2.2.2.2 != bt237.2.2.2.2.2) a0_0 a0_1 a0_2 a0_3 bt237.1 bt237.2.1 bt237.2.2.1 bt237.2.2.2.1 bt237.2.2.2.2.1 bt253.1 bt253.2.1 bt253.2.2.1 bt253.2.2.2.1 bt253.2.2.2.2.1) else (laws_FnExactMaskBy.j0 k l1 bt237.2.2.2.2.2 t246 bt253.2.2.2.2.2 true a0_0 a0_1 a0_2 a0_3 bt237.1 bt237.2.1 bt237.2.2.1 bt237.2.2.2.1 bt237.2.2.2.2.1 bt253.1 bt253.2.1 bt253.2.2.1 bt253.2.2.2.1 bt253.2.2.2.2.1))))))))))
theorem laws_FnExactMaskBy.mono_l : ∀ k, (∀ y0 y1 y2 y3 y4 y5 y6 y7 y8 y9 y10 y11 y12 y13 y14 y15 y16 y17 y18, LeO (laws_FnExactMaskBy.j0 k y0 y1 y2 y3 y4 y5 y6 y7 y8 y9 y10 y11 y12 y13 y14 y15 y16 y17 y18) (laws_FnExactMaskBy.j0 (k + 1) y0 y1 y2 y3 y4 y5 y6 y7 y8 y9 y10 y11 y12 y13 y14 y15 y16 y17 y18)) ∧ (∀ y0 y1 y2 y3 y4 y5 y6 y7 y8 y9 y10 y11 y12 y13 y14 y15 y16, LeO (laws_FnExactMaskBy.j1 k y0 y1 y2 y3 y4 y5 y6 y7 y8 y9 y10 y11 y12 y13 y14 y15 y16) (laws_FnExactMaskBy.j1 (k + 1) y0 y1 y2 y3 y4 y5 y6 y7 y8 y9 y10 y11 y12 y13 y14 y15 y16)) ∧ (∀ y0 y1 y2 y3 y4 y5 y6, LeO (laws_FnExactMaskBy.j2 k y0 y1 y2 y3 y4 y5 y6) (laws_FnExactMaskBy.j2 (k + 1) y0 y1 y2 y3 y4 y5 y6))
 | 0 => ⟨fun _ _ _ _ _ _ _ _ _ _ _ _ _ _ _ _ _ _ _ r h => by simp [laws_FnExactMaskBy.j0] at h, fun _ _ _ _ _ _ _ _ _ _ _ _ _ _ _ _ _ r h => by simp [laws_FnExactMaskBy.j1] at h, fun _ _ _ _ _ _ _ r h => by simp [laws_FnExactMaskBy.j2] at h⟩
 | k + 1 => by
  obtain ⟨ih0, ih1, ih2⟩ := laws_FnExactMaskBy.mono_l k
  refine ⟨?_, ?_, ?_⟩
  ·intro y0 y1 y2 y3 y4 y5 y6 y7 y8 y9 y10 y11 y12 y13 y14 y15 y16 y17 y18
   unfold laws_FnExactMaskBy.j0
   repeat' first
   | (with_reducible exact ih0 _ _ _ _ _ _ _ _ _ _ _ _ _ _ _ _ _ _ _)
   | (with_reducible exact ih1 _ _ _ _ _ _ _ _ _ _ _ _ _ _ _ _ _)
   | (with_reducible exact ih2 _ _ _ _ _ _ _)
   | (with_reducible exact impl_MaskBy.mono _ _ _ _ _ _)
   | (with_reducible exact laws_eqMask.mono _ _ _ _ _ _ _ _ _ _ _)
   | (with_reducible exact laws_eqRunS.mono _ _ _)
   | (with_reducible exact laws_heldMask.mono _ _ _ _ _ _ _)
   | (with_reducible exact laws_markMask.mono _ _ _ _ _ _ _)
   | (with_reducible exact laws_markRunS.mono _ _ _)
   | (with_reducible exact laws_toRunS.mono _ _)
   | (with_reducible exact spec_MaskBy.mono _ _ _ _ _ _)
   | (with_reducible exact LeO.refl _)
   | (with_reducible exact LeO.none _)
   | (with_reducible refine LeO.ite ?_ ?_)
   | (with_reducible refine LeO.bind ?_ (fun _ => ?_))
   | exact ih0 _ _ _ _ _ _ _ _ _ _ _ _ _ _ _ _ _ _ _
   | exact ih1 _ _ _ _ _ _ _ _ _ _ _ _ _ _ _ _ _
   | exact ih2 _ _ _ _ _ _ _
   | exact impl_MaskBy.mono _ _ _ _ _ _
   | exact laws_eqMask.mono _ _ _ _ _ _ _ _ _ _ _
   | exact laws_eqRunS.mono _ _ _
   | exact laws_heldMask.mono _ _ _ _ _ _ _
   | exact laws_markMask.mono _ _ _ _ _ _ _
   | exact laws_markRunS.mono _ _ _
   | exact laws_toRunS.mono _ _
   | exact spec_MaskBy.mono _ _ _ _ _ _
   | exact LeO.none _
   | refine LeO.ite ?_ ?_
   | refine LeO.bind ?_ (fun _ => ?_)
  ·intro y0 y1 y2 y3 y4 y5 y6 y7 y8 y9 y10 y11 y12 y13 y14 y15 y16
   unfold laws_FnExactMaskBy.j1
   repeat' first
   | (with_reducible exact ih0 _ _ _ _ _ _ _ _ _ _ _ _ _ _ _ _ _ _ _)
   | (with_reducible exact ih1 _ _ _ _ _ _ _ _ _ _ _ _ _ _ _ _ _)
   | (with_reducible exact ih2 _ _ _ _ _ _ _)
   | (with_reducible exact impl_MaskBy.mono _ _ _ _ _ _)
   | (with_reducible exact laws_eqMask.mono _ _ _ _ _ _ _ _ _ _ _)
   | (with_reducible exact laws_eqRunS.mono _ _ _)
   | (with_reducible exact laws_heldMask.mono _ _ _ _ _ _ _)
   | (with_reducible exact laws_markMask.mono _ _ _ _ _ _ _)
   | (with_reducible exact laws_markRunS.mono _ _ _)
   | (with_reducible exact laws_toRunS.mono _ _)
   | (with_reducible exact spec_MaskBy.mono _ _ _ _ _ _)
   | (with_reducible exact LeO.refl _)
   | (with_reducible exact LeO.none _)
   | (with_reducible refine LeO.ite ?_ ?_)
   | (with_reducible refine LeO.bind ?_ (fun _ => ?_))
   | exact ih0 _ _ _ _ _ _ _ _ _ _ _ _ _ _ _ _ _ _ _
   | exact ih1 _ _ _ _ _ _ _ _ _ _ _ _ _ _ _ _ _
   | exact ih2 _ _ _ _ _ _ _
   | exact impl_MaskBy.mono _ _ _ _ _ _
   | exact laws_eqMask.mono _ _ _ _ _ _ _ _ _ _ _
   | exact laws_eqRunS.mono _ _ _
   | exact laws_heldMask.mono _ _ _ _ _ _ _
   | exact laws_markMask.mono _ _ _ _ _ _ _
   | exact laws_markRunS.mono _ _ _
   | exact laws_toRunS.mono _ _
   | exact spec_MaskBy.mono _ _ _ _ _ _
   | exact LeO.none _
   | refine LeO.ite ?_ ?_
   | refine LeO.bind ?_ (fun _ => ?_)
  ·intro y0 y1 y2 y3 y4 y5 y6
   unfold laws_FnExactMaskBy.j2
   repeat' first
   | (with_reducible exact ih0 _ _ _ _ _ _ _ _ _ _ _ _ _ _ _ _ _ _ _)
   | (with_reducible exact ih1 _ _ _ _ _ _ _ _ _ _ _ _ _ _ _ _ _)
   | (with_reducible exact ih2 _ _ _ _ _ _ _)
   | (with_reducible exact impl_MaskBy.mono _ _ _ _ _ _)
   | (with_reducible exact laws_eqMask.mono _ _ _ _ _ _ _ _ _ _ _)
   | (with_reducible exact laws_eqRunS.mono _ _ _)
   | (with_reducible exact laws_heldMask.mono _ _ _ _ _ _ _)
   | (with_reducible exact laws_markMask.mono _ _ _ _ _ _ _)
   | (with_reducible exact laws_markRunS.mono _ _ _)
   | (with_reducible exact laws_toRunS.mono _ _)
   | (with_reducible exact spec_MaskBy.mono _ _ _ _ _ _)
   | (with_reducible exact LeO.refl _)
   | (with_reducible exact LeO.none _)
   | (with_reducible refine LeO.ite ?_ ?_)
   | (with_reducible refine LeO.bind ?_ (fun _ => ?_))
   | exact ih0 _ _ _ _ _ _ _ _ _ _ _ _ _ _ _ _ _ _ _
   | exact ih1 _ _ _ _ _ _ _ _ _ _ _ _ _ _ _ _ _
   | exact ih2 _ _ _ _ _ _ _
   | exact impl_MaskBy.mono _ _ _ _ _ _
   | exact laws_eqMask.mono _ _ _ _ _ _ _ _ _ _ _
   | exact laws_eqRunS.mono _ _ _
   | exact laws_heldMask.mono _ _ _ _ _ _ _
   | exact laws_markMask.mono _ _ _ _ _ _ _
   | exact laws_markRunS.mono _ _ _
   | exact laws_toRunS.mono _ _
   | exact spec_MaskBy.mono _ _ _ _ _ _
   | exact LeO.none _
   | refine LeO.ite ?_ ?_
   | refine LeO.bind ?_ (fun _ => ?_)
theorem laws_FnExactMaskBy.mono : ∀ a0 a1 a2 a3 a4 k, LeO (laws_FnExactMaskBy.f k a0 a1 a2 a3 a4) (laws_FnExactMaskBy.f (k + 1) a0 a1 a2 a3 a4) := by
 intro a0 a1 a2 a3 a4 k
 obtain ⟨ih0, ih1, ih2⟩ := laws_FnExactMaskBy.mono_l k
 unfold laws_FnExactMaskBy.f
 repeat' first
   | (with_reducible exact ih0 _ _ _ _ _ _ _ _ _ _ _ _ _ _ _ _ _ _ _)
   | (with_reducible exact ih1 _ _ _ _ _ _ _ _ _ _ _ _ _ _ _ _ _)
   | (with_reducible exact ih2 _ _ _ _ _ _ _)
   | (with_reducible exact impl_MaskBy.mono _ _ _ _ _ _)
   | (with_reducible exact laws_eqMask.mono _ _ _ _ _ _ _ _ _ _ _)
   | (with_reducible exact laws_eqRunS.mono _ _ _)
   | (with_reducible exact laws_heldMask.mono _ _ _ _ _ _ _)
   | (with_reducible exact laws_markMask.mono _ _ _ _ _ _ _)
   | (with_reducible exact laws_markRunS.mono _ _ _)
   | (with_reducible exact laws_toRunS.mono _ _)
   | (with_reducible exact spec_MaskBy.mono _ _ _ _ _ _)
   | (with_reducible exact LeO.refl _)
   | (with_reducible exact LeO.none _)
   | (with_reducible refine LeO.ite ?_ ?_)
   | (with_reducible refine LeO.bind ?_ (fun _ => ?_))
   | exact ih0 _ _ _ _ _ _ _ _ _ _ _ _ _ _ _ _ _ _ _
   | exact ih1 _ _ _ _ _ _ _ _ _ _ _ _ _ _ _ _ _
   | exact ih2 _ _ _ _ _ _ _
   | exact impl_MaskBy.mono _ _ _ _ _ _
   | exact laws_eqMask.mono _ _ _ _ _ _ _ _ _ _ _
   | exact laws_eqRunS.mono _ _ _
   | exact laws_heldMask.mono _ _ _ _ _ _ _
   | exact laws_markMask.mono _ _ _ _ _ _ _
   | exact laws_markRunS.mono _ _ _
   | exact laws_toRunS.mono _ _
   | exact spec_MaskBy.mono _ _ _ _ _ _
   | exact LeO.none _
   | refine LeO.ite ?_ ?_
   | refine LeO.bind ?_ (fun _ => ?_)
set_option maxHeartbeats 8000000 in
set_option maxRecDepth 100000 in
theorem laws_FnExactMaskBy.calls (k : Nat) (a0_0 : Int) (a0_1 : Int) (a0_2 : Int) (a0_3 : Int) (A1 : Option Addr) (c1 : Nat) (l1 : List (S133)) (r : Bool) (w : World) (hr1 : Kd.C k133 w A1 l1.length l1) (hc1 : l1.length ≤ c1) (hT : r = true) (h : laws_FnExactMaskBy.f k a0_0 a0_1 a0_2 a0_3 l1 = some r) :
  Calls Try.prog 5 #[.agg #[.int .i64 a0_0, .int .i64 a0_1, .int .i64 a0_2, .int .i64 a0_3], .slice A1 l1.length c1] w fun e w' => e = .returned (.bool r) ∧ Below w.heap.size w w' := by
 have hu48 := Try.underlying48
 have hu52 := Try.underlying52
 have HR1 := Aside0.mk hr1
 have HC1 := Aside0.mk hc1
 clear hr1 hc1
 have HB := Aside0.mk (Below.refl w.heap.size w)
 have H : ((laws_szRunS.f l1 1048576).bind fun t229 => (if t229 < 0 then (some true) else ((laws_toBox.f a0_0 a0_1 a0_2 a0_3).bind fun bt230 => ((laws_toRunS.f k l1).bind fun t234 => ((spec_MaskBy.f k bt230.1 bt230.2.1 bt230.2.2.1 bt230.2.2.2 t234).bind fun bt237 => ((laws_toRunS.f k l1).bind fun t246 => ((laws_toBox.f a0_0 a0_1 a0_2 a0_3).bind fun bt249 => ((impl_MaskBy.f k bt249.1 bt249.2.1 bt249.2.2.1 bt249.2.2.2 t246).bind fun bt253 => ((laws_eqMask.f k bt253.1 bt253.2.1 bt253.2.2.1 bt253.2.2.2.1 bt253.2.2.2.2.1 bt237.1 bt237.2.1 bt237.2.2.1 bt237.2.2.2.1 bt237.2.2.2.2.1).bind fun t262 => (if t262 = true then (laws_FnExactMaskBy.j0 k l1 bt237.2.2.2.2.2 t246 bt253.2.2.2.2.2 (bt253.2.2.2.2.2 != bt237.2.2.2.2.2) a0_0 a0_1 a0_2 a0_3 bt237.1 bt237.2.1 bt237.2.2.1 bt237.2.2.2.1 bt237.2.2.2.2.1 bt253.1 bt253.2.1 bt253.2.2.1 bt253.2.2.2.1 bt253.2.2.2.2.1) else (laws_FnExactMaskBy.j0 k l1 bt237.2.2.2.2.2 t246 bt253.2.2.2.2.2 true a0_0 a0_1 a0_2 a0_3 bt237.1 bt237.2.1 bt237.2.2.1 bt237.2.2.2.1 bt237.2.2.2.2.1 bt253.1 bt253.2.1 bt253.2.2.1 bt253.2.2.2.1 bt253.2.2.2.2.1))))))))))) = some r := h
 clear h
 replace H := Option.bind_eq_some_iff.mp H
 obtain ⟨t229, A30, H⟩ := H
 replace H : (if t229 < 0 then (some true) else ((laws_toBox.f a0_0 a0_1 a0_2 a0_3).bind fun bt230 => ((laws_toRunS.f k l1).bind fun t234 => ((spec_MaskBy.f k bt230.1 bt230.2.1 bt230.2.2.1 bt230.2.2.2 t234).bind fun bt237 => ((laws_toRunS.f k l1).bind fun t246 => ((laws_toBox.f a0_0 a0_1 a0_2 a0_3).bind fun bt249 => ((impl_MaskBy.f k bt249.1 bt249.2.1 bt249.2.2.1 bt249.2.2.2 t246).bind fun bt253 => ((laws_eqMask.f k bt253.1 bt253.2.1 bt253.2.2.1 bt253.2.2.2.1 bt253.2.2.2.2.1 bt237.1 bt237.2.1 bt237.2.2.1 bt237.2.2.2.1 bt237.2.2.2.2.1).bind fun t262 => (if t262 = true then (laws_FnExactMaskBy.j0 k l1 bt237.2.2.2.2.2 t246 bt253.2.2.2.2.2 (bt253.2.2.2.2.2 != bt237.2.2.2.2.2) a0_0 a0_1 a0_2 a0_3 bt237.1 bt237.2.1 bt237.2.2.1 bt237.2.2.2.1 bt237.2.2.2.2.1 bt253.1 bt253.2.1 bt253.2.2.1 bt253.2.2.2.1 bt253.2.2.2.2.1) else (laws_FnExactMaskBy.j0 k l1 bt237.2.2.2.2.2 t246 bt253.2.2.2.2.2 true a0_0 a0_1 a0_2 a0_3 bt237.1 bt237.2.1 bt237.2.2.1 bt237.2.2.2.1 bt237.2.2.2.2.1 bt253.1 bt253.2.1 bt253.2.2.1 bt253.2.2.2.1 bt253.2.2.2.2.1)))))))))) = some r := H
 have A3 := Aside0.mk A30
 clear A30
 by_cases c4 : t229 < 0
 ·rw [if_pos c4] at H
  have c4b0 : decide (t229 < 0) = true := decide_eq_true c4
  clear c4
  obtain rfl := Option.some.inj H
  simp only [Option.some.injEq, Prod.mk.injEq] at H
  obtain ⟨rfl⟩ := H
  go_enter Try.func5, Try.ntmps5
  go_wp2_with (first | ((with_reducible refine gate_dst (N := 2) rfl ?_); refine box_event ?hg (N := 2) ?hd (cs := #[.int .i64 a0_0, .int .i64 a0_1, .int .i64 a0_2, .int .i64 a0_3]) (t := 48) ?hr ?_; (case hd => rfl); (case hg => rfl); (case hr => first | (go_simp; done) | (go_simp; rfl)); intro gb228 hg w5 hbox hb; have n0_ := Aside0.mk (below_step z12_20 hb); have n1_ := Aside0.mk (hbox); have n2_ := Aside0.mk ((by rw [hg]; exact (below_size z12_20) : w.heap.size ≤ gb228)); have n3_ := Aside0.mk ((by rw [hg]; exact (below_size z12_20) : w.heap.size ≤ gb228)); clear HB; have HB := n0_; have BK228 := n1_; have GW228 := n2_; have GE228 := n3_; clear n0_ n1_ n2_ n3_; clear hb hbox hg) | ((with_reducible refine gate_callee (f := 31) rfl ?_); refine goesL_ (some 18) rfl rfl Try.func31 (by kernel_rfl) rfl #[.slice A1 l1.length c1, .int .i64 1048576] rfl z12_2 ?_; (with_reducible refine (laws_szRunS.calls _ _ l1 1048576 t229 _ ?side1 ?side2 A3.out).mono ?_); (case side1 => repeat (first | exact (Kd.C_below HR1.out HB.out) | (with_reducible refine Kd.C_alloc ?_ _) | (with_reducible refine Kd.C_drewN ?_ _) | (with_reducible refine Kd.C_drew ?_))); (case side2 => exact HC1.out); rintro e w' ⟨rfl, ⟨nd, rfl⟩⟩; refine ⟨_, rfl, ?_⟩))
  go_ret
  exact ⟨by first | rfl | (simp [errW_none, errW_some] <;> rfl) | (simp [*, errW_none, errW_some] <;> rfl), by repeat (first | (with_reducible first | exact HB.out | apply below_alloc | apply pw_below_drewN | apply below_drew1 | refine below_set ?_ GE228.out) | exact HB.out)⟩
 ·rw [if_neg c4] at H
  have c4b0 : decide (t229 < 0) = false := decide_eq_false c4
  clear c4
  replace H := Option.bind_eq_some_iff.mp H
  obtain ⟨⟨t230, t231, t232, t233⟩, A60, H⟩ := H
  replace H : ((laws_toRunS.f k l1).bind fun t234 => ((spec_MaskBy.f k t230 t231 t232 t233 t234).bind fun bt237 => ((laws_toRunS.f k l1).bind fun t246 => ((laws_toBox.f a0_0 a0_1 a0_2 a0_3).bind fun bt249 => ((impl_MaskBy.f k bt249.1 bt249.2.1 bt249.2.2.1 bt249.2.2.2 t246).bind fun bt253 => ((laws_eqMask.f k bt253.1 bt253.2.1 bt253.2.2.1 bt253.2.2.2.1 bt253.2.2.2.2.1 bt237.1 bt237.2.1 bt237.2.2.1 bt237.2.2.2.1 bt237.2.2.2.2.1).bind fun t262 => (if t262 = true then (laws_FnExactMaskBy.j0 k l1 bt237.2.2.2.2.2 t246 bt253.2.2.2.2.2 (bt253.2.2.2.2.2 != bt237.2.2.2.2.2) a0_0 a0_1 a0_2 a0_3 bt237.1 bt237.2.1 bt237.2.2.1 bt237.2.2.2.1 bt237.2.2.2.2.1 bt253.1 bt253.2.1 bt253.2.2.1 bt253.2.2.2.1 bt253.2.2.2.2.1) else (laws_FnExactMaskBy.j0 k l1 bt237.2.2.2.2.2 t246 bt253.2.2.2.2.2 true a0_0 a0_1 a0_2 a0_3 bt237.1 bt237.2.1 bt237.2.2.1 bt237.2.2.2.1 bt237.2.2.2.2.1 bt253.1 bt253.2.1 bt253.2.2.1 bt253.2.2.2.1 bt253.2.2.2.2.1)))))))) = some r := H
  have A6 := Aside0.mk A60
  clear A60
  replace H := Option.bind_eq_some_iff.mp H
  obtain ⟨t234, A70, H⟩ := H
  replace H : ((spec_MaskBy.f k t230 t231 t232 t233 t234).bind fun bt237 => ((laws_toRunS.f k l1).bind fun t246 => ((laws_toBox.f a0_0 a0_1 a0_2 a0_3).bind fun bt249 => ((impl_MaskBy.f k bt249.1 bt249.2.1 bt249.2.2.1 bt249.2.2.2 t246).bind fun bt253 => ((laws_eqMask.f k bt253.1 bt253.2.1 bt253.2.2.1 bt253.2.2.2.1 bt253.2.2.2.2.1 bt237.1 bt237.2.1 bt237.2.2.1 bt237.2.2.2.1 bt237.2.2.2.2.1).bind fun t262 => (if t262 = true then (laws_FnExactMaskBy.j0 k l1 bt237.2.2.2.2.2 t246 bt253.2.2.2.2.2 (bt253.2.2.2.2.2 != bt237.2.2.2.2.2) a0_0 a0_1 a0_2 a0_3 bt237.1 bt237.2.1 bt237.2.2.1 bt237.2.2.2.1 bt237.2.2.2.2.1 bt253.1 bt253.2.1 bt253.2.2.1 bt253.2.2.2.1 bt253.2.2.2.2.1) else (laws_FnExactMaskBy.j0 k l1 bt237.2.2.2.2.2 t246 bt253.2.2.2.2.2 true a0_0 a0_1 a0_2 a0_3 bt237.1 bt237.2.1 bt237.2.2.1 bt237.2.2.2.1 bt237.2.2.2.2.1 bt253.1 bt253.2.1 bt253.2.2.1 bt253.2.2.2.1 bt253.2.2.2.2.1))))))) = some r := H
  have A7 := Aside0.mk A70
  clear A70
  replace H := Option.bind_eq_some_iff.mp H
  obtain ⟨⟨t237, t238, t239, t240, t241, t244⟩, A80, H⟩ := H
  replace H : ((laws_toRunS.f k l1).bind fun t246 => ((laws_toBox.f a0_0 a0_1 a0_2 a0_3).bind fun bt249 => ((impl_MaskBy.f k bt249.1 bt249.2.1 bt249.2.2.1 bt249.2.2.2 t246).bind fun bt253 => ((laws_eqMask.f k bt253.1 bt253.2.1 bt253.2.2.1 bt253.2.2.2.1 bt253.2.2.2.2.1 t237 t238 t239 t240 t241).bind fun t262 => (if t262 = true then (laws_FnExactMaskBy.j0 k l1 t244 t246 bt253.2.2.2.2.2 (bt253.2.2.2.2.2 != t244) a0_0 a0_1 a0_2 a0_3 t237 t238 t239 t240 t241 bt253.1 bt253.2.1 bt253.2.2.1 bt253.2.2.2.1 bt253.2.2.2.2.1) else (laws_FnExactMaskBy.j0 k l1 t244 t246 bt253.2.2.2.2.2 true a0_0 a0_1 a0_2 a0_3 t237 t238 t239 t240 t241 bt253.1 bt253.2.1 bt253.2.2.1 bt253.2.2.2.1 bt253.2.2.2.2.1)))))) = some r := H
  have A8 := Aside0.mk A80
  clear A80
  replace H := Option.bind_eq_some_iff.mp H
  obtain ⟨t246, A90, H⟩ := H
  replace H : ((laws_toBox.f a0_0 a0_1 a0_2 a0_3).bind fun bt249 => ((impl_MaskBy.f k bt249.1 bt249.2.1 bt249.2.2.1 bt249.2.2.2 t246).bind fun bt253 => ((laws_eqMask.f k bt253.1 bt253.2.1 bt253.2.2.1 bt253.2.2.2.1 bt253.2.2.2.2.1 t237 t238 t239 t240 t241).bind fun t262 => (if t262 = true then (laws_FnExactMaskBy.j0 k l1 t244 t246 bt253.2.2.2.2.2 (bt253.2.2.2.2.2 != t244) a0_0 a0_1 a0_2 a0_3 t237 t238 t239 t240 t241 bt253.1 bt253.2.1 bt253.2.2.1 bt253.2.2.2.1 bt253.2.2.2.2.1) else (laws_FnExactMaskBy.j0 k l1 t244 t246 bt253.2.2.2.2.2 true a0_0 a0_1 a0_2 a0_3 t237 t238 t239 t240 t241 bt253.1 bt253.2.1 bt253.2.2.1 bt253.2.2.2.1 bt253.2.2.2.2.1))))) = some r := H
  have A9 := Aside0.mk A90
  clear A90
  replace H := Option.bind_eq_some_iff.mp H
  obtain ⟨⟨t249, t250, t251, t252⟩, A100, H⟩ := H
  replace H : ((impl_MaskBy.f k t249 t250 t251 t252 t246).bind fun bt253 => ((laws_eqMask.f k bt253.1 bt253.2.1 bt253.2.2.1 bt253.2.2.2.1 bt253.2.2.2.2.1 t237 t238 t239 t240 t241).bind fun t262 => (if t262 = true then (laws_FnExactMaskBy.j0 k l1 t244 t246 bt253.2.2.2.2.2 (bt253.2.2.2.2.2 != t244) a0_0 a0_1 a0_2 a0_3 t237 t238 t239 t240 t241 bt253.1 bt253.2.1 bt253.2.2.1 bt253.2.2.2.1 bt253.2.2.2.2.1) else (laws_FnExactMaskBy.j0 k l1 t244 t246 bt253.2.2.2.2.2 true a0_0 a0_1 a0_2 a0_3 t237 t238 t239 t240 t241 bt253.1 bt253.2.1 bt253.2.2.1 bt253.2.2.2.1 bt253.2.2.2.2.1)))) = some r := H
  have A10 := Aside0.mk A100
  clear A100
  replace H := Option.bind_eq_some_iff.mp H
  obtain ⟨⟨t253, t254, t255, t256, t257, t260⟩, A110, H⟩ := H
  replace H : ((laws_eqMask.f k t253 t254 t255 t256 t257 t237 t238 t239 t240 t241).bind fun t262 => (if t262 = true then (laws_FnExactMaskBy.j0 k l1 t244 t246 t260 (t260 != t244) a0_0 a0_1 a0_2 a0_3 t237 t238 t239 t240 t241 t253 t254 t255 t256 t257) else (laws_FnExactMaskBy.j0 k l1 t244 t246 t260 true a0_0 a0_1 a0_2 a0_3 t237 t238 t239 t240 t241 t253 t254 t255 t256 t257))) = some r := H
  have A11 := Aside0.mk A110
  clear A110
  have HC12 := Aside0.mk H
  clear H
  go_enter Try.func5, Try.ntmps5
  go_upto_region 8 with (first | ((with_reducible refine gate_dst (N := 2) rfl ?_); refine box_event ?hg (N := 2) ?hd (cs := #[.int .i64 a0_0, .int .i64 a0_1, .int .i64 a0_2, .int .i64 a0_3]) (t := 48) ?hr ?_; (case hd => rfl); (case hg => rfl); (case hr => first | (go_simp; done) | (go_simp; rfl)); intro gb228 hg w13 hbox hb; have n0_ := Aside0.mk (below_step z12_20 hb); have n1_ := Aside0.mk (hbox); have n2_ := Aside0.mk ((by rw [hg]; exact (below_size z12_20) : w.heap.size ≤ gb228)); have n3_ := Aside0.mk ((by rw [hg]; exact (below_size z12_20) : w.heap.size ≤ gb228)); clear HB; have HB := n0_; have BK228 := n1_; have GW228 := n2_; have GE228 := n3_; clear n0_ n1_ n2_ n3_; clear hb hbox hg) | ((with_reducible refine gate_callee (f := 31) rfl ?_); refine goesL_ (some 18) rfl rfl Try.func31 (by kernel_rfl) rfl #[.slice A1 l1.length c1, .int .i64 1048576] rfl z12_2 ?_; (with_reducible refine (laws_szRunS.calls _ _ l1 1048576 t229 _ ?side1 ?side2 A3.out).mono ?_); (case side1 => repeat (first | exact (Kd.C_below HR1.out HB.out) | (with_reducible refine Kd.C_alloc ?_ _) | (with_reducible refine Kd.C_drewN ?_ _) | (with_reducible refine Kd.C_drew ?_))); (case side2 => exact HC1.out); rintro e w' ⟨rfl, ⟨nd, rfl⟩⟩; refine ⟨_, rfl, ?_⟩; (try (rw [drewN_self w13]; generalize hq_ : World.drewN w13 _ = w13; have n0_ : Aside0 (w13.heap[gb228]? = some (.cells #[.int .i64 a0_0, .int .i64 a0_1, .int .i64 a0_2, .int .i64 a0_3] 48 (0, 0))) := ⟨by rw [← hq_]; exact z12_1⟩; have n1_ : Aside0 (Below w.heap.size w w13) := ⟨by rw [← hq_]; exact z12_10⟩; clear BK228 HB hq_; have BK228 := n0_; have HB := n1_; clear n0_ n1_)); have hcz14_0 : w13.cell? ⟨gb228, 0, none⟩ = some (.int .i64 a0_0) := (blk_cell BK228.out 0).trans rfl; have hcz14_1 : w13.cell? ⟨gb228, 1, none⟩ = some (.int .i64 a0_1) := (blk_cell BK228.out 1).trans rfl; have hcz14_2 : w13.cell? ⟨gb228, 2, none⟩ = some (.int .i64 a0_2) := (blk_cell BK228.out 2).trans rfl; have hcz14_3 : w13.cell? ⟨gb228, 3, none⟩ = some (.int .i64 a0_3) := (blk_cell BK228.out 3).trans rfl; have hfz14_0 := blk_frozen BK228.out 0; have hfz14_1 := blk_frozen BK228.out 1; have hfz14_2 := blk_frozen BK228.out 2; have hfz14_3 := blk_frozen BK228.out 3) | ((with_reducible refine gate_callee (f := 33) rfl ?_); refine goesL_ (some 23) rfl rfl Try.func33 (by kernel_rfl) rfl #[.agg #[.int .i64 a0_0, .int .i64 a0_1, .int .i64 a0_2, .int .i64 a0_3]] rfl z12_2 ?_; (with_reducible refine (laws_toBox.calls a0_0 a0_1 a0_2 a0_3 t230 t231 t232 t233 _ A6.out).mono ?_); rintro e w15 ⟨rfl, hb⟩; refine ⟨_, rfl, ?_⟩; have n0_ := Aside0.mk (blk_below (g := gb228) (o := .cells #[.int .i64 a0_0, .int .i64 a0_1, .int .i64 a0_2, .int .i64 a0_3] 48 (0, 0)) z12_1 hb); have n1_ := Aside0.mk (below_step z12_10 hb); clear BK228; clear HB; have BK228 := n0_; have HB := n1_; clear n0_ n1_; (try clear hb); (try clear hb2); (try clear hk); (try clear hi)) | ((with_reducible refine gate_callee (f := 34) rfl ?_); refine goesL_ (some 25) rfl rfl Try.func34 (by kernel_rfl) rfl #[.slice A1 l1.length c1] rfl z12_2 ?_; (with_reducible refine (laws_toRunS.calls k _ _ l1 t234 _ ?side1 ?side2 A7.out).mono ?_); (case side1 => repeat (first | exact (Kd.C_below HR1.out HB.out) | (with_reducible refine Kd.C_alloc ?_ _) | (with_reducible refine Kd.C_drewN ?_ _) | (with_reducible refine Kd.C_drew ?_))); (case side2 => exact HC1.out); rintro e w16 ⟨v235, rfl, ho0, hb⟩; refine ⟨_, rfl, ?_⟩; have n0_ := Aside0.mk (Kd.R_lower ho0 (below_size z12_10)); have n1_ := Aside0.mk (blk_below (g := gb228) (o := .cells #[.int .i64 a0_0, .int .i64 a0_1, .int .i64 a0_2, .int .i64 a0_3] 48 (0, 0)) z12_1 hb); have n2_ := Aside0.mk (below_step z12_10 hb); clear BK228; clear HB; have HO236 := n0_; have BK228 := n1_; have HB := n2_; clear n0_ n1_ n2_; (try clear hb); (try clear hb2); (try clear hk); (try clear hi); (try clear ho0); obtain ⟨Ao17, co17, eo17⟩ := Kd.R_slice HO236.out; subst eo17) | ((with_reducible refine gate_callee (f := 32) rfl ?_); refine goesL_ (some 26) rfl rfl Try.func32 (by kernel_rfl) rfl #[.agg #[.int .i64 t230, .int .i64 t231, .int .i64 t232, .int .i64 t233], .slice Ao17 t234.length co17] rfl z12_2 ?_; (with_reducible refine (spec_MaskBy.calls k t230 t231 t232 t233 _ _ t234 t237 t238 t239 t240 t241 t244 _ ?side1 ?side2 A8.out).mono ?_); (case side1 => repeat (first | exact (Kd.R_reads' HO236.out).2.2 | (with_reducible refine Kd.C_alloc ?_ _) | (with_reducible refine Kd.C_drewN ?_ _) | (with_reducible refine Kd.C_drew ?_))); (case side2 => exact (Kd.R_reads' HO236.out).2.1); rintro e w18 ⟨v242, rfl, ho0, hb⟩; refine ⟨_, rfl, ?_⟩; have n0_ := Aside0.mk (Kd.R_below z12_27 hb); have n1_ := Aside0.mk (Kd.R_lower ho0 (below_size z12_10)); have n2_ := Aside0.mk (blk_below (g := gb228) (o := .cells #[.int .i64 a0_0, .int .i64 a0_1, .int .i64 a0_2, .int .i64 a0_3] 48 (0, 0)) z12_1 hb); have n3_ := Aside0.mk (below_step z12_10 hb); clear HO236; clear BK228; clear HB; have HO236 := n0_; have HO243 := n1_; have BK228 := n2_; have HB := n3_; clear n0_ n1_ n2_ n3_; (try clear hb); (try clear hb2); (try clear hk); (try clear hi); (try clear ho0)) | ((with_reducible refine gate_dst (N := 6) rfl ?_); refine box_event ?hg (N := 6) ?hd (cs := #[.int .i64 0, .int .i64 0, .int .i64 0, .int .i64 0, .slice none 0 0]) (t := 52) ?hr ?_; (case hd => rfl); (case hg => rfl); (case hr => first | (go_simp; done) | (go_simp; rfl)); intro gb245 hg w19 hbox hb; have n0_ := Aside0.mk (Kd.R_below z12_27 hb); have n1_ := Aside0.mk (Kd.R_below z12_28 hb); have n2_ := Aside0.mk (blk_below (g := gb228) (o := .cells #[.int .i64 a0_0, .int .i64 a0_1, .int .i64 a0_2, .int .i64 a0_3] 48 (0, 0)) z12_1 hb); have n3_ := Aside0.mk (below_step z12_10 hb); have n4_ := Aside0.mk (hbox); have n5_ := Aside0.mk ((by rw [hg]; exact (below_size z12_10) : w.heap.size ≤ gb245)); have n6_ := Aside0.mk ((by rw [hg]; exact (below_size z12_10) : w.heap.size ≤ gb245)); have n7_ := Aside0.mk ((by rw [hg]; exact Nat.ne_of_lt (blk_lt (g := gb228) (o := .cells #[.int .i64 a0_0, .int .i64 a0_1, .int .i64 a0_2, .int .i64 a0_3] 48 (0, 0)) z12_1) : gb228 ≠ gb245)); have n8_ := Aside0.mk ((by rw [hg]; exact Nat.ne_of_gt (blk_lt (g := gb228) (o := .cells #[.int .i64 a0_0, .int .i64 a0_1, .int .i64 a0_2, .int .i64 a0_3] 48 (0, 0)) z12_1) : gb245 ≠ gb228)); clear HO236; clear HO243; clear BK228; clear HB; have HO236 := n0_; have HO243 := n1_; have BK228 := n2_; have HB := n3_; have BK245 := n4_; have GW245 := n5_; have GE245 := n6_; have NB228_245 := n7_; have NB245_228 := n8_; clear n0_ n1_ n2_ n3_ n4_ n5_ n6_ n7_ n8_; clear hb hbox hg; have hnb20 := NB245_228.out; have hnc20 := NB228_245.out; have hcz21_0 : w19.cell? ⟨gb245, 0, none⟩ = some (.int .i64 0) := (blk_cell BK245.out 0).trans rfl; have hcz21_1 : w19.cell? ⟨gb245, 1, none⟩ = some (.int .i64 0) := (blk_cell BK245.out 1).trans rfl; have hcz21_2 : w19.cell? ⟨gb245, 2, none⟩ = some (.int .i64 0) := (blk_cell BK245.out 2).trans rfl; have hcz21_3 : w19.cell? ⟨gb245, 3, none⟩ = some (.int .i64 0) := (blk_cell BK245.out 3).trans rfl; have hcz21_4 : w19.cell? ⟨gb245, 4, none⟩ = some (.slice none 0 0) := (blk_cell BK245.out 4).trans rfl; have hfz21_0 := blk_frozen BK245.out 0; have hfz21_1 := blk_frozen BK245.out 1; have hfz21_2 := blk_frozen BK245.out 2; have hfz21_3 := blk_frozen BK245.out 3; have hfz21_4 := blk_frozen BK245.out 4; obtain ⟨Ao22, co22, eo22⟩ := Kd.R_slice HO243.out; subst eo22) | ((with_reducible refine gate_callee (f := 34) rfl ?_); refine goesL_ (some 30) rfl rfl Try.func34 (by kernel_rfl) rfl #[.slice A1 l1.length c1] rfl z12_2 ?_; (with_reducible refine (laws_toRunS.calls k _ _ l1 t246 _ ?side1 ?side2 A9.out).mono ?_); (case side1 => exact Kd.C_below HR1.out z12_8); (case side2 => exact HC1.out); rintro e w23 ⟨v247, rfl, ho0, hb⟩; refine ⟨_, rfl, ?_⟩; have n0_ := Aside0.mk (Kd.R_elder' z12_22 (Kd.R_base ho0) hb); have n1_ := Aside0.mk (Kd.R_below (by (with_reducible repeat (first | apply Kd.R_alloc | apply Kd.R_drewN | apply Kd.R_drew)); exact (Kd.R_mono (Kd.R_far (p := ⟨gb245, 4, none⟩) (Kd.R_far (p := ⟨gb245, 3, none⟩) (Kd.R_far (p := ⟨gb245, 2, none⟩) (Kd.R_far (p := ⟨gb245, 1, none⟩) (Kd.R_far (p := ⟨gb245, 0, none⟩) (Kd.R_types HO243.out BK245.out (by decide)) (fun _ hk => hk.2) (.int .i64 t237)) (fun _ hk => hk.2) (.int .i64 t238)) (fun _ hk => hk.2) (.int .i64 t239)) (fun _ hk => hk.2) (.int .i64 t240)) (fun _ hk => hk.2) (.slice Ao22 t241.length co22)) (fun _ h_ => h_.1))) hb); have n2_ := Aside0.mk (Kd.R_lower (Kd.R_new' ho0 (Kd.R_lt z12_22)) (below_size z12_8)); have n3_ := Aside0.mk (blk_below (g := gb228) (o := .cells #[.int .i64 a0_0, .int .i64 a0_1, .int .i64 a0_2, .int .i64 a0_3] 48 (0, 0)) (by (with_reducible repeat (first | refine blk_drewN ?_ _ | refine blk_drew ?_ | refine blk_alloc ?_ _)); refine blk_far ?_ NB228_245.out _; (with_reducible repeat (first | refine blk_drewN ?_ _ | refine blk_drew ?_ | refine blk_alloc ?_ _)); refine blk_far ?_ NB228_245.out _; (with_reducible repeat (first | refine blk_drewN ?_ _ | refine blk_drew ?_ | refine blk_alloc ?_ _)); refine blk_far ?_ NB228_245.out _; (with_reducible repeat (first | refine blk_drewN ?_ _ | refine blk_drew ?_ | refine blk_alloc ?_ _)); refine blk_far ?_ NB228_245.out _; (with_reducible repeat (first | refine blk_drewN ?_ _ | refine blk_drew ?_ | refine blk_alloc ?_ _)); refine blk_far ?_ NB228_245.out _; (with_reducible repeat (first | refine blk_drewN ?_ _ | refine blk_drew ?_ | refine blk_alloc ?_ _)); exact BK228.out) hb); have n4_ := Aside0.mk (blk_below (g := gb245) (o := .cells #[.int .i64 t237, .int .i64 t238, .int .i64 t239, .int .i64 t240, .slice Ao22 t241.length co22] 52 (0, 0)) (by (with_reducible repeat (first | refine blk_drewN ?_ _ | refine blk_drew ?_ | refine blk_alloc ?_ _)); refine blk_put (cs := #[.int .i64 t237, .int .i64 t238, .int .i64 t239, .int .i64 t240, .slice none 0 0]) ?_ 4 _ rfl; (with_reducible repeat (first | refine blk_drewN ?_ _ | refine blk_drew ?_ | refine blk_alloc ?_ _)); refine blk_put (cs := #[.int .i64 t237, .int .i64 t238, .int .i64 t239, .int .i64 0, .slice none 0 0]) ?_ 3 _ rfl; (with_reducible repeat (first | refine blk_drewN ?_ _ | refine blk_drew ?_ | refine blk_alloc ?_ _)); refine blk_put (cs := #[.int .i64 t237, .int .i64 t238, .int .i64 0, .int .i64 0, .slice none 0 0]) ?_ 2 _ rfl; (with_reducible repeat (first | refine blk_drewN ?_ _ | refine blk_drew ?_ | refine blk_alloc ?_ _)); refine blk_put (cs := #[.int .i64 t237, .int .i64 0, .int .i64 0, .int .i64 0, .slice none 0 0]) ?_ 1 _ rfl; (with_reducible repeat (first | refine blk_drewN ?_ _ | refine blk_drew ?_ | refine blk_alloc ?_ _)); refine blk_put (cs := #[.int .i64 0, .int .i64 0, .int .i64 0, .int .i64 0, .slice none 0 0]) ?_ 0 _ rfl; (with_reducible repeat (first | refine blk_drewN ?_ _ | refine blk_drew ?_ | refine blk_alloc ?_ _)); exact BK245.out) hb); have n5_ := Aside0.mk (below_step z12_8 hb); clear HO236; clear HO243; clear BK228; clear BK245; clear HB; have HO236 := n0_; have HO243 := n1_; have HO248 := n2_; have BK228 := n3_; have BK245 := n4_; have HB := n5_; clear n0_ n1_ n2_ n3_ n4_ n5_; (try clear hb); (try clear hb2); (try clear hk); (try clear hi); (try clear ho0); have hcz24_0 : w23.cell? ⟨gb228, 0, none⟩ = some (.int .i64 a0_0) := (blk_cell BK228.out 0).trans rfl; have hcz24_1 : w23.cell? ⟨gb228, 1, none⟩ = some (.int .i64 a0_1) := (blk_cell BK228.out 1).trans rfl; have hcz24_2 : w23.cell? ⟨gb228, 2, none⟩ = some (.int .i64 a0_2) := (blk_cell BK228.out 2).trans rfl; have hcz24_3 : w23.cell? ⟨gb228, 3, none⟩ = some (.int .i64 a0_3) := (blk_cell BK228.out 3).trans rfl; have hfz24_0 := blk_frozen BK228.out 0; have hfz24_1 := blk_frozen BK228.out 1; have hfz24_2 := blk_frozen BK228.out 2; have hfz24_3 := blk_frozen BK228.out 3) | ((with_reducible refine gate_callee (f := 33) rfl ?_); refine goesL_ (some 33) rfl rfl Try.func33 (by kernel_rfl) rfl #[.agg #[.int .i64 a0_0, .int .i64 a0_1, .int .i64 a0_2, .int .i64 a0_3]] rfl z12_2 ?_; (with_reducible refine (laws_toBox.calls a0_0 a0_1 a0_2 a0_3 t249 t250 t251 t252 _ A10.out).mono ?_); rintro e w25 ⟨rfl, hb⟩; refine ⟨_, rfl, ?_⟩; have n0_ := Aside0.mk (Kd.R_below z12_27 hb); have n1_ := Aside0.mk (Kd.R_below z12_28 hb); have n2_ := Aside0.mk (Kd.R_below z12_30 hb); have n3_ := Aside0.mk (blk_below (g := gb228) (o := .cells #[.int .i64 a0_0, .int .i64 a0_1, .int .i64 a0_2, .int .i64 a0_3] 48 (0, 0)) z12_1 hb); have n4_ := Aside0.mk (blk_below (g := gb245) (o := .cells #[.int .i64 t237, .int .i64 t238, .int .i64 t239, .int .i64 t240, .slice Ao22 t241.length co22] 52 (0, 0)) z12_3 hb); have n5_ := Aside0.mk (below_step z12_8 hb); clear HO236; clear HO243; clear HO248; clear BK228; clear BK245; clear HB; have HO236 := n0_; have HO243 := n1_; have HO248 := n2_; have BK228 := n3_; have BK245 := n4_; have HB := n5_; clear n0_ n1_ n2_ n3_ n4_ n5_; (try clear hb); (try clear hb2); (try clear hk); (try clear hi); obtain ⟨Ao26, co26, eo26⟩ := Kd.R_slice HO248.out; subst eo26) | ((with_reducible refine gate_callee (f := 35) rfl ?_); refine goesL_ (some 35) rfl rfl Try.func35 (by kernel_rfl) rfl #[.agg #[.int .i64 t249, .int .i64 t250, .int .i64 t251, .int .i64 t252], .slice Ao26 t246.length co26] rfl z12_2 ?_; (with_reducible refine (impl_MaskBy.calls k t249 t250 t251 t252 _ _ t246 t253 t254 t255 t256 t257 t260 _ ?side1 ?side2 A11.out).mono ?_); (case side1 => repeat (first | exact (Kd.R_reads' HO248.out).2.2 | (with_reducible refine Kd.C_alloc ?_ _) | (with_reducible refine Kd.C_drewN ?_ _) | (with_reducible refine Kd.C_drew ?_))); (case side2 => exact (Kd.R_reads' HO248.out).2.1); rintro e w27 ⟨v258, rfl, ho0, hb⟩; refine ⟨_, rfl, ?_⟩; have n0_ := Aside0.mk (Kd.R_below z12_27 hb); have n1_ := Aside0.mk (Kd.R_elder' z12_28 (Kd.R_base ho0) hb); have n2_ := Aside0.mk (Kd.R_below z12_30 hb); have n3_ := Aside0.mk (Kd.R_lower (Kd.R_new' ho0 (Kd.R_lt z12_28)) (below_size z12_8)); have n4_ := Aside0.mk (blk_below (g := gb228) (o := .cells #[.int .i64 a0_0, .int .i64 a0_1, .int .i64 a0_2, .int .i64 a0_3] 48 (0, 0)) z12_1 hb); have n5_ := Aside0.mk (blk_below (g := gb245) (o := .cells #[.int .i64 t237, .int .i64 t238, .int .i64 t239, .int .i64 t240, .slice Ao22 t241.length co22] 52 (0, 0)) z12_3 hb); have n6_ := Aside0.mk (below_step z12_8 hb); clear HO236; clear HO243; clear HO248; clear BK228; clear BK245; clear HB; have HO236 := n0_; have HO243 := n1_; have HO248 := n2_; have HO259 := n3_; have BK228 := n4_; have BK245 := n5_; have HB := n6_; clear n0_ n1_ n2_ n3_ n4_ n5_ n6_; (try clear hb); (try clear hb2); (try clear hk); (try clear hi); (try clear ho0)) | ((with_reducible refine gate_dst (N := 9) rfl ?_); refine box_event ?hg (N := 9) ?hd (cs := #[.int .i64 0, .int .i64 0, .int .i64 0, .int .i64 0, .slice none 0 0]) (t := 52) ?hr ?_; (case hd => rfl); (case hg => rfl); (case hr => first | (go_simp; done) | (go_simp; rfl)); intro gb261 hg w28 hbox hb; have n0_ := Aside0.mk (Kd.R_below z12_27 hb); have n1_ := Aside0.mk (Kd.R_below z12_28 hb); have n2_ := Aside0.mk (Kd.R_below z12_30 hb); have n3_ := Aside0.mk (Kd.R_below (by (with_reducible repeat (first | apply Kd.R_alloc | apply Kd.R_drewN | apply Kd.R_drew)); exact HO259.out) hb); have n4_ := Aside0.mk (blk_below (g := gb228) (o := .cells #[.int .i64 a0_0, .int .i64 a0_1, .int .i64 a0_2, .int .i64 a0_3] 48 (0, 0)) z12_1 hb); have n5_ := Aside0.mk (blk_below (g := gb245) (o := .cells #[.int .i64 t237, .int .i64 t238, .int .i64 t239, .int .i64 t240, .slice Ao22 t241.length co22] 52 (0, 0)) z12_3 hb); have n6_ := Aside0.mk (below_step z12_8 hb); have n7_ := Aside0.mk (hbox); have n8_ := Aside0.mk ((by rw [hg]; exact (below_size z12_8) : w.heap.size ≤ gb261)); have n9_ := Aside0.mk ((by rw [hg]; exact (below_size z12_8) : w.heap.size ≤ gb261)); have n10_ := Aside0.mk ((by rw [hg]; exact Nat.ne_of_lt (blk_lt (g := gb228) (o := .cells #[.int .i64 a0_0, .int .i64 a0_1, .int .i64 a0_2, .int .i64 a0_3] 48 (0, 0)) z12_1) : gb228 ≠ gb261)); have n11_ := Aside0.mk ((by rw [hg]; exact Nat.ne_of_gt (blk_lt (g := gb228) (o := .cells #[.int .i64 a0_0, .int .i64 a0_1, .int .i64 a0_2, .int .i64 a0_3] 48 (0, 0)) z12_1) : gb261 ≠ gb228)); have n12_ := Aside0.mk ((by rw [hg]; exact Nat.ne_of_lt (blk_lt (g := gb245) (o := .cells #[.int .i64 t237, .int .i64 t238, .int .i64 t239, .int .i64 t240, .slice Ao22 t241.length co22] 52 (0, 0)) z12_3) : gb245 ≠ gb261)); have n13_ := Aside0.mk ((by rw [hg]; exact Nat.ne_of_gt (blk_lt (g := gb245) (o := .cells #[.int .i64 t237, .int .i64 t238, .int .i64 t239, .int .i64 t240, .slice Ao22 t241.length co22] 52 (0, 0)) z12_3) : gb261 ≠ gb245)); clear HO236; clear HO243; clear HO248; clear HO259; clear BK228; clear BK245; clear HB; have HO236 := n0_; have HO243 := n1_; have HO248 := n2_; have HO259 := n3_; have BK228 := n4_; have BK245 := n5_; have HB := n6_; have BK261 := n7_; have GW261 := n8_; have GE261 := n9_; have NB228_261 := n10_; have NB261_228 := n11_; have NB245_261 := n12_; have NB261_245 := n13_; clear n0_ n1_ n2_ n3_ n4_ n5_ n6_ n7_ n8_ n9_ n10_ n11_ n12_ n13_; clear hb hbox hg; have hnb29 := NB261_228.out; have hnc29 := NB228_261.out; have hnb30 := NB261_245.out; have hnc30 := NB245_261.out; have hcz31_0 : w28.cell? ⟨gb261, 0, none⟩ = some (.int .i64 0) := (blk_cell BK261.out 0).trans rfl; have hcz31_1 : w28.cell? ⟨gb261, 1, none⟩ = some (.int .i64 0) := (blk_cell BK261.out 1).trans rfl; have hcz31_2 : w28.cell? ⟨gb261, 2, none⟩ = some (.int .i64 0) := (blk_cell BK261.out 2).trans rfl; have hcz31_3 : w28.cell? ⟨gb261, 3, none⟩ = some (.int .i64 0) := (blk_cell BK261.out 3).trans rfl; have hcz31_4 : w28.cell? ⟨gb261, 4, none⟩ = some (.slice none 0 0) := (blk_cell BK261.out 4).trans rfl; have hfz31_0 := blk_frozen BK261.out 0; have hfz31_1 := blk_frozen BK261.out 1; have hfz31_2 := blk_frozen BK261.out 2; have hfz31_3 := blk_frozen BK261.out 3; have hfz31_4 := blk_frozen BK261.out 4; obtain ⟨Ao32, co32, eo32⟩ := Kd.R_slice HO259.out; subst eo32))
  (try simp only [Act.put, List.setIfInBounds_toArray, List.set_cons_zero, List.set_cons_succ])
  go_cut [46] (fun v46 wc => ∃ (kq : Nat) (x46_11 : Bool), v46 = .bool x46_11 ∧ Aside0 (laws_FnExactMaskBy.j0 kq l1 t244 t246 t260 x46_11 a0_0 a0_1 a0_2 a0_3 t237 t238 t239 t240 t241 t253 t254 t255 t256 t257 = some r) ∧ Aside0 (kq ≤ k) ∧ Aside0 (Kd.R k129 129 wc w.heap.size (fun _ => True) (.slice Ao26 t246.length co26) t246) ∧ Aside0 (Kd.R (Kd.int .i64) 3 wc w.heap.size (fun k_ => some k_ ≠ ((.slice Ao32 t257.length co32) : Value).ownBlock) (.slice Ao22 t241.length co22) t241) ∧ Aside0 (Kd.R (Kd.int .i64) 3 wc w.heap.size (fun k_ => some k_ ≠ ((.slice Ao22 t241.length co22) : Value).ownBlock) (.slice Ao32 t257.length co32) t257) ∧ Aside0 (wc.heap[gb228]? = some (.cells #[.int .i64 a0_0, .int .i64 a0_1, .int .i64 a0_2, .int .i64 a0_3] 48 (0, 0))) ∧ Aside0 (wc.heap[gb245]? = some (.cells #[.int .i64 t237, .int .i64 t238, .int .i64 t239, .int .i64 t240, (.slice Ao22 t241.length co22)] 52 (0, 0))) ∧ Aside0 (wc.heap[gb261]? = some (.cells #[.int .i64 t253, .int .i64 t254, .int .i64 t255, .int .i64 t256, (.slice Ao32 t257.length co32)] 52 (0, 0))) ∧ Aside0 (Below w.heap.size w wc))
  case first =>
   have H := HC12.out; clear HC12
   replace H := Option.bind_eq_some_iff.mp H
   obtain ⟨t262, A330, H⟩ := H
   replace H : (if t262 = true then (laws_FnExactMaskBy.j0 k l1 t244 t246 t260 (t260 != t244) a0_0 a0_1 a0_2 a0_3 t237 t238 t239 t240 t241 t253 t254 t255 t256 t257) else (laws_FnExactMaskBy.j0 k l1 t244 t246 t260 true a0_0 a0_1 a0_2 a0_3 t237 t238 t239 t240 t241 t253 t254 t255 t256 t257)) = some r := H
   have A33 := Aside0.mk A330
   clear A330
   by_cases c34 : t262 = true
   ·subst c34
    have H1 : (laws_FnExactMaskBy.j0 k l1 t244 t246 t260 (t260 != t244) a0_0 a0_1 a0_2 a0_3 t237 t238 t239 t240 t241 t253 t254 t255 t256 t257) = some r := by rw [if_pos rfl] at H; exact H
    clear H; have H := H1; clear H1
    have H' := Aside0.mk H
    clear H; have hnb35 := NB261_228.out; have hnc35 := NB228_261.out; have hnb36 := NB261_245.out; have hnc36 := NB245_261.out
    have hcz37_0 : w28.cell? ⟨gb261, 0, none⟩ = some (.int .i64 0) := (blk_cell BK261.out 0).trans rfl
    have hcz37_1 : w28.cell? ⟨gb261, 1, none⟩ = some (.int .i64 0) := (blk_cell BK261.out 1).trans rfl
    have hcz37_2 : w28.cell? ⟨gb261, 2, none⟩ = some (.int .i64 0) := (blk_cell BK261.out 2).trans rfl
    have hcz37_3 : w28.cell? ⟨gb261, 3, none⟩ = some (.int .i64 0) := (blk_cell BK261.out 3).trans rfl
    have hcz37_4 : w28.cell? ⟨gb261, 4, none⟩ = some (.slice none 0 0) := (blk_cell BK261.out 4).trans rfl
    have hfz37_0 := blk_frozen BK261.out 0
    have hfz37_1 := blk_frozen BK261.out 1
    have hfz37_2 := blk_frozen BK261.out 2
    have hfz37_3 := blk_frozen BK261.out 3
    have hfz37_4 := blk_frozen BK261.out 4
    have hnb38 := NB245_228.out; have hnc38 := NB228_245.out
    have hcz39_0 : w28.cell? ⟨gb245, 0, none⟩ = some (.int .i64 t237) := (blk_cell BK245.out 0).trans rfl
    have hcz39_1 : w28.cell? ⟨gb245, 1, none⟩ = some (.int .i64 t238) := (blk_cell BK245.out 1).trans rfl
    have hcz39_2 : w28.cell? ⟨gb245, 2, none⟩ = some (.int .i64 t239) := (blk_cell BK245.out 2).trans rfl
    have hcz39_3 : w28.cell? ⟨gb245, 3, none⟩ = some (.int .i64 t240) := (blk_cell BK245.out 3).trans rfl
    have hcz39_4 : w28.cell? ⟨gb245, 4, none⟩ = some (.slice Ao22 t241.length co22) := (blk_cell BK245.out 4).trans rfl
    have hfz39_0 := blk_frozen BK245.out 0
    have hfz39_1 := blk_frozen BK245.out 1
    have hfz39_2 := blk_frozen BK245.out 2
    have hfz39_3 := blk_frozen BK245.out 3
    have hfz39_4 := blk_frozen BK245.out 4
    go_wp2_with (first | ((with_reducible refine gate_callee (f := 36) rfl ?_); refine goesL_ (some 40) rfl rfl Try.func36 (by kernel_rfl) rfl #[.agg #[.int .i64 t253, .int .i64 t254, .int .i64 t255, .int .i64 t256, .slice Ao32 t257.length co32], .agg #[.int .i64 t237, .int .i64 t238, .int .i64 t239, .int .i64 t240, .slice Ao22 t241.length co22]] rfl z12_2 ?_; (with_reducible refine (laws_eqMask.calls k t253 t254 t255 t256 _ _ t257 t237 t238 t239 t240 _ _ t241 true _ ?side1 ?side2 ?side3 ?side4 A33.out).mono ?_); (case side1 => refine (Kd.R_reads' (e := 3) (base := w.heap.size) (ok := fun k_ => (True ∧ some k_ ≠ (.slice Ao22 t241.length co22 : Value).ownBlock)) (n := t257.length) (c := co32) ?_).2.2; exact z12_5); (case side2 => exact (Kd.R_reads' HO259.out).2.1); (case side3 => refine (Kd.R_reads' (e := 3) (base := w.heap.size) (ok := fun k_ => (True ∧ some k_ ≠ (.slice Ao32 t257.length co32 : Value).ownBlock)) (n := t241.length) (c := co22) ?_).2.2; exact z12_6); (case side4 => exact (Kd.R_reads' HO243.out).2.1); rintro e w40 ⟨rfl, hb⟩; refine ⟨_, rfl, ?_⟩; have n0_ := Aside0.mk (Kd.R_below z12_23 hb); have n1_ := Aside0.mk (Kd.R_below z12_6 hb); have n2_ := Aside0.mk (Kd.R_below z12_24 hb); have n3_ := Aside0.mk (Kd.R_below z12_5 hb); have n4_ := Aside0.mk (blk_below (g := gb228) (o := .cells #[.int .i64 a0_0, .int .i64 a0_1, .int .i64 a0_2, .int .i64 a0_3] 48 (0, 0)) z12_15 hb); have n5_ := Aside0.mk (blk_below (g := gb245) (o := .cells #[.int .i64 t237, .int .i64 t238, .int .i64 t239, .int .i64 t240, .slice Ao22 t241.length co22] 52 (0, 0)) z12_16 hb); have n6_ := Aside0.mk (blk_below (g := gb261) (o := .cells #[.int .i64 t253, .int .i64 t254, .int .i64 t255, .int .i64 t256, .slice Ao32 t257.length co32] 52 (0, 0)) z12_11 hb); have n7_ := Aside0.mk (below_step z12_0 hb); clear HO236; clear HO243; clear HO248; clear HO259; clear BK228; clear BK245; clear BK261; clear HB; have HO236 := n0_; have HO243 := n1_; have HO248 := n2_; have HO259 := n3_; have BK228 := n4_; have BK245 := n5_; have BK261 := n6_; have HB := n7_; clear n0_ n1_ n2_ n3_ n4_ n5_ n6_ n7_; (try clear hb); (try clear hb2); (try clear hk); (try clear hi)))
    go_meet
    case rel => exact ⟨_, ((t260 != t244)), (by first | rfl | (simp; done) | (simp [*]; done)), H', ⟨by first | omega | exact Nat.le_refl _⟩, ⟨by (with_reducible repeat (first | apply Kd.R_alloc | apply Kd.R_drewN | apply Kd.R_drew)); exact Kd.R_mono HO248.out (fun _ hk => trivial)⟩, ⟨by (with_reducible repeat (first | apply Kd.R_alloc | apply Kd.R_drewN | apply Kd.R_drew)); exact Kd.R_mono HO243.out (fun _ hk => hk.2)⟩, ⟨by (with_reducible repeat (first | apply Kd.R_alloc | apply Kd.R_drewN | apply Kd.R_drew)); exact Kd.R_mono HO259.out (fun _ hk => hk.2)⟩, ⟨by (with_reducible repeat (first | refine blk_drewN ?_ _ | refine blk_drew ?_ | refine blk_alloc ?_ _)); exact BK228.out⟩, ⟨by (with_reducible repeat (first | refine blk_drewN ?_ _ | refine blk_drew ?_ | refine blk_alloc ?_ _)); exact BK245.out⟩, ⟨by (with_reducible repeat (first | refine blk_drewN ?_ _ | refine blk_drew ?_ | refine blk_alloc ?_ _)); exact BK261.out⟩, ⟨by repeat (first | (with_reducible first | exact HB.out | apply below_alloc | apply pw_below_drewN | apply below_drew1 | refine below_set ?_ GE228.out | refine below_set ?_ GE245.out | refine below_set ?_ GE261.out) | exact HB.out)⟩⟩
   ·replace c34 := Bool.eq_false_iff.mpr c34
    subst c34
    have H1 : (laws_FnExactMaskBy.j0 k l1 t244 t246 t260 true a0_0 a0_1 a0_2 a0_3 t237 t238 t239 t240 t241 t253 t254 t255 t256 t257) = some r := by rw [if_neg (show ¬ (false = true) by decide)] at H; exact H
    clear H; have H := H1; clear H1
    have H' := Aside0.mk H
    clear H; have hnb41 := NB261_228.out; have hnc41 := NB228_261.out; have hnb42 := NB261_245.out; have hnc42 := NB245_261.out
    have hcz43_0 : w28.cell? ⟨gb261, 0, none⟩ = some (.int .i64 0) := (blk_cell BK261.out 0).trans rfl
    have hcz43_1 : w28.cell? ⟨gb261, 1, none⟩ = some (.int .i64 0) := (blk_cell BK261.out 1).trans rfl
    have hcz43_2 : w28.cell? ⟨gb261, 2, none⟩ = some (.int .i64 0) := (blk_cell BK261.out 2).trans rfl
    have hcz43_3 : w28.cell? ⟨gb261, 3, none⟩ = some (.int .i64 0) := (blk_cell BK261.out 3).trans rfl
    have hcz43_4 : w28.cell? ⟨gb261, 4, none⟩ = some (.slice none 0 0) := (blk_cell BK261.out 4).trans rfl
    have hfz43_0 := blk_frozen BK261.out 0
    have hfz43_1 := blk_frozen BK261.out 1
    have hfz43_2 := blk_frozen BK261.out 2
    have hfz43_3 := blk_frozen BK261.out 3
    have hfz43_4 := blk_frozen BK261.out 4
    have hnb44 := NB245_228.out; have hnc44 := NB228_245.out
    have hcz45_0 : w28.cell? ⟨gb245, 0, none⟩ = some (.int .i64 t237) := (blk_cell BK245.out 0).trans rfl
    have hcz45_1 : w28.cell? ⟨gb245, 1, none⟩ = some (.int .i64 t238) := (blk_cell BK245.out 1).trans rfl
    have hcz45_2 : w28.cell? ⟨gb245, 2, none⟩ = some (.int .i64 t239) := (blk_cell BK245.out 2).trans rfl
    have hcz45_3 : w28.cell? ⟨gb245, 3, none⟩ = some (.int .i64 t240) := (blk_cell BK245.out 3).trans rfl
    have hcz45_4 : w28.cell? ⟨gb245, 4, none⟩ = some (.slice Ao22 t241.length co22) := (blk_cell BK245.out 4).trans rfl
    have hfz45_0 := blk_frozen BK245.out 0
    have hfz45_1 := blk_frozen BK245.out 1
    have hfz45_2 := blk_frozen BK245.out 2
    have hfz45_3 := blk_frozen BK245.out 3
    have hfz45_4 := blk_frozen BK245.out 4
    go_wp2_with (first | ((with_reducible refine gate_callee (f := 36) rfl ?_); refine goesL_ (some 40) rfl rfl Try.func36 (by kernel_rfl) rfl #[.agg #[.int .i64 t253, .int .i64 t254, .int .i64 t255, .int .i64 t256, .slice Ao32 t257.length co32], .agg #[.int .i64 t237, .int .i64 t238, .int .i64 t239, .int .i64 t240, .slice Ao22 t241.length co22]] rfl z12_2 ?_; (with_reducible refine (laws_eqMask.calls k t253 t254 t255 t256 _ _ t257 t237 t238 t239 t240 _ _ t241 false _ ?side1 ?side2 ?side3 ?side4 A33.out).mono ?_); (case side1 => refine (Kd.R_reads' (e := 3) (base := w.heap.size) (ok := fun k_ => (True ∧ some k_ ≠ (.slice Ao22 t241.length co22 : Value).ownBlock)) (n := t257.length) (c := co32) ?_).2.2; exact z12_5); (case side2 => exact (Kd.R_reads' HO259.out).2.1); (case side3 => refine (Kd.R_reads' (e := 3) (base := w.heap.size) (ok := fun k_ => (True ∧ some k_ ≠ (.slice Ao32 t257.length co32 : Value).ownBlock)) (n := t241.length) (c := co22) ?_).2.2; exact z12_6); (case side4 => exact (Kd.R_reads' HO243.out).2.1); rintro e w46 ⟨rfl, hb⟩; refine ⟨_, rfl, ?_⟩; have n0_ := Aside0.mk (Kd.R_below z12_23 hb); have n1_ := Aside0.mk (Kd.R_below z12_6 hb); have n2_ := Aside0.mk (Kd.R_below z12_24 hb); have n3_ := Aside0.mk (Kd.R_below z12_5 hb); have n4_ := Aside0.mk (blk_below (g := gb228) (o := .cells #[.int .i64 a0_0, .int .i64 a0_1, .int .i64 a0_2, .int .i64 a0_3] 48 (0, 0)) z12_15 hb); have n5_ := Aside0.mk (blk_below (g := gb245) (o := .cells #[.int .i64 t237, .int .i64 t238, .int .i64 t239, .int .i64 t240, .slice Ao22 t241.length co22] 52 (0, 0)) z12_16 hb); have n6_ := Aside0.mk (blk_below (g := gb261) (o := .cells #[.int .i64 t253, .int .i64 t254, .int .i64 t255, .int .i64 t256, .slice Ao32 t257.length co32] 52 (0, 0)) z12_11 hb); have n7_ := Aside0.mk (below_step z12_0 hb); clear HO236; clear HO243; clear HO248; clear HO259; clear BK228; clear BK245; clear BK261; clear HB; have HO236 := n0_; have HO243 := n1_; have HO248 := n2_; have HO259 := n3_; have BK228 := n4_; have BK245 := n5_; have BK261 := n6_; have HB := n7_; clear n0_ n1_ n2_ n3_ n4_ n5_ n6_ n7_; (try clear hb); (try clear hb2); (try clear hk); (try clear hi)))
    go_meet
    case rel => exact ⟨_, (true), (by first | rfl | (simp; done) | (simp [*]; done)), H', ⟨by first | omega | exact Nat.le_refl _⟩, ⟨by (with_reducible repeat (first | apply Kd.R_alloc | apply Kd.R_drewN | apply Kd.R_drew)); exact Kd.R_mono HO248.out (fun _ hk => trivial)⟩, ⟨by (with_reducible repeat (first | apply Kd.R_alloc | apply Kd.R_drewN | apply Kd.R_drew)); exact Kd.R_mono HO243.out (fun _ hk => hk.2)⟩, ⟨by (with_reducible repeat (first | apply Kd.R_alloc | apply Kd.R_drewN | apply Kd.R_drew)); exact Kd.R_mono HO259.out (fun _ hk => hk.2)⟩, ⟨by (with_reducible repeat (first | refine blk_drewN ?_ _ | refine blk_drew ?_ | refine blk_alloc ?_ _)); exact BK228.out⟩, ⟨by (with_reducible repeat (first | refine blk_drewN ?_ _ | refine blk_drew ?_ | refine blk_alloc ?_ _)); exact BK245.out⟩, ⟨by (with_reducible repeat (first | refine blk_drewN ?_ _ | refine blk_drew ?_ | refine blk_alloc ?_ _)); exact BK261.out⟩, ⟨by repeat (first | (with_reducible first | exact HB.out | apply below_alloc | apply pw_below_drewN | apply below_drew1 | refine below_set ?_ GE228.out | refine below_set ?_ GE245.out | refine below_set ?_ GE261.out) | exact HB.out)⟩⟩
  case rest =>
   clear HC12; try clear c1
   try clear c2
   try clear p2
   try clear c3
   try clear c4
   try clear c4b0
   try clear c5
   try clear c20
   try clear c29
   try clear c30
   try clear c31
   try clear c32
   try clear c33
   try clear c34
   try clear c35
   try clear c36
   try clear c38
   try clear c41
   try clear c42
   try clear c44
   try clear hcz14_0
   try clear hcz14_1
   try clear hcz14_2
   try clear hcz14_3
   try clear hcz21_0
   try clear hcz21_1
   try clear hcz21_2
   try clear hcz21_3
   try clear hcz21_4
   try clear hcz24_0
   try clear hcz24_1
   try clear hcz24_2
   try clear hcz24_3
   try clear hcz31_0
   try clear hcz31_1
   try clear hcz31_2
   try clear hcz31_3
   try clear hcz31_4
   try clear hcz37_0
   try clear hcz37_1
   try clear hcz37_2
   try clear hcz37_3
   try clear hcz37_4
   try clear hcz39_0
   try clear hcz39_1
   try clear hcz39_2
   try clear hcz39_3
   try clear hcz39_4
   try clear hcz43_0
   try clear hcz43_1
   try clear hcz43_2
   try clear hcz43_3
   try clear hcz43_4
   try clear hcz45_0
   try clear hcz45_1
   try clear hcz45_2
   try clear hcz45_3
   try clear hcz45_4
   try clear hfz14_0
   try clear hfz14_1
   try clear hfz14_2
   try clear hfz14_3
   try clear hfz21_0
   try clear hfz21_1
   try clear hfz21_2
   try clear hfz21_3
   try clear hfz21_4
   try clear hfz24_0
   try clear hfz24_1
   try clear hfz24_2
   try clear hfz24_3
   try clear hfz31_0
   try clear hfz31_1
   try clear hfz31_2
   try clear hfz31_3
   try clear hfz31_4
   try clear hfz37_0
   try clear hfz37_1
   try clear hfz37_2
   try clear hfz37_3
   try clear hfz37_4
   try clear hfz39_0
   try clear hfz39_1
   try clear hfz39_2
   try clear hfz39_3
   try clear hfz39_4
   try clear hfz43_0
   try clear hfz43_1
   try clear hfz43_2
   try clear hfz43_3
   try clear hfz43_4
   try clear hfz45_0
   try clear hfz45_1
   try clear hfz45_2
   try clear hfz45_3
   try clear hfz45_4
   obtain ⟨kq, x46_11, rfl, HA, HJ11, HO_8, HO_246004, HO_262004, BK228, BK245, BK261, HB⟩ := hcut
   cases kq with
   | zero => exact absurd HA.out (by simp [laws_FnExactMaskBy.j0])
   | succ kj11 =>
    have H := HA.out; clear HA
    simp only [laws_FnExactMaskBy.j0] at H
    by_cases c47 : x46_11 = true
    ·subst c47
     have H1 : (some false) = some r := by rw [if_pos rfl] at H; exact H
     clear H; have H := H1; clear H1
     obtain rfl := Option.some.inj H
     exact absurd hT Bool.false_ne_true
    ·replace c47 := Bool.eq_false_iff.mpr c47
     subst c47
     have H1 : ((laws_toRunS.f kj11 l1).bind fun t263 => ((laws_eqRunS.f kj11 t246 t263).bind fun t266 => (if t266 = true then ((laws_markRunS.f kj11 t246 1).bind fun bt267 => (if bt267.1 < 0 then (laws_FnExactMaskBy.j1 kj11 l1 t244 true a0_0 a0_1 a0_2 a0_3 t237 t238 t239 t240 t241 t253 t254 t255 t256 t257) else ((laws_eqMask.f kj11 t253 t254 t255 t256 t257 t237 t238 t239 t240 t241).bind fun t269 => (if t269 = true then (laws_FnExactMaskBy.j1 kj11 l1 t244 (t260 != t244) a0_0 a0_1 a0_2 a0_3 t237 t238 t239 t240 t241 t253 t254 t255 t256 t257) else (laws_FnExactMaskBy.j1 kj11 l1 t244 true a0_0 a0_1 a0_2 a0_3 t237 t238 t239 t240 t241 t253 t254 t255 t256 t257))))) else (some false)))) = some r := by rw [if_neg (show ¬ (false = true) by decide)] at H; exact H
     clear H; have H := H1; clear H1
     replace H := Option.bind_eq_some_iff.mp H
     obtain ⟨t263, A480, H⟩ := H
     replace H : ((laws_eqRunS.f kj11 t246 t263).bind fun t266 => (if t266 = true then ((laws_markRunS.f kj11 t246 1).bind fun bt267 => (if bt267.1 < 0 then (laws_FnExactMaskBy.j1 kj11 l1 t244 true a0_0 a0_1 a0_2 a0_3 t237 t238 t239 t240 t241 t253 t254 t255 t256 t257) else ((laws_eqMask.f kj11 t253 t254 t255 t256 t257 t237 t238 t239 t240 t241).bind fun t269 => (if t269 = true then (laws_FnExactMaskBy.j1 kj11 l1 t244 (t260 != t244) a0_0 a0_1 a0_2 a0_3 t237 t238 t239 t240 t241 t253 t254 t255 t256 t257) else (laws_FnExactMaskBy.j1 kj11 l1 t244 true a0_0 a0_1 a0_2 a0_3 t237 t238 t239 t240 t241 t253 t254 t255 t256 t257))))) else (some false))) = some r := H
     have A48 := Aside0.mk A480
     clear A480
     replace H := Option.bind_eq_some_iff.mp H
     obtain ⟨t266, A490, H⟩ := H
     replace H : (if t266 = true then ((laws_markRunS.f kj11 t246 1).bind fun bt267 => (if bt267.1 < 0 then (laws_FnExactMaskBy.j1 kj11 l1 t244 true a0_0 a0_1 a0_2 a0_3 t237 t238 t239 t240 t241 t253 t254 t255 t256 t257) else ((laws_eqMask.f kj11 t253 t254 t255 t256 t257 t237 t238 t239 t240 t241).bind fun t269 => (if t269 = true then (laws_FnExactMaskBy.j1 kj11 l1 t244 (t260 != t244) a0_0 a0_1 a0_2 a0_3 t237 t238 t239 t240 t241 t253 t254 t255 t256 t257) else (laws_FnExactMaskBy.j1 kj11 l1 t244 true a0_0 a0_1 a0_2 a0_3 t237 t238 t239 t240 t241 t253 t254 t255 t256 t257))))) else (some false)) = some r := H
     have A49 := Aside0.mk A490
     clear A490
     by_cases c50 : t266 = true
     ·subst c50
      have H1 : ((laws_markRunS.f kj11 t246 1).bind fun bt267 => (if bt267.1 < 0 then (laws_FnExactMaskBy.j1 kj11 l1 t244 true a0_0 a0_1 a0_2 a0_3 t237 t238 t239 t240 t241 t253 t254 t255 t256 t257) else ((laws_eqMask.f kj11 t253 t254 t255 t256 t257 t237 t238 t239 t240 t241).bind fun t269 => (if t269 = true then (laws_FnExactMaskBy.j1 kj11 l1 t244 (t260 != t244) a0_0 a0_1 a0_2 a0_3 t237 t238 t239 t240 t241 t253 t254 t255 t256 t257) else (laws_FnExactMaskBy.j1 kj11 l1 t244 true a0_0 a0_1 a0_2 a0_3 t237 t238 t239 t240 t241 t253 t254 t255 t256 t257))))) = some r := by rw [if_pos rfl] at H; exact H
      clear H; have H := H1; clear H1
      replace H := Option.bind_eq_some_iff.mp H
      obtain ⟨⟨t267, t268⟩, A510, H⟩ := H
      replace H : (if t267 < 0 then (laws_FnExactMaskBy.j1 kj11 l1 t244 true a0_0 a0_1 a0_2 a0_3 t237 t238 t239 t240 t241 t253 t254 t255 t256 t257) else ((laws_eqMask.f kj11 t253 t254 t255 t256 t257 t237 t238 t239 t240 t241).bind fun t269 => (if t269 = true then (laws_FnExactMaskBy.j1 kj11 l1 t244 (t260 != t244) a0_0 a0_1 a0_2 a0_3 t237 t238 t239 t240 t241 t253 t254 t255 t256 t257) else (laws_FnExactMaskBy.j1 kj11 l1 t244 true a0_0 a0_1 a0_2 a0_3 t237 t238 t239 t240 t241 t253 t254 t255 t256 t257)))) = some r := H
      have A51 := Aside0.mk A510
      clear A510
      have HC52 := Aside0.mk H
      clear H
      go_upto_region 14 with (first | ((with_reducible refine gate_callee (f := 34) rfl ?_); refine goesL_ (some 49) rfl rfl Try.func34 (by kernel_rfl) rfl #[.slice A1 l1.length c1] rfl z12_2 ?_; (with_reducible refine (laws_toRunS.calls kj11 _ _ l1 t263 _ ?side1 ?side2 A48.out).mono ?_); (case side1 => repeat (first | exact (Kd.C_below HR1.out HB.out) | (with_reducible refine Kd.C_alloc ?_ _) | (with_reducible refine Kd.C_drewN ?_ _) | (with_reducible refine Kd.C_drew ?_))); (case side2 => exact HC1.out); rintro e w53 ⟨v264, rfl, ho0, hb⟩; refine ⟨_, rfl, ?_⟩; have n0_ := Aside0.mk (Kd.R_elder' z12_29 (Kd.R_base ho0) hb); have n1_ := Aside0.mk (Kd.R_below z12_13 hb); have n2_ := Aside0.mk (Kd.R_below z12_14 hb); have n3_ := Aside0.mk (Kd.R_lower (Kd.R_new' ho0 (Kd.R_lt z12_29)) (below_size z12_0)); have n4_ := Aside0.mk (blk_below (g := gb228) (o := .cells #[.int .i64 a0_0, .int .i64 a0_1, .int .i64 a0_2, .int .i64 a0_3] 48 (0, 0)) z12_1 hb); have n5_ := Aside0.mk (blk_below (g := gb245) (o := .cells #[.int .i64 t237, .int .i64 t238, .int .i64 t239, .int .i64 t240, .slice Ao22 t241.length co22] 52 (0, 0)) z12_3 hb); have n6_ := Aside0.mk (blk_below (g := gb261) (o := .cells #[.int .i64 t253, .int .i64 t254, .int .i64 t255, .int .i64 t256, .slice Ao32 t257.length co32] 52 (0, 0)) z12_9 hb); have n7_ := Aside0.mk (below_step z12_0 hb); clear HO_8; clear HO_246004; clear HO_262004; clear BK228; clear BK245; clear BK261; clear HB; have HO_8 := n0_; have HO_246004 := n1_; have HO_262004 := n2_; have HO265 := n3_; have BK228 := n4_; have BK245 := n5_; have BK261 := n6_; have HB := n7_; clear n0_ n1_ n2_ n3_ n4_ n5_ n6_ n7_; (try clear hb); (try clear hb2); (try clear hk); (try clear hi); (try clear ho0); obtain ⟨Ao54, co54, eo54⟩ := Kd.R_slice HO265.out; subst eo54) | ((with_reducible refine gate_callee (f := 37) rfl ?_); refine goesL_ (some 50) rfl rfl Try.func37 (by kernel_rfl) rfl #[.slice Ao26 t246.length co26, .slice Ao54 t263.length co54] rfl z12_2 ?_; (with_reducible refine (laws_eqRunS.calls kj11 _ _ t246 _ _ t263 true _ ?side1 ?side2 ?side3 ?side4 A49.out).mono ?_); (case side1 => repeat (first | exact (Kd.R_reads' HO_8.out).2.2 | (with_reducible refine Kd.C_alloc ?_ _) | (with_reducible refine Kd.C_drewN ?_ _) | (with_reducible refine Kd.C_drew ?_))); (case side2 => exact (Kd.R_reads' HO_8.out).2.1); (case side3 => repeat (first | exact (Kd.R_reads' HO265.out).2.2 | (with_reducible refine Kd.C_alloc ?_ _) | (with_reducible refine Kd.C_drewN ?_ _) | (with_reducible refine Kd.C_drew ?_))); (case side4 => exact (Kd.R_reads' HO265.out).2.1); rintro e w55 ⟨rfl, hb⟩; refine ⟨_, rfl, ?_⟩; have n0_ := Aside0.mk (Kd.R_below z12_29 hb); have n1_ := Aside0.mk (Kd.R_below z12_13 hb); have n2_ := Aside0.mk (Kd.R_below z12_14 hb); have n3_ := Aside0.mk (Kd.R_below z12_31 hb); have n4_ := Aside0.mk (blk_below (g := gb228) (o := .cells #[.int .i64 a0_0, .int .i64 a0_1, .int .i64 a0_2, .int .i64 a0_3] 48 (0, 0)) z12_1 hb); have n5_ := Aside0.mk (blk_below (g := gb245) (o := .cells #[.int .i64 t237, .int .i64 t238, .int .i64 t239, .int .i64 t240, .slice Ao22 t241.length co22] 52 (0, 0)) z12_3 hb); have n6_ := Aside0.mk (blk_below (g := gb261) (o := .cells #[.int .i64 t253, .int .i64 t254, .int .i64 t255, .int .i64 t256, .slice Ao32 t257.length co32] 52 (0, 0)) z12_9 hb); have n7_ := Aside0.mk (below_step z12_0 hb); clear HO_8; clear HO_246004; clear HO_262004; clear HO265; clear BK228; clear BK245; clear BK261; clear HB; have HO_8 := n0_; have HO_246004 := n1_; have HO_262004 := n2_; have HO265 := n3_; have BK228 := n4_; have BK245 := n5_; have BK261 := n6_; have HB := n7_; clear n0_ n1_ n2_ n3_ n4_ n5_ n6_ n7_; (try clear hb); (try clear hb2); (try clear hk); (try clear hi)) | ((with_reducible refine gate_callee (f := 38) rfl ?_); refine goesL_ (some 54) rfl rfl Try.func38 (by kernel_rfl) rfl #[.slice Ao26 t246.length co26, .int .i64 1] rfl z12_2 ?_; (with_reducible refine (laws_markRunS.calls kj11 (fun k_ => some k_ = (.slice Ao26 t246.length co26 : Value).ownBlock) (.slice Ao26 t246.length co26) t246 1 t267 t268 w _ ?side1 ?side2 A51.out).mono ?_); (case side1 => repeat (first | (with_reducible first | exact HB.out | apply below_alloc | apply pw_below_drewN | apply below_drew1 | refine below_set ?_ GE228.out | refine below_set ?_ GE245.out | refine below_set ?_ GE261.out) | exact HB.out)); (case side2 => exact Kd.R_tight rfl HO_8.out); rintro e w56 ⟨rfl, hy0, hb, hkp⟩; refine ⟨_, rfl, ?_⟩; have n0_ := Aside0.mk (Kd.R_reok rfl hy0 (fun k_ e_ => HO_8.out.1 k_ e_)); have n1_ := Aside0.mk (Kd.R_mono (ok' := fun k_ => some k_ ≠ (.slice Ao32 t257.length co32 : Value).ownBlock) (Kd.R_keptB ((Kd.R_apart' HO_246004.out (Kd.R_typed HO_8.out) (by decide))) hkp (fun k_ hk_ hs_ => (hk_.2) hs_)) (fun k_ hk_ => hk_.1.1)); have n2_ := Aside0.mk (Kd.R_mono (ok' := fun k_ => some k_ ≠ (.slice Ao22 t241.length co22 : Value).ownBlock) (Kd.R_keptB ((Kd.R_apart' HO_262004.out (Kd.R_typed HO_8.out) (by decide))) hkp (fun k_ hk_ hs_ => (hk_.2) hs_)) (fun k_ hk_ => hk_.1.1)); have n3_ := Aside0.mk (blk_kept z12_1 hkp (fun hs_ => (fun e_ => (Kd.R_ne HO_8.out BK228.out (by decide)) e_) hs_)); have n4_ := Aside0.mk (blk_kept z12_3 hkp (fun hs_ => (fun e_ => (Kd.R_ne HO_8.out BK245.out (by decide)) e_) hs_)); have n5_ := Aside0.mk (blk_kept z12_9 hkp (fun hs_ => (fun e_ => (Kd.R_ne HO_8.out BK261.out (by decide)) e_) hs_)); have n6_ := Aside0.mk (Kd.R_mono (ok' := fun k_ => some k_ ≠ (.slice Ao26 t246.length co26 : Value).ownBlock) (Kd.R_keptB (HO265.out) hkp (fun k_ hk_ hs_ => (hk_.2) hs_)) (fun k_ hk_ => hk_.1.2)); have n7_ := Aside0.mk (hb); clear HO_8; clear HO_246004; clear HO_262004; clear BK228; clear BK245; clear BK261; clear HO265; clear HB; have HO_8 := n0_; have HO_246004 := n1_; have HO_262004 := n2_; have BK228 := n3_; have BK245 := n4_; have BK261 := n5_; have HO265 := n6_; have HB := n7_; clear n0_ n1_ n2_ n3_ n4_ n5_ n6_ n7_; (try clear hb); (try clear hkp); (try clear hy0)))
      (try simp only [Act.put, List.setIfInBounds_toArray, List.set_cons_zero, List.set_cons_succ])
      go_cut [67] (fun v67 wc => ∃ (kq : Nat) (x67_51 : Bool), v67 = .bool x67_51 ∧ Aside0 (laws_FnExactMaskBy.j1 kq l1 t244 x67_51 a0_0 a0_1 a0_2 a0_3 t237 t238 t239 t240 t241 t253 t254 t255 t256 t257 = some r) ∧ Aside0 (kq ≤ kj11) ∧ Aside0 (Kd.R (Kd.int .i64) 3 wc w.heap.size (fun k_ => some k_ ≠ ((.slice Ao32 t257.length co32) : Value).ownBlock) (.slice Ao22 t241.length co22) t241) ∧ Aside0 (Kd.R (Kd.int .i64) 3 wc w.heap.size (fun k_ => some k_ ≠ ((.slice Ao22 t241.length co22) : Value).ownBlock) (.slice Ao32 t257.length co32) t257) ∧ Aside0 (wc.heap[gb228]? = some (.cells #[.int .i64 a0_0, .int .i64 a0_1, .int .i64 a0_2, .int .i64 a0_3] 48 (0, 0))) ∧ Aside0 (wc.heap[gb245]? = some (.cells #[.int .i64 t237, .int .i64 t238, .int .i64 t239, .int .i64 t240, (.slice Ao22 t241.length co22)] 52 (0, 0))) ∧ Aside0 (wc.heap[gb261]? = some (.cells #[.int .i64 t253, .int .i64 t254, .int .i64 t255, .int .i64 t256, (.slice Ao32 t257.length co32)] 52 (0, 0))) ∧ Aside0 (Below w.heap.size w wc))
      case first =>
       have H := HC52.out; clear HC52
       by_cases c57 : t267 < 0
       ·rw [if_pos c57] at H
        have c57b0 : decide (t267 < 0) = true := decide_eq_true c57
        clear c57
        (first | rw [c57b0] | (simp only [i64_w, i32_w]; rw [c57b0]) | skip)
        have H' := Aside0.mk H
        clear H
        go_wp2
        go_meet
        case rel => exact ⟨_, (true), (by first | rfl | (simp; done) | (simp [*]; done)), H', ⟨by have := HJ11.out; first | omega | exact Nat.le_refl _⟩, ⟨by (with_reducible repeat (first | apply Kd.R_alloc | apply Kd.R_drewN | apply Kd.R_drew)); exact HO_246004.out⟩, ⟨by (with_reducible repeat (first | apply Kd.R_alloc | apply Kd.R_drewN | apply Kd.R_drew)); exact HO_262004.out⟩, ⟨by (with_reducible repeat (first | refine blk_drewN ?_ _ | refine blk_drew ?_ | refine blk_alloc ?_ _)); exact BK228.out⟩, ⟨by (with_reducible repeat (first | refine blk_drewN ?_ _ | refine blk_drew ?_ | refine blk_alloc ?_ _)); exact BK245.out⟩, ⟨by (with_reducible repeat (first | refine blk_drewN ?_ _ | refine blk_drew ?_ | refine blk_alloc ?_ _)); exact BK261.out⟩, ⟨by repeat (first | (with_reducible first | exact HB.out | apply below_alloc | apply pw_below_drewN | apply below_drew1 | refine below_set ?_ GE228.out | refine below_set ?_ GE245.out | refine below_set ?_ GE261.out) | exact HB.out)⟩⟩
       ·rw [if_neg c57] at H
        have c57b0 : decide (t267 < 0) = false := decide_eq_false c57
        clear c57
        (first | rw [c57b0] | (simp only [i64_w, i32_w]; rw [c57b0]) | skip)
        replace H := Option.bind_eq_some_iff.mp H
        obtain ⟨t269, A580, H⟩ := H
        replace H : (if t269 = true then (laws_FnExactMaskBy.j1 kj11 l1 t244 (t260 != t244) a0_0 a0_1 a0_2 a0_3 t237 t238 t239 t240 t241 t253 t254 t255 t256 t257) else (laws_FnExactMaskBy.j1 kj11 l1 t244 true a0_0 a0_1 a0_2 a0_3 t237 t238 t239 t240 t241 t253 t254 t255 t256 t257)) = some r := H
        have A58 := Aside0.mk A580
        clear A580
        by_cases c59 : t269 = true
        ·subst c59
         have H1 : (laws_FnExactMaskBy.j1 kj11 l1 t244 (t260 != t244) a0_0 a0_1 a0_2 a0_3 t237 t238 t239 t240 t241 t253 t254 t255 t256 t257) = some r := by rw [if_pos rfl] at H; exact H
         clear H; have H := H1; clear H1
         have H' := Aside0.mk H
         clear H; have hnb60 := NB261_228.out; have hnc60 := NB228_261.out; have hnb61 := NB261_245.out; have hnc61 := NB245_261.out
         have hcz62_0 : w56.cell? ⟨gb261, 0, none⟩ = some (.int .i64 t253) := (blk_cell BK261.out 0).trans rfl
         have hcz62_1 : w56.cell? ⟨gb261, 1, none⟩ = some (.int .i64 t254) := (blk_cell BK261.out 1).trans rfl
         have hcz62_2 : w56.cell? ⟨gb261, 2, none⟩ = some (.int .i64 t255) := (blk_cell BK261.out 2).trans rfl
         have hcz62_3 : w56.cell? ⟨gb261, 3, none⟩ = some (.int .i64 t256) := (blk_cell BK261.out 3).trans rfl
         have hcz62_4 : w56.cell? ⟨gb261, 4, none⟩ = some (.slice Ao32 t257.length co32) := (blk_cell BK261.out 4).trans rfl
         have hfz62_0 := blk_frozen BK261.out 0
         have hfz62_1 := blk_frozen BK261.out 1
         have hfz62_2 := blk_frozen BK261.out 2
         have hfz62_3 := blk_frozen BK261.out 3
         have hfz62_4 := blk_frozen BK261.out 4
         have hnb63 := NB245_228.out; have hnc63 := NB228_245.out
         have hcz64_0 : w56.cell? ⟨gb245, 0, none⟩ = some (.int .i64 t237) := (blk_cell BK245.out 0).trans rfl
         have hcz64_1 : w56.cell? ⟨gb245, 1, none⟩ = some (.int .i64 t238) := (blk_cell BK245.out 1).trans rfl
         have hcz64_2 : w56.cell? ⟨gb245, 2, none⟩ = some (.int .i64 t239) := (blk_cell BK245.out 2).trans rfl
         have hcz64_3 : w56.cell? ⟨gb245, 3, none⟩ = some (.int .i64 t240) := (blk_cell BK245.out 3).trans rfl
         have hcz64_4 : w56.cell? ⟨gb245, 4, none⟩ = some (.slice Ao22 t241.length co22) := (blk_cell BK245.out 4).trans rfl
         have hfz64_0 := blk_frozen BK245.out 0
         have hfz64_1 := blk_frozen BK245.out 1
         have hfz64_2 := blk_frozen BK245.out 2
         have hfz64_3 := blk_frozen BK245.out 3
         have hfz64_4 := blk_frozen BK245.out 4
         go_wp2_with (first | (go_at_call 36; (with_reducible refine (laws_eqMask.calls kj11 t253 t254 t255 t256 _ _ t257 t237 t238 t239 t240 _ _ t241 true _ ?side1 ?side2 ?side3 ?side4 A58.out).mono ?_); (case side1 => repeat (first | exact (Kd.R_reads' HO_262004.out).2.2 | (with_reducible refine Kd.C_alloc ?_ _) | (with_reducible refine Kd.C_drewN ?_ _) | (with_reducible refine Kd.C_drew ?_))); (case side2 => exact (Kd.R_reads' HO_262004.out).2.1); (case side3 => repeat (first | exact (Kd.R_reads' HO_246004.out).2.2 | (with_reducible refine Kd.C_alloc ?_ _) | (with_reducible refine Kd.C_drewN ?_ _) | (with_reducible refine Kd.C_drew ?_))); (case side4 => exact (Kd.R_reads' HO_246004.out).2.1); rintro e w65 ⟨rfl, hb⟩; have n0_ := Aside0.mk (Kd.R_below z12_29 hb); have n1_ := Aside0.mk (Kd.R_below z12_13 hb); have n2_ := Aside0.mk (Kd.R_below z12_14 hb); have n3_ := Aside0.mk (Kd.R_below z12_31 hb); have n4_ := Aside0.mk (blk_below (g := gb228) (o := .cells #[.int .i64 a0_0, .int .i64 a0_1, .int .i64 a0_2, .int .i64 a0_3] 48 (0, 0)) z12_1 hb); have n5_ := Aside0.mk (blk_below (g := gb245) (o := .cells #[.int .i64 t237, .int .i64 t238, .int .i64 t239, .int .i64 t240, .slice Ao22 t241.length co22] 52 (0, 0)) z12_3 hb); have n6_ := Aside0.mk (blk_below (g := gb261) (o := .cells #[.int .i64 t253, .int .i64 t254, .int .i64 t255, .int .i64 t256, .slice Ao32 t257.length co32] 52 (0, 0)) z12_9 hb); have n7_ := Aside0.mk (below_step z12_0 hb); clear HO_8; clear HO_246004; clear HO_262004; clear HO265; clear BK228; clear BK245; clear BK261; clear HB; have HO_8 := n0_; have HO_246004 := n1_; have HO_262004 := n2_; have HO265 := n3_; have BK228 := n4_; have BK245 := n5_; have BK261 := n6_; have HB := n7_; clear n0_ n1_ n2_ n3_ n4_ n5_ n6_ n7_; (try clear hb); (try clear hb2); (try clear hk); (try clear hi)))
         go_meet
         case rel => exact ⟨_, ((t260 != t244)), (by first | rfl | (simp; done) | (simp [*]; done)), H', ⟨by have := HJ11.out; first | omega | exact Nat.le_refl _⟩, ⟨by (with_reducible repeat (first | apply Kd.R_alloc | apply Kd.R_drewN | apply Kd.R_drew)); exact HO_246004.out⟩, ⟨by (with_reducible repeat (first | apply Kd.R_alloc | apply Kd.R_drewN | apply Kd.R_drew)); exact HO_262004.out⟩, ⟨by (with_reducible repeat (first | refine blk_drewN ?_ _ | refine blk_drew ?_ | refine blk_alloc ?_ _)); exact BK228.out⟩, ⟨by (with_reducible repeat (first | refine blk_drewN ?_ _ | refine blk_drew ?_ | refine blk_alloc ?_ _)); exact BK245.out⟩, ⟨by (with_reducible repeat (first | refine blk_drewN ?_ _ | refine blk_drew ?_ | refine blk_alloc ?_ _)); exact BK261.out⟩, ⟨by repeat (first | (with_reducible first | exact HB.out | apply below_alloc | apply pw_below_drewN | apply below_drew1 | refine below_set ?_ GE228.out | refine below_set ?_ GE245.out | refine below_set ?_ GE261.out) | exact HB.out)⟩⟩
        ·replace c59 := Bool.eq_false_iff.mpr c59
         subst c59
         have H1 : (laws_FnExactMaskBy.j1 kj11 l1 t244 true a0_0 a0_1 a0_2 a0_3 t237 t238 t239 t240 t241 t253 t254 t255 t256 t257) = some r := by rw [if_neg (show ¬ (false = true) by decide)] at H; exact H
         clear H; have H := H1; clear H1
         have H' := Aside0.mk H
         clear H; have hnb66 := NB261_228.out; have hnc66 := NB228_261.out; have hnb67 := NB261_245.out; have hnc67 := NB245_261.out
         have hcz68_0 : w56.cell? ⟨gb261, 0, none⟩ = some (.int .i64 t253) := (blk_cell BK261.out 0).trans rfl
         have hcz68_1 : w56.cell? ⟨gb261, 1, none⟩ = some (.int .i64 t254) := (blk_cell BK261.out 1).trans rfl
         have hcz68_2 : w56.cell? ⟨gb261, 2, none⟩ = some (.int .i64 t255) := (blk_cell BK261.out 2).trans rfl
         have hcz68_3 : w56.cell? ⟨gb261, 3, none⟩ = some (.int .i64 t256) := (blk_cell BK261.out 3).trans rfl
         have hcz68_4 : w56.cell? ⟨gb261, 4, none⟩ = some (.slice Ao32 t257.length co32) := (blk_cell BK261.out 4).trans rfl
         have hfz68_0 := blk_frozen BK261.out 0
         have hfz68_1 := blk_frozen BK261.out 1
         have hfz68_2 := blk_frozen BK261.out 2
         have hfz68_3 := blk_frozen BK261.out 3
         have hfz68_4 := blk_frozen BK261.out 4
         have hnb69 := NB245_228.out; have hnc69 := NB228_245.out
         have hcz70_0 : w56.cell? ⟨gb245, 0, none⟩ = some (.int .i64 t237) := (blk_cell BK245.out 0).trans rfl
         have hcz70_1 : w56.cell? ⟨gb245, 1, none⟩ = some (.int .i64 t238) := (blk_cell BK245.out 1).trans rfl
         have hcz70_2 : w56.cell? ⟨gb245, 2, none⟩ = some (.int .i64 t239) := (blk_cell BK245.out 2).trans rfl
         have hcz70_3 : w56.cell? ⟨gb245, 3, none⟩ = some (.int .i64 t240) := (blk_cell BK245.out 3).trans rfl
         have hcz70_4 : w56.cell? ⟨gb245, 4, none⟩ = some (.slice Ao22 t241.length co22) := (blk_cell BK245.out 4).trans rfl
         have hfz70_0 := blk_frozen BK245.out 0
         have hfz70_1 := blk_frozen BK245.out 1
         have hfz70_2 := blk_frozen BK245.out 2
         have hfz70_3 := blk_frozen BK245.out 3
         have hfz70_4 := blk_frozen BK245.out 4
         go_wp2_with (first | (go_at_call 36; (with_reducible refine (laws_eqMask.calls kj11 t253 t254 t255 t256 _ _ t257 t237 t238 t239 t240 _ _ t241 false _ ?side1 ?side2 ?side3 ?side4 A58.out).mono ?_); (case side1 => repeat (first | exact (Kd.R_reads' HO_262004.out).2.2 | (with_reducible refine Kd.C_alloc ?_ _) | (with_reducible refine Kd.C_drewN ?_ _) | (with_reducible refine Kd.C_drew ?_))); (case side2 => exact (Kd.R_reads' HO_262004.out).2.1); (case side3 => repeat (first | exact (Kd.R_reads' HO_246004.out).2.2 | (with_reducible refine Kd.C_alloc ?_ _) | (with_reducible refine Kd.C_drewN ?_ _) | (with_reducible refine Kd.C_drew ?_))); (case side4 => exact (Kd.R_reads' HO_246004.out).2.1); rintro e w71 ⟨rfl, hb⟩; have n0_ := Aside0.mk (Kd.R_below z12_29 hb); have n1_ := Aside0.mk (Kd.R_below z12_13 hb); have n2_ := Aside0.mk (Kd.R_below z12_14 hb); have n3_ := Aside0.mk (Kd.R_below z12_31 hb); have n4_ := Aside0.mk (blk_below (g := gb228) (o := .cells #[.int .i64 a0_0, .int .i64 a0_1, .int .i64 a0_2, .int .i64 a0_3] 48 (0, 0)) z12_1 hb); have n5_ := Aside0.mk (blk_below (g := gb245) (o := .cells #[.int .i64 t237, .int .i64 t238, .int .i64 t239, .int .i64 t240, .slice Ao22 t241.length co22] 52 (0, 0)) z12_3 hb); have n6_ := Aside0.mk (blk_below (g := gb261) (o := .cells #[.int .i64 t253, .int .i64 t254, .int .i64 t255, .int .i64 t256, .slice Ao32 t257.length co32] 52 (0, 0)) z12_9 hb); have n7_ := Aside0.mk (below_step z12_0 hb); clear HO_8; clear HO_246004; clear HO_262004; clear HO265; clear BK228; clear BK245; clear BK261; clear HB; have HO_8 := n0_; have HO_246004 := n1_; have HO_262004 := n2_; have HO265 := n3_; have BK228 := n4_; have BK245 := n5_; have BK261 := n6_; have HB := n7_; clear n0_ n1_ n2_ n3_ n4_ n5_ n6_ n7_; (try clear hb); (try clear hb2); (try clear hk); (try clear hi)))
         go_meet
         case rel => exact ⟨_, (true), (by first | rfl | (simp; done) | (simp [*]; done)), H', ⟨by have := HJ11.out; first | omega | exact Nat.le_refl _⟩, ⟨by (with_reducible repeat (first | apply Kd.R_alloc | apply Kd.R_drewN | apply Kd.R_drew)); exact HO_246004.out⟩, ⟨by (with_reducible repeat (first | apply Kd.R_alloc | apply Kd.R_drewN | apply Kd.R_drew)); exact HO_262004.out⟩, ⟨by (with_reducible repeat (first | refine blk_drewN ?_ _ | refine blk_drew ?_ | refine blk_alloc ?_ _)); exact BK228.out⟩, ⟨by (with_reducible repeat (first | refine blk_drewN ?_ _ | refine blk_drew ?_ | refine blk_alloc ?_ _)); exact BK245.out⟩, ⟨by (with_reducible repeat (first | refine blk_drewN ?_ _ | refine blk_drew ?_ | refine blk_alloc ?_ _)); exact BK261.out⟩, ⟨by repeat (first | (with_reducible first | exact HB.out | apply below_alloc | apply pw_below_drewN | apply below_drew1 | refine below_set ?_ GE228.out | refine below_set ?_ GE245.out | refine below_set ?_ GE261.out) | exact HB.out)⟩⟩
      case rest =>
       clear HC52; try clear c1
       try clear c2
       try clear p2
       try clear c3
       try clear c4
       try clear c4b0
       try clear c5
       try clear c6
       try clear c20
       try clear c29
       try clear c30
       try clear c31
       try clear c32
       try clear c33
       try clear c34
       try clear c35
       try clear c36
       try clear c37
       try clear c38
       try clear c41
       try clear c42
       try clear c44
       try clear c47
       try clear c50
       try clear c57
       try clear c57b0
       try clear c59
       try clear c60
       try clear c61
       try clear c63
       try clear c66
       try clear c67
       try clear c69
       try clear hcz14_0
       try clear hcz14_1
       try clear hcz14_2
       try clear hcz14_3
       try clear hcz21_0
       try clear hcz21_1
       try clear hcz21_2
       try clear hcz21_3
       try clear hcz21_4
       try clear hcz24_0
       try clear hcz24_1
       try clear hcz24_2
       try clear hcz24_3
       try clear hcz31_0
       try clear hcz31_1
       try clear hcz31_2
       try clear hcz31_3
       try clear hcz31_4
       try clear hcz37_0
       try clear hcz37_1
       try clear hcz37_2
       try clear hcz37_3
       try clear hcz37_4
       try clear hcz39_0
       try clear hcz39_1
       try clear hcz39_2
       try clear hcz39_3
       try clear hcz39_4
       try clear hcz43_0
       try clear hcz43_1
       try clear hcz43_2
       try clear hcz43_3
       try clear hcz43_4
       try clear hcz45_0
       try clear hcz45_1
       try clear hcz45_2
       try clear hcz45_3
       try clear hcz45_4
       try clear hcz62_0
       try clear hcz62_1
       try clear hcz62_2
       try clear hcz62_3
       try clear hcz62_4
       try clear hcz64_0
       try clear hcz64_1
       try clear hcz64_2
       try clear hcz64_3
       try clear hcz64_4
       try clear hcz68_0
       try clear hcz68_1
       try clear hcz68_2
       try clear hcz68_3
       try clear hcz68_4
       try clear hcz70_0
       try clear hcz70_1
       try clear hcz70_2
       try clear hcz70_3
       try clear hcz70_4
       try clear hfz14_0
       try clear hfz14_1
       try clear hfz14_2
       try clear hfz14_3
       try clear hfz21_0
       try clear hfz21_1
       try clear hfz21_2
       try clear hfz21_3
       try clear hfz21_4
       try clear hfz24_0
       try clear hfz24_1
       try clear hfz24_2
       try clear hfz24_3
       try clear hfz31_0
       try clear hfz31_1
       try clear hfz31_2
       try clear hfz31_3
       try clear hfz31_4
       try clear hfz37_0
       try clear hfz37_1
       try clear hfz37_2
       try clear hfz37_3
       try clear hfz37_4
       try clear hfz39_0
       try clear hfz39_1
       try clear hfz39_2
       try clear hfz39_3
       try clear hfz39_4
       try clear hfz43_0
       try clear hfz43_1
       try clear hfz43_2
       try clear hfz43_3
       try clear hfz43_4
       try clear hfz45_0
       try clear hfz45_1
       try clear hfz45_2
       try clear hfz45_3
       try clear hfz45_4
       try clear hfz62_0
       try clear hfz62_1
       try clear hfz62_2
       try clear hfz62_3
       try clear hfz62_4
       try clear hfz64_0
       try clear hfz64_1
       try clear hfz64_2
       try clear hfz64_3
       try clear hfz64_4
       try clear hfz68_0
       try clear hfz68_1
       try clear hfz68_2
       try clear hfz68_3
       try clear hfz68_4
       try clear hfz70_0
       try clear hfz70_1
       try clear hfz70_2
       try clear hfz70_3
       try clear hfz70_4
       try clear p2
       obtain ⟨kq, x67_51, rfl, HA, HJ51, HO_246004, HO_262004, BK228, BK245, BK261, HB⟩ := hcut
       cases kq with
       | zero => exact absurd HA.out (by simp [laws_FnExactMaskBy.j1])
       | succ kj51 =>
        have H := HA.out; clear HA
        simp only [laws_FnExactMaskBy.j1] at H
        by_cases c72 : x67_51 = true
        ·subst c72
         have H1 : (some false) = some r := by rw [if_pos rfl] at H; exact H
         clear H; have H := H1; clear H1
         obtain rfl := Option.some.inj H
         exact absurd hT Bool.false_ne_true
        ·replace c72 := Bool.eq_false_iff.mpr c72
         subst c72
         have H1 : ((laws_markMask.f kj51 t253 t254 t255 t256 t257 1).bind fun bt270 => ((laws_heldMask.f kj51 t253 t254 t255 t256 bt270.2 1).bind fun t272 => (if t272 < 0 then (some false) else (if t272 = bt270.1 then ((laws_toBox.f a0_0 a0_1 a0_2 a0_3).bind fun bt273 => ((laws_toRunS.f kj51 l1).bind fun t277 => ((impl_MaskBy.f kj51 bt273.1 bt273.2.1 bt273.2.2.1 bt273.2.2.2 t277).bind fun bt280 => ((laws_eqMask.f kj51 bt280.1 bt280.2.1 bt280.2.2.1 bt280.2.2.2.1 bt280.2.2.2.2.1 t237 t238 t239 t240 t241).bind fun t289 => (if t289 = true then (laws_FnExactMaskBy.j2 kj51 bt270.1 (bt280.2.2.2.2.2 != t244) t253 t254 t255 t256 bt270.2) else (laws_FnExactMaskBy.j2 kj51 bt270.1 true t253 t254 t255 t256 bt270.2)))))) else (some false))))) = some r := by rw [if_neg (show ¬ (false = true) by decide)] at H; exact H
         clear H; have H := H1; clear H1
         replace H := Option.bind_eq_some_iff.mp H
         obtain ⟨⟨t270, t271⟩, A730, H⟩ := H
         replace H : ((laws_heldMask.f kj51 t253 t254 t255 t256 t271 1).bind fun t272 => (if t272 < 0 then (some false) else (if t272 = t270 then ((laws_toBox.f a0_0 a0_1 a0_2 a0_3).bind fun bt273 => ((laws_toRunS.f kj51 l1).bind fun t277 => ((impl_MaskBy.f kj51 bt273.1 bt273.2.1 bt273.2.2.1 bt273.2.2.2 t277).bind fun bt280 => ((laws_eqMask.f kj51 bt280.1 bt280.2.1 bt280.2.2.1 bt280.2.2.2.1 bt280.2.2.2.2.1 t237 t238 t239 t240 t241).bind fun t289 => (if t289 = true then (laws_FnExactMaskBy.j2 kj51 t270 (bt280.2.2.2.2.2 != t244) t253 t254 t255 t256 t271) else (laws_FnExactMaskBy.j2 kj51 t270 true t253 t254 t255 t256 t271)))))) else (some false)))) = some r := H
         have A73 := Aside0.mk A730
         clear A730
         replace H := Option.bind_eq_some_iff.mp H
         obtain ⟨t272, A740, H⟩ := H
         replace H : (if t272 < 0 then (some false) else (if t272 = t270 then ((laws_toBox.f a0_0 a0_1 a0_2 a0_3).bind fun bt273 => ((laws_toRunS.f kj51 l1).bind fun t277 => ((impl_MaskBy.f kj51 bt273.1 bt273.2.1 bt273.2.2.1 bt273.2.2.2 t277).bind fun bt280 => ((laws_eqMask.f kj51 bt280.1 bt280.2.1 bt280.2.2.1 bt280.2.2.2.1 bt280.2.2.2.2.1 t237 t238 t239 t240 t241).bind fun t289 => (if t289 = true then (laws_FnExactMaskBy.j2 kj51 t270 (bt280.2.2.2.2.2 != t244) t253 t254 t255 t256 t271) else (laws_FnExactMaskBy.j2 kj51 t270 true t253 t254 t255 t256 t271)))))) else (some false))) = some r := H
         have A74 := Aside0.mk A740
         clear A740
         by_cases c75 : t272 < 0
         ·rw [if_pos c75] at H
          have c75b0 : decide (t272 < 0) = true := decide_eq_true c75
          clear c75
          obtain rfl := Option.some.inj H
          exact absurd hT Bool.false_ne_true
         ·rw [if_neg c75] at H
          have c75b0 : decide (t272 < 0) = false := decide_eq_false c75
          clear c75
          by_cases c76 : t272 = t270
          ·rw [if_pos c76] at H
           have c76b0 : (t272 == t270) = true := beq_iff_eq.mpr c76
           have c76b1 : (t272 != t270) = false := bne_eq_false_iff_eq.mpr c76
           clear c76
           replace H := Option.bind_eq_some_iff.mp H
           obtain ⟨⟨t273, t274, t275, t276⟩, A770, H⟩ := H
           replace H : ((laws_toRunS.f kj51 l1).bind fun t277 => ((impl_MaskBy.f kj51 t273 t274 t275 t276 t277).bind fun bt280 => ((laws_eqMask.f kj51 bt280.1 bt280.2.1 bt280.2.2.1 bt280.2.2.2.1 bt280.2.2.2.2.1 t237 t238 t239 t240 t241).bind fun t289 => (if t289 = true then (laws_FnExactMaskBy.j2 kj51 t270 (bt280.2.2.2.2.2 != t244) t253 t254 t255 t256 t271) else (laws_FnExactMaskBy.j2 kj51 t270 true t253 t254 t255 t256 t271))))) = some r := H
           have A77 := Aside0.mk A770
           clear A770
           replace H := Option.bind_eq_some_iff.mp H
           obtain ⟨t277, A780, H⟩ := H
           replace H : ((impl_MaskBy.f kj51 t273 t274 t275 t276 t277).bind fun bt280 => ((laws_eqMask.f kj51 bt280.1 bt280.2.1 bt280.2.2.1 bt280.2.2.2.1 bt280.2.2.2.2.1 t237 t238 t239 t240 t241).bind fun t289 => (if t289 = true then (laws_FnExactMaskBy.j2 kj51 t270 (bt280.2.2.2.2.2 != t244) t253 t254 t255 t256 t271) else (laws_FnExactMaskBy.j2 kj51 t270 true t253 t254 t255 t256 t271)))) = some r := H
           have A78 := Aside0.mk A780
           clear A780
           replace H := Option.bind_eq_some_iff.mp H
           obtain ⟨⟨t280, t281, t282, t283, t284, t287⟩, A790, H⟩ := H
           replace H : ((laws_eqMask.f kj51 t280 t281 t282 t283 t284 t237 t238 t239 t240 t241).bind fun t289 => (if t289 = true then (laws_FnExactMaskBy.j2 kj51 t270 (t287 != t244) t253 t254 t255 t256 t271) else (laws_FnExactMaskBy.j2 kj51 t270 true t253 t254 t255 t256 t271))) = some r := H
           have A79 := Aside0.mk A790
           clear A790
           have HC80 := Aside0.mk H
           clear H; have hnb81 := NB261_228.out; have hnc81 := NB228_261.out; have hnb82 := NB261_245.out; have hnc82 := NB245_261.out
           have hcz83_0 : wc.cell? ⟨gb261, 0, none⟩ = some (.int .i64 t253) := (blk_cell BK261.out 0).trans rfl
           have hcz83_1 : wc.cell? ⟨gb261, 1, none⟩ = some (.int .i64 t254) := (blk_cell BK261.out 1).trans rfl
           have hcz83_2 : wc.cell? ⟨gb261, 2, none⟩ = some (.int .i64 t255) := (blk_cell BK261.out 2).trans rfl
           have hcz83_3 : wc.cell? ⟨gb261, 3, none⟩ = some (.int .i64 t256) := (blk_cell BK261.out 3).trans rfl
           have hcz83_4 : wc.cell? ⟨gb261, 4, none⟩ = some (.slice Ao32 t257.length co32) := (blk_cell BK261.out 4).trans rfl
           have hfz83_0 := blk_frozen BK261.out 0
           have hfz83_1 := blk_frozen BK261.out 1
           have hfz83_2 := blk_frozen BK261.out 2
           have hfz83_3 := blk_frozen BK261.out 3
           have hfz83_4 := blk_frozen BK261.out 4
           go_upto_region 25 with (first | ((with_reducible refine gate_callee (f := 39) rfl ?_); refine goesL_ (some 70) rfl rfl Try.func39 (by kernel_rfl) rfl #[.agg #[.int .i64 t253, .int .i64 t254, .int .i64 t255, .int .i64 t256, .slice Ao32 t257.length co32], .int .i64 1] rfl z12_2 ?_; (with_reducible refine (laws_markMask.calls kj51 t253 t254 t255 t256 (fun k_ => some k_ = (.slice Ao32 t257.length co32 : Value).ownBlock) (.slice Ao32 t257.length co32) t257 1 t270 t271 w _ ?side1 ?side2 A73.out).mono ?_); (case side1 => repeat (first | (with_reducible first | exact HB.out | apply below_alloc | apply pw_below_drewN | apply below_drew1 | refine below_set ?_ GE228.out | refine below_set ?_ GE245.out | refine below_set ?_ GE261.out) | exact HB.out)); (case side2 => exact Kd.R_tight rfl HO_262004.out); rintro e w84 ⟨rfl, hy0, hb, hkp⟩; refine ⟨_, rfl, ?_⟩; have n0_ := Aside0.mk (Kd.R_mono (ok' := fun k_ => some k_ ≠ (.slice Ao32 t257.length co32 : Value).ownBlock) (Kd.R_keptB (HO_246004.out) hkp (fun k_ hk_ hs_ => (hk_) hs_)) (fun k_ hk_ => hk_.1)); have n1_ := Aside0.mk (Kd.R_reok rfl hy0 (fun k_ e_ => HO_262004.out.1 k_ e_)); have n2_ := Aside0.mk (blk_kept z12_1 hkp (fun hs_ => (fun e_ => (Kd.R_ne HO_262004.out BK228.out (by decide)) e_) hs_)); have n3_ := Aside0.mk (blk_kept z12_3 hkp (fun hs_ => (fun e_ => (Kd.R_ne HO_262004.out BK245.out (by decide)) e_) hs_)); have n4_ := Aside0.mk (blk_kept z12_9 hkp (fun hs_ => (fun e_ => (Kd.R_ne HO_262004.out BK261.out (by decide)) e_) hs_)); have n5_ := Aside0.mk (hb); clear HO_246004; clear HO_262004; clear BK228; clear BK245; clear BK261; clear HB; have HO_246004 := n0_; have HO_262004 := n1_; have BK228 := n2_; have BK245 := n3_; have BK261 := n4_; have HB := n5_; clear n0_ n1_ n2_ n3_ n4_ n5_; (try clear hb); (try clear hkp); (try clear hy0); have hcz85_0 : w84.cell? ⟨gb261, 0, none⟩ = some (.int .i64 t253) := (blk_cell BK261.out 0).trans rfl; have hcz85_1 : w84.cell? ⟨gb261, 1, none⟩ = some (.int .i64 t254) := (blk_cell BK261.out 1).trans rfl; have hcz85_2 : w84.cell? ⟨gb261, 2, none⟩ = some (.int .i64 t255) := (blk_cell BK261.out 2).trans rfl; have hcz85_3 : w84.cell? ⟨gb261, 3, none⟩ = some (.int .i64 t256) := (blk_cell BK261.out 3).trans rfl; have hcz85_4 : w84.cell? ⟨gb261, 4, none⟩ = some (.slice Ao32 t257.length co32) := (blk_cell BK261.out 4).trans rfl; have hfz85_0 := blk_frozen BK261.out 0; have hfz85_1 := blk_frozen BK261.out 1; have hfz85_2 := blk_frozen BK261.out 2; have hfz85_3 := blk_frozen BK261.out 3; have hfz85_4 := blk_frozen BK261.out 4) | ((with_reducible refine gate_callee (f := 40) rfl ?_); refine goesL_ (some 73) rfl rfl Try.func40 (by kernel_rfl) rfl #[.agg #[.int .i64 t253, .int .i64 t254, .int .i64 t255, .int .i64 t256, .slice Ao32 t271.length co32], .int .i64 1] rfl (by (try simp only [List.map_toArray, List.map_cons, List.map_nil]); first | done | (rw [show t271.length = t257.length from (Kd.R_reads' HO_262004.out).1.symm] <;> rfl) | rfl | (simp only [List.length_drop, List.length_take]; rfl)) ?_; (with_reducible refine (laws_heldMask.calls kj51 t253 t254 t255 t256 _ _ t271 1 t272 _ ?side1 ?side2 A74.out).mono ?_); (case side1 => repeat (first | exact (Kd.R_reads' HO_262004.out).2.2 | (with_reducible refine Kd.C_alloc ?_ _) | (with_reducible refine Kd.C_drewN ?_ _) | (with_reducible refine Kd.C_drew ?_))); (case side2 => rw [show t271.length = t257.length from (Kd.R_reads' HO_262004.out).1.symm]; exact (Kd.R_reads' HO_262004.out).2.1); rintro e w86 ⟨rfl, hb⟩; refine ⟨_, rfl, ?_⟩; have n0_ := Aside0.mk (Kd.R_below z12_13 hb); have n1_ := Aside0.mk (Kd.R_below z12_14 hb); have n2_ := Aside0.mk (blk_below (g := gb228) (o := .cells #[.int .i64 a0_0, .int .i64 a0_1, .int .i64 a0_2, .int .i64 a0_3] 48 (0, 0)) z12_1 hb); have n3_ := Aside0.mk (blk_below (g := gb245) (o := .cells #[.int .i64 t237, .int .i64 t238, .int .i64 t239, .int .i64 t240, .slice Ao22 t241.length co22] 52 (0, 0)) z12_3 hb); have n4_ := Aside0.mk (blk_below (g := gb261) (o := .cells #[.int .i64 t253, .int .i64 t254, .int .i64 t255, .int .i64 t256, .slice Ao32 t257.length co32] 52 (0, 0)) z12_9 hb); have n5_ := Aside0.mk (below_step z12_0 hb); clear HO_246004; clear HO_262004; clear BK228; clear BK245; clear BK261; clear HB; have HO_246004 := n0_; have HO_262004 := n1_; have BK228 := n2_; have BK245 := n3_; have BK261 := n4_; have HB := n5_; clear n0_ n1_ n2_ n3_ n4_ n5_; (try clear hb); (try clear hb2); (try clear hk); (try clear hi); have hnb87 := NB228_245.out; have hnc87 := NB245_228.out; have hcz88_0 : w86.cell? ⟨gb228, 0, none⟩ = some (.int .i64 a0_0) := (blk_cell BK228.out 0).trans rfl; have hcz88_1 : w86.cell? ⟨gb228, 1, none⟩ = some (.int .i64 a0_1) := (blk_cell BK228.out 1).trans rfl; have hcz88_2 : w86.cell? ⟨gb228, 2, none⟩ = some (.int .i64 a0_2) := (blk_cell BK228.out 2).trans rfl; have hcz88_3 : w86.cell? ⟨gb228, 3, none⟩ = some (.int .i64 a0_3) := (blk_cell BK228.out 3).trans rfl; have hfz88_0 := blk_frozen BK228.out 0; have hfz88_1 := blk_frozen BK228.out 1; have hfz88_2 := blk_frozen BK228.out 2; have hfz88_3 := blk_frozen BK228.out 3) | ((with_reducible refine gate_callee (f := 33) rfl ?_); refine goesL_ (some 81) rfl rfl Try.func33 (by kernel_rfl) rfl #[.agg #[.int .i64 a0_0, .int .i64 a0_1, .int .i64 a0_2, .int .i64 a0_3]] rfl z12_2 ?_; (with_reducible refine (laws_toBox.calls a0_0 a0_1 a0_2 a0_3 t273 t274 t275 t276 _ A77.out).mono ?_); rintro e w89 ⟨rfl, hb⟩; refine ⟨_, rfl, ?_⟩; have n0_ := Aside0.mk (Kd.R_below z12_13 hb); have n1_ := Aside0.mk (Kd.R_below z12_14 hb); have n2_ := Aside0.mk (blk_below (g := gb228) (o := .cells #[.int .i64 a0_0, .int .i64 a0_1, .int .i64 a0_2, .int .i64 a0_3] 48 (0, 0)) z12_1 hb); have n3_ := Aside0.mk (blk_below (g := gb245) (o := .cells #[.int .i64 t237, .int .i64 t238, .int .i64 t239, .int .i64 t240, .slice Ao22 t241.length co22] 52 (0, 0)) z12_3 hb); have n4_ := Aside0.mk (blk_below (g := gb261) (o := .cells #[.int .i64 t253, .int .i64 t254, .int .i64 t255, .int .i64 t256, .slice Ao32 t257.length co32] 52 (0, 0)) z12_9 hb); have n5_ := Aside0.mk (below_step z12_0 hb); clear HO_246004; clear HO_262004; clear BK228; clear BK245; clear BK261; clear HB; have HO_246004 := n0_; have HO_262004 := n1_; have BK228 := n2_; have BK245 := n3_; have BK261 := n4_; have HB := n5_; clear n0_ n1_ n2_ n3_ n4_ n5_; (try clear hb); (try clear hb2); (try clear hk); (try clear hi)) | ((with_reducible refine gate_callee (f := 34) rfl ?_); refine goesL_ (some 83) rfl rfl Try.func34 (by kernel_rfl) rfl #[.slice A1 l1.length c1] rfl z12_2 ?_; (with_reducible refine (laws_toRunS.calls kj51 _ _ l1 t277 _ ?side1 ?side2 A78.out).mono ?_); (case side1 => repeat (first | exact (Kd.C_below HR1.out HB.out) | (with_reducible refine Kd.C_alloc ?_ _) | (with_reducible refine Kd.C_drewN ?_ _) | (with_reducible refine Kd.C_drew ?_))); (case side2 => exact HC1.out); rintro e w90 ⟨v278, rfl, ho0, hb⟩; refine ⟨_, rfl, ?_⟩; have n0_ := Aside0.mk (Kd.R_below z12_13 hb); have n1_ := Aside0.mk (Kd.R_below z12_14 hb); have n2_ := Aside0.mk (Kd.R_lower ho0 (below_size z12_0)); have n3_ := Aside0.mk (blk_below (g := gb228) (o := .cells #[.int .i64 a0_0, .int .i64 a0_1, .int .i64 a0_2, .int .i64 a0_3] 48 (0, 0)) z12_1 hb); have n4_ := Aside0.mk (blk_below (g := gb245) (o := .cells #[.int .i64 t237, .int .i64 t238, .int .i64 t239, .int .i64 t240, .slice Ao22 t241.length co22] 52 (0, 0)) z12_3 hb); have n5_ := Aside0.mk (blk_below (g := gb261) (o := .cells #[.int .i64 t253, .int .i64 t254, .int .i64 t255, .int .i64 t256, .slice Ao32 t257.length co32] 52 (0, 0)) z12_9 hb); have n6_ := Aside0.mk (below_step z12_0 hb); clear HO_246004; clear HO_262004; clear BK228; clear BK245; clear BK261; clear HB; have HO_246004 := n0_; have HO_262004 := n1_; have HO279 := n2_; have BK228 := n3_; have BK245 := n4_; have BK261 := n5_; have HB := n6_; clear n0_ n1_ n2_ n3_ n4_ n5_ n6_; (try clear hb); (try clear hb2); (try clear hk); (try clear hi); (try clear ho0); obtain ⟨Ao91, co91, eo91⟩ := Kd.R_slice HO279.out; subst eo91) | ((with_reducible refine gate_callee (f := 35) rfl ?_); refine goesL_ (some 84) rfl rfl Try.func35 (by kernel_rfl) rfl #[.agg #[.int .i64 t273, .int .i64 t274, .int .i64 t275, .int .i64 t276], .slice Ao91 t277.length co91] rfl z12_2 ?_; (with_reducible refine (impl_MaskBy.calls kj51 t273 t274 t275 t276 _ _ t277 t280 t281 t282 t283 t284 t287 _ ?side1 ?side2 A79.out).mono ?_); (case side1 => repeat (first | exact (Kd.R_reads' HO279.out).2.2 | (with_reducible refine Kd.C_alloc ?_ _) | (with_reducible refine Kd.C_drewN ?_ _) | (with_reducible refine Kd.C_drew ?_))); (case side2 => exact (Kd.R_reads' HO279.out).2.1); rintro e w92 ⟨v285, rfl, ho0, hb⟩; refine ⟨_, rfl, ?_⟩; have n0_ := Aside0.mk (Kd.R_elder' z12_13 (Kd.R_base ho0) hb); have n1_ := Aside0.mk (Kd.R_elder' z12_14 (Kd.R_base ho0) hb); have n2_ := Aside0.mk (Kd.R_below (by (with_reducible repeat (first | apply Kd.R_alloc | apply Kd.R_drewN | apply Kd.R_drew)); exact HO279.out) hb); have n3_ := Aside0.mk (Kd.R_lower (Kd.R_new' (Kd.R_new' ho0 (Kd.R_lt z12_13)) (Kd.R_lt z12_14)) (below_size z12_0)); have n4_ := Aside0.mk (blk_below (g := gb228) (o := .cells #[.int .i64 a0_0, .int .i64 a0_1, .int .i64 a0_2, .int .i64 a0_3] 48 (0, 0)) z12_1 hb); have n5_ := Aside0.mk (blk_below (g := gb245) (o := .cells #[.int .i64 t237, .int .i64 t238, .int .i64 t239, .int .i64 t240, .slice Ao22 t241.length co22] 52 (0, 0)) z12_3 hb); have n6_ := Aside0.mk (blk_below (g := gb261) (o := .cells #[.int .i64 t253, .int .i64 t254, .int .i64 t255, .int .i64 t256, .slice Ao32 t257.length co32] 52 (0, 0)) z12_9 hb); have n7_ := Aside0.mk (below_step z12_0 hb); clear HO_246004; clear HO_262004; clear HO279; clear BK228; clear BK245; clear BK261; clear HB; have HO_246004 := n0_; have HO_262004 := n1_; have HO279 := n2_; have HO286 := n3_; have BK228 := n4_; have BK245 := n5_; have BK261 := n6_; have HB := n7_; clear n0_ n1_ n2_ n3_ n4_ n5_ n6_ n7_; (try clear hb); (try clear hb2); (try clear hk); (try clear hi); (try clear ho0)) | ((with_reducible refine gate_dst (N := 14) rfl ?_); refine box_event ?hg (N := 14) ?hd (cs := #[.int .i64 0, .int .i64 0, .int .i64 0, .int .i64 0, .slice none 0 0]) (t := 52) ?hr ?_; (case hd => rfl); (case hg => rfl); (case hr => first | (go_simp; done) | (go_simp; rfl)); intro gb288 hg w93 hbox hb; have n0_ := Aside0.mk (Kd.R_below z12_13 hb); have n1_ := Aside0.mk (Kd.R_below z12_14 hb); have n2_ := Aside0.mk (Kd.R_below (by (with_reducible repeat (first | apply Kd.R_alloc | apply Kd.R_drewN | apply Kd.R_drew)); exact HO279.out) hb); have n3_ := Aside0.mk (Kd.R_below (by (with_reducible repeat (first | apply Kd.R_alloc | apply Kd.R_drewN | apply Kd.R_drew)); exact HO286.out) hb); have n4_ := Aside0.mk (blk_below (g := gb228) (o := .cells #[.int .i64 a0_0, .int .i64 a0_1, .int .i64 a0_2, .int .i64 a0_3] 48 (0, 0)) z12_1 hb); have n5_ := Aside0.mk (blk_below (g := gb245) (o := .cells #[.int .i64 t237, .int .i64 t238, .int .i64 t239, .int .i64 t240, .slice Ao22 t241.length co22] 52 (0, 0)) z12_3 hb); have n6_ := Aside0.mk (blk_below (g := gb261) (o := .cells #[.int .i64 t253, .int .i64 t254, .int .i64 t255, .int .i64 t256, .slice Ao32 t257.length co32] 52 (0, 0)) z12_9 hb); have n7_ := Aside0.mk (below_step z12_0 hb); have n8_ := Aside0.mk (hbox); have n9_ := Aside0.mk ((by rw [hg]; exact (below_size z12_0) : w.heap.size ≤ gb288)); have n10_ := Aside0.mk ((by rw [hg]; exact (below_size z12_0) : w.heap.size ≤ gb288)); have n11_ := Aside0.mk ((by rw [hg]; exact Nat.ne_of_lt (blk_lt (g := gb228) (o := .cells #[.int .i64 a0_0, .int .i64 a0_1, .int .i64 a0_2, .int .i64 a0_3] 48 (0, 0)) z12_1) : gb228 ≠ gb288)); have n12_ := Aside0.mk ((by rw [hg]; exact Nat.ne_of_gt (blk_lt (g := gb228) (o := .cells #[.int .i64 a0_0, .int .i64 a0_1, .int .i64 a0_2, .int .i64 a0_3] 48 (0, 0)) z12_1) : gb288 ≠ gb228)); have n13_ := Aside0.mk ((by rw [hg]; exact Nat.ne_of_lt (blk_lt (g := gb245) (o := .cells #[.int .i64 t237, .int .i64 t238, .int .i64 t239, .int .i64 t240, .slice Ao22 t241.length co22] 52 (0, 0)) z12_3) : gb245 ≠ gb288)); have n14_ := Aside0.mk ((by rw [hg]; exact Nat.ne_of_gt (blk_lt (g := gb245) (o := .cells #[.int .i64 t237, .int .i64 t238, .int .i64 t239, .int .i64 t240, .slice Ao22 t241.length co22] 52 (0, 0)) z12_3) : gb288 ≠ gb245)); have n15_ := Aside0.mk ((by rw [hg]; exact Nat.ne_of_lt (blk_lt (g := gb261) (o := .cells #[.int .i64 t253, .int .i64 t254, .int .i64 t255, .int .i64 t256, .slice Ao32 t257.length co32] 52 (0, 0)) z12_9) : gb261 ≠ gb288)); have n16_ := Aside0.mk ((by rw [hg]; exact Nat.ne_of_gt (blk_lt (g := gb261) (o := .cells #[.int .i64 t253, .int .i64 t254, .int .i64 t255, .int .i64 t256, .slice Ao32 t257.length co32] 52 (0, 0)) z12_9) : gb288 ≠ gb261)); clear HO_246004; clear HO_262004; clear HO279; clear HO286; clear BK228; clear BK245; clear BK261; clear HB; have HO_246004 := n0_; have HO_262004 := n1_; have HO279 := n2_; have HO286 := n3_; have BK228 := n4_; have BK245 := n5_; have BK261 := n6_; have HB := n7_; have BK288 := n8_; have GW288 := n9_; have GE288 := n10_; have NB228_288 := n11_; have NB288_228 := n12_; have NB245_288 := n13_; have NB288_245 := n14_; have NB261_288 := n15_; have NB288_261 := n16_; clear n0_ n1_ n2_ n3_ n4_ n5_ n6_ n7_ n8_ n9_ n10_ n11_ n12_ n13_ n14_ n15_ n16_; clear hb hbox hg; have hnb94 := NB288_228.out; have hnc94 := NB228_288.out; have hnb95 := NB288_245.out; have hnc95 := NB245_288.out; have hnb96 := NB288_261.out; have hnc96 := NB261_288.out; have hcz97_0 : w93.cell? ⟨gb288, 0, none⟩ = some (.int .i64 0) := (blk_cell BK288.out 0).trans rfl; have hcz97_1 : w93.cell? ⟨gb288, 1, none⟩ = some (.int .i64 0) := (blk_cell BK288.out 1).trans rfl; have hcz97_2 : w93.cell? ⟨gb288, 2, none⟩ = some (.int .i64 0) := (blk_cell BK288.out 2).trans rfl; have hcz97_3 : w93.cell? ⟨gb288, 3, none⟩ = some (.int .i64 0) := (blk_cell BK288.out 3).trans rfl; have hcz97_4 : w93.cell? ⟨gb288, 4, none⟩ = some (.slice none 0 0) := (blk_cell BK288.out 4).trans rfl; have hfz97_0 := blk_frozen BK288.out 0; have hfz97_1 := blk_frozen BK288.out 1; have hfz97_2 := blk_frozen BK288.out 2; have hfz97_3 := blk_frozen BK288.out 3; have hfz97_4 := blk_frozen BK288.out 4; obtain ⟨Ao98, co98, eo98⟩ := Kd.R_slice HO286.out; subst eo98))
           (try simp only [Act.put, List.setIfInBounds_toArray, List.set_cons_zero, List.set_cons_succ])
           go_cut [95] (fun v95 wc => ∃ (kq : Nat) (x95_79 : Bool), v95 = .bool x95_79 ∧ Aside0 (laws_FnExactMaskBy.j2 kq t270 x95_79 t253 t254 t255 t256 t271 = some r) ∧ Aside0 (kq ≤ kj51) ∧ Aside0 (Kd.R (Kd.int .i64) 3 wc w.heap.size (fun k_ => some k_ ≠ ((.slice Ao32 t257.length co32) : Value).ownBlock ∧ some k_ ≠ ((.slice Ao98 t284.length co98) : Value).ownBlock) (.slice Ao22 t241.length co22) t241) ∧ Aside0 (Kd.R (Kd.int .i64) 3 wc w.heap.size (fun k_ => some k_ ≠ ((.slice Ao22 t241.length co22) : Value).ownBlock ∧ some k_ ≠ ((.slice Ao98 t284.length co98) : Value).ownBlock) (.slice Ao32 t257.length co32) t271) ∧ Aside0 (Kd.R (Kd.int .i64) 3 wc w.heap.size (fun k_ => some k_ ≠ ((.slice Ao22 t241.length co22) : Value).ownBlock ∧ some k_ ≠ ((.slice Ao32 t257.length co32) : Value).ownBlock) (.slice Ao98 t284.length co98) t284) ∧ Aside0 (wc.heap[gb228]? = some (.cells #[.int .i64 a0_0, .int .i64 a0_1, .int .i64 a0_2, .int .i64 a0_3] 48 (0, 0))) ∧ Aside0 (wc.heap[gb245]? = some (.cells #[.int .i64 t237, .int .i64 t238, .int .i64 t239, .int .i64 t240, (.slice Ao22 t241.length co22)] 52 (0, 0))) ∧ Aside0 (wc.heap[gb261]? = some (.cells #[.int .i64 t253, .int .i64 t254, .int .i64 t255, .int .i64 t256, (.slice Ao32 t257.length co32)] 52 (0, 0))) ∧ Aside0 (wc.heap[gb288]? = some (.cells #[.int .i64 t280, .int .i64 t281, .int .i64 t282, .int .i64 t283, (.slice Ao98 t284.length co98)] 52 (0, 0))) ∧ Aside0 (Below w.heap.size w wc))
           case first =>
            have H := HC80.out; clear HC80
            replace H := Option.bind_eq_some_iff.mp H
            obtain ⟨t289, A990, H⟩ := H
            replace H : (if t289 = true then (laws_FnExactMaskBy.j2 kj51 t270 (t287 != t244) t253 t254 t255 t256 t271) else (laws_FnExactMaskBy.j2 kj51 t270 true t253 t254 t255 t256 t271)) = some r := H
            have A99 := Aside0.mk A990
            clear A990
            by_cases c100 : t289 = true
            ·subst c100
             have H1 : (laws_FnExactMaskBy.j2 kj51 t270 (t287 != t244) t253 t254 t255 t256 t271) = some r := by rw [if_pos rfl] at H; exact H
             clear H; have H := H1; clear H1
             have H' := Aside0.mk H
             clear H; have hnb101 := NB288_228.out; have hnc101 := NB228_288.out; have hnb102 := NB288_245.out; have hnc102 := NB245_288.out; have hnb103 := NB288_261.out; have hnc103 := NB261_288.out
             have hcz104_0 : w93.cell? ⟨gb288, 0, none⟩ = some (.int .i64 0) := (blk_cell BK288.out 0).trans rfl
             have hcz104_1 : w93.cell? ⟨gb288, 1, none⟩ = some (.int .i64 0) := (blk_cell BK288.out 1).trans rfl
             have hcz104_2 : w93.cell? ⟨gb288, 2, none⟩ = some (.int .i64 0) := (blk_cell BK288.out 2).trans rfl
             have hcz104_3 : w93.cell? ⟨gb288, 3, none⟩ = some (.int .i64 0) := (blk_cell BK288.out 3).trans rfl
             have hcz104_4 : w93.cell? ⟨gb288, 4, none⟩ = some (.slice none 0 0) := (blk_cell BK288.out 4).trans rfl
             have hfz104_0 := blk_frozen BK288.out 0
             have hfz104_1 := blk_frozen BK288.out 1
             have hfz104_2 := blk_frozen BK288.out 2
             have hfz104_3 := blk_frozen BK288.out 3
             have hfz104_4 := blk_frozen BK288.out 4
             have hnb105 := NB245_228.out; have hnc105 := NB228_245.out; have hnb106 := NB245_261.out; have hnc106 := NB261_245.out
             have hcz107_0 : w93.cell? ⟨gb245, 0, none⟩ = some (.int .i64 t237) := (blk_cell BK245.out 0).trans rfl
             have hcz107_1 : w93.cell? ⟨gb245, 1, none⟩ = some (.int .i64 t238) := (blk_cell BK245.out 1).trans rfl
             have hcz107_2 : w93.cell? ⟨gb245, 2, none⟩ = some (.int .i64 t239) := (blk_cell BK245.out 2).trans rfl
             have hcz107_3 : w93.cell? ⟨gb245, 3, none⟩ = some (.int .i64 t240) := (blk_cell BK245.out 3).trans rfl
             have hcz107_4 : w93.cell? ⟨gb245, 4, none⟩ = some (.slice Ao22 t241.length co22) := (blk_cell BK245.out 4).trans rfl
             have hfz107_0 := blk_frozen BK245.out 0
             have hfz107_1 := blk_frozen BK245.out 1
             have hfz107_2 := blk_frozen BK245.out 2
             have hfz107_3 := blk_frozen BK245.out 3
             have hfz107_4 := blk_frozen BK245.out 4
             go_wp2_with (first | ((with_reducible refine gate_callee (f := 36) rfl ?_); refine goesL_ (some 89) rfl rfl Try.func36 (by kernel_rfl) rfl #[.agg #[.int .i64 t280, .int .i64 t281, .int .i64 t282, .int .i64 t283, .slice Ao98 t284.length co98], .agg #[.int .i64 t237, .int .i64 t238, .int .i64 t239, .int .i64 t240, .slice Ao22 t241.length co22]] rfl z12_2 ?_; (with_reducible refine (laws_eqMask.calls kj51 t280 t281 t282 t283 _ _ t284 t237 t238 t239 t240 _ _ t241 true _ ?side1 ?side2 ?side3 ?side4 A99.out).mono ?_); (case side1 => refine (Kd.R_reads' (e := 3) (base := w.heap.size) (ok := fun k_ => ((True ∧ some k_ ≠ (.slice Ao22 t241.length co22 : Value).ownBlock) ∧ some k_ ≠ (.slice Ao32 t257.length co32 : Value).ownBlock)) (n := t284.length) (c := co98) ?_).2.2; exact z12_7); (case side2 => exact (Kd.R_reads' HO286.out).2.1); (case side3 => refine (Kd.R_reads' (e := 3) (base := w.heap.size) (ok := fun k_ => (some k_ ≠ (.slice Ao32 t257.length co32 : Value).ownBlock ∧ some k_ ≠ (.slice Ao98 t284.length co98 : Value).ownBlock)) (n := t241.length) (c := co22) ?_).2.2; exact z12_4); (case side4 => exact (Kd.R_reads' HO_246004.out).2.1); rintro e w108 ⟨rfl, hb⟩; refine ⟨_, rfl, ?_⟩; have n0_ := Aside0.mk (Kd.R_below z12_4 hb); have n1_ := Aside0.mk (Kd.R_below z12_21 hb); have n2_ := Aside0.mk (Kd.R_below z12_25 hb); have n3_ := Aside0.mk (Kd.R_below z12_7 hb); have n4_ := Aside0.mk (blk_below (g := gb228) (o := .cells #[.int .i64 a0_0, .int .i64 a0_1, .int .i64 a0_2, .int .i64 a0_3] 48 (0, 0)) z12_17 hb); have n5_ := Aside0.mk (blk_below (g := gb245) (o := .cells #[.int .i64 t237, .int .i64 t238, .int .i64 t239, .int .i64 t240, .slice Ao22 t241.length co22] 52 (0, 0)) z12_18 hb); have n6_ := Aside0.mk (blk_below (g := gb261) (o := .cells #[.int .i64 t253, .int .i64 t254, .int .i64 t255, .int .i64 t256, .slice Ao32 t257.length co32] 52 (0, 0)) z12_19 hb); have n7_ := Aside0.mk (blk_below (g := gb288) (o := .cells #[.int .i64 t280, .int .i64 t281, .int .i64 t282, .int .i64 t283, .slice Ao98 t284.length co98] 52 (0, 0)) z12_12 hb); have n8_ := Aside0.mk (below_step z12_26 hb); clear HO_246004; clear HO_262004; clear HO279; clear HO286; clear BK228; clear BK245; clear BK261; clear BK288; clear HB; have HO_246004 := n0_; have HO_262004 := n1_; have HO279 := n2_; have HO286 := n3_; have BK228 := n4_; have BK245 := n5_; have BK261 := n6_; have BK288 := n7_; have HB := n8_; clear n0_ n1_ n2_ n3_ n4_ n5_ n6_ n7_ n8_; (try clear hb); (try clear hb2); (try clear hk); (try clear hi)))
             go_meet
             case rel => exact ⟨_, ((t287 != t244)), (by first | rfl | (simp; done) | (simp [*]; done)), H', ⟨by have := HJ11.out; have := HJ51.out; first | omega | exact Nat.le_refl _⟩, ⟨by (with_reducible repeat (first | apply Kd.R_alloc | apply Kd.R_drewN | apply Kd.R_drew)); exact HO_246004.out⟩, ⟨by (with_reducible repeat (first | apply Kd.R_alloc | apply Kd.R_drewN | apply Kd.R_drew)); exact HO_262004.out⟩, ⟨by (with_reducible repeat (first | apply Kd.R_alloc | apply Kd.R_drewN | apply Kd.R_drew)); exact Kd.R_mono HO286.out (fun _ hk => ⟨hk.1.2, hk.2⟩)⟩, ⟨by (with_reducible repeat (first | refine blk_drewN ?_ _ | refine blk_drew ?_ | refine blk_alloc ?_ _)); exact BK228.out⟩, ⟨by (with_reducible repeat (first | refine blk_drewN ?_ _ | refine blk_drew ?_ | refine blk_alloc ?_ _)); exact BK245.out⟩, ⟨by (with_reducible repeat (first | refine blk_drewN ?_ _ | refine blk_drew ?_ | refine blk_alloc ?_ _)); exact BK261.out⟩, ⟨by (with_reducible repeat (first | refine blk_drewN ?_ _ | refine blk_drew ?_ | refine blk_alloc ?_ _)); exact BK288.out⟩, ⟨by repeat (first | (with_reducible first | exact HB.out | apply below_alloc | apply pw_below_drewN | apply below_drew1 | refine below_set ?_ GE228.out | refine below_set ?_ GE245.out | refine below_set ?_ GE261.out | refine below_set ?_ GE288.out) | exact HB.out)⟩⟩
            ·replace c100 := Bool.eq_false_iff.mpr c100
             subst c100
             have H1 : (laws_FnExactMaskBy.j2 kj51 t270 true t253 t254 t255 t256 t271) = some r := by rw [if_neg (show ¬ (false = true) by decide)] at H; exact H
             clear H; have H := H1; clear H1
             have H' := Aside0.mk H
             clear H; have hnb109 := NB288_228.out; have hnc109 := NB228_288.out; have hnb110 := NB288_245.out; have hnc110 := NB245_288.out; have hnb111 := NB288_261.out; have hnc111 := NB261_288.out
             have hcz112_0 : w93.cell? ⟨gb288, 0, none⟩ = some (.int .i64 0) := (blk_cell BK288.out 0).trans rfl
             have hcz112_1 : w93.cell? ⟨gb288, 1, none⟩ = some (.int .i64 0) := (blk_cell BK288.out 1).trans rfl
             have hcz112_2 : w93.cell? ⟨gb288, 2, none⟩ = some (.int .i64 0) := (blk_cell BK288.out 2).trans rfl
             have hcz112_3 : w93.cell? ⟨gb288, 3, none⟩ = some (.int .i64 0) := (blk_cell BK288.out 3).trans rfl
             have hcz112_4 : w93.cell? ⟨gb288, 4, none⟩ = some (.slice none 0 0) := (blk_cell BK288.out 4).trans rfl
             have hfz112_0 := blk_frozen BK288.out 0
             have hfz112_1 := blk_frozen BK288.out 1
             have hfz112_2 := blk_frozen BK288.out 2
             have hfz112_3 := blk_frozen BK288.out 3
             have hfz112_4 := blk_frozen BK288.out 4
             have hnb113 := NB245_228.out; have hnc113 := NB228_245.out; have hnb114 := NB245_261.out; have hnc114 := NB261_245.out
             have hcz115_0 : w93.cell? ⟨gb245, 0, none⟩ = some (.int .i64 t237) := (blk_cell BK245.out 0).trans rfl
             have hcz115_1 : w93.cell? ⟨gb245, 1, none⟩ = some (.int .i64 t238) := (blk_cell BK245.out 1).trans rfl
             have hcz115_2 : w93.cell? ⟨gb245, 2, none⟩ = some (.int .i64 t239) := (blk_cell BK245.out 2).trans rfl
             have hcz115_3 : w93.cell? ⟨gb245, 3, none⟩ = some (.int .i64 t240) := (blk_cell BK245.out 3).trans rfl
             have hcz115_4 : w93.cell? ⟨gb245, 4, none⟩ = some (.slice Ao22 t241.length co22) := (blk_cell BK245.out 4).trans rfl
             have hfz115_0 := blk_frozen BK245.out 0
             have hfz115_1 := blk_frozen BK245.out 1
             have hfz115_2 := blk_frozen BK245.out 2
             have hfz115_3 := blk_frozen BK245.out 3
             have hfz115_4 := blk_frozen BK245.out 4
             go_wp2_with (first | ((with_reducible refine gate_callee (f := 36) rfl ?_); refine goesL_ (some 89) rfl rfl Try.func36 (by kernel_rfl) rfl #[.agg #[.int .i64 t280, .int .i64 t281, .int .i64 t282, .int .i64 t283, .slice Ao98 t284.length co98], .agg #[.int .i64 t237, .int .i64 t238, .int .i64 t239, .int .i64 t240, .slice Ao22 t241.length co22]] rfl z12_2 ?_; (with_reducible refine (laws_eqMask.calls kj51 t280 t281 t282 t283 _ _ t284 t237 t238 t239 t240 _ _ t241 false _ ?side1 ?side2 ?side3 ?side4 A99.out).mono ?_); (case side1 => refine (Kd.R_reads' (e := 3) (base := w.heap.size) (ok := fun k_ => ((True ∧ some k_ ≠ (.slice Ao22 t241.length co22 : Value).ownBlock) ∧ some k_ ≠ (.slice Ao32 t257.length co32 : Value).ownBlock)) (n := t284.length) (c := co98) ?_).2.2; exact z12_7); (case side2 => exact (Kd.R_reads' HO286.out).2.1); (case side3 => refine (Kd.R_reads' (e := 3) (base := w.heap.size) (ok := fun k_ => (some k_ ≠ (.slice Ao32 t257.length co32 : Value).ownBlock ∧ some k_ ≠ (.slice Ao98 t284.length co98 : Value).ownBlock)) (n := t241.length) (c := co22) ?_).2.2; exact z12_4); (case side4 => exact (Kd.R_reads' HO_246004.out).2.1); rintro e w116 ⟨rfl, hb⟩; refine ⟨_, rfl, ?_⟩; have n0_ := Aside0.mk (Kd.R_below z12_4 hb); have n1_ := Aside0.mk (Kd.R_below z12_21 hb); have n2_ := Aside0.mk (Kd.R_below z12_25 hb); have n3_ := Aside0.mk (Kd.R_below z12_7 hb); have n4_ := Aside0.mk (blk_below (g := gb228) (o := .cells #[.int .i64 a0_0, .int .i64 a0_1, .int .i64 a0_2, .int .i64 a0_3] 48 (0, 0)) z12_17 hb); have n5_ := Aside0.mk (blk_below (g := gb245) (o := .cells #[.int .i64 t237, .int .i64 t238, .int .i64 t239, .int .i64 t240, .slice Ao22 t241.length co22] 52 (0, 0)) z12_18 hb); have n6_ := Aside0.mk (blk_below (g := gb261) (o := .cells #[.int .i64 t253, .int .i64 t254, .int .i64 t255, .int .i64 t256, .slice Ao32 t257.length co32] 52 (0, 0)) z12_19 hb); have n7_ := Aside0.mk (blk_below (g := gb288) (o := .cells #[.int .i64 t280, .int .i64 t281, .int .i64 t282, .int .i64 t283, .slice Ao98 t284.length co98] 52 (0, 0)) z12_12 hb); have n8_ := Aside0.mk (below_step z12_26 hb); clear HO_246004; clear HO_262004; clear HO279; clear HO286; clear BK228; clear BK245; clear BK261; clear BK288; clear HB; have HO_246004 := n0_; have HO_262004 := n1_; have HO279 := n2_; have HO286 := n3_; have BK228 := n4_; have BK245 := n5_; have BK261 := n6_; have BK288 := n7_; have HB := n8_; clear n0_ n1_ n2_ n3_ n4_ n5_ n6_ n7_ n8_; (try clear hb); (try clear hb2); (try clear hk); (try clear hi)))
             go_meet
             case rel => exact ⟨_, (true), (by first | rfl | (simp; done) | (simp [*]; done)), H', ⟨by have := HJ11.out; have := HJ51.out; first | omega | exact Nat.le_refl _⟩, ⟨by (with_reducible repeat (first | apply Kd.R_alloc | apply Kd.R_drewN | apply Kd.R_drew)); exact HO_246004.out⟩, ⟨by (with_reducible repeat (first | apply Kd.R_alloc | apply Kd.R_drewN | apply Kd.R_drew)); exact HO_262004.out⟩, ⟨by (with_reducible repeat (first | apply Kd.R_alloc | apply Kd.R_drewN | apply Kd.R_drew)); exact Kd.R_mono HO286.out (fun _ hk => ⟨hk.1.2, hk.2⟩)⟩, ⟨by (with_reducible repeat (first | refine blk_drewN ?_ _ | refine blk_drew ?_ | refine blk_alloc ?_ _)); exact BK228.out⟩, ⟨by (with_reducible repeat (first | refine blk_drewN ?_ _ | refine blk_drew ?_ | refine blk_alloc ?_ _)); exact BK245.out⟩, ⟨by (with_reducible repeat (first | refine blk_drewN ?_ _ | refine blk_drew ?_ | refine blk_alloc ?_ _)); exact BK261.out⟩, ⟨by (with_reducible repeat (first | refine blk_drewN ?_ _ | refine blk_drew ?_ | refine blk_alloc ?_ _)); exact BK288.out⟩, ⟨by repeat (first | (with_reducible first | exact HB.out | apply below_alloc | apply pw_below_drewN | apply below_drew1 | refine below_set ?_ GE228.out | refine below_set ?_ GE245.out | refine below_set ?_ GE261.out | refine below_set ?_ GE288.out) | exact HB.out)⟩⟩
           case rest =>
            clear HC80; try clear c1
            try clear c2
            try clear p2
            try clear c3
            try clear c4
            try clear c4b0
            try clear c5
            try clear c6
            try clear c7
            try clear c8
            try clear c9
            try clear c10
            try clear c11
            try clear c20
            try clear c29
            try clear c30
            try clear c31
            try clear c32
            try clear c33
            try clear c34
            try clear c35
            try clear c36
            try clear c37
            try clear c38
            try clear c39
            try clear c40
            try clear c41
            try clear c42
            try clear c44
            try clear c47
            try clear c50
            try clear c57
            try clear c57b0
            try clear c59
            try clear c60
            try clear c61
            try clear c63
            try clear c66
            try clear c67
            try clear c69
            try clear c72
            try clear c75
            try clear c75b0
            try clear c76
            try clear c76b0
            try clear c76b1
            try clear c81
            try clear c82
            try clear c87
            try clear c94
            try clear c95
            try clear c96
            try clear c100
            try clear c101
            try clear c102
            try clear c103
            try clear c105
            try clear c106
            try clear c109
            try clear c110
            try clear c111
            try clear c113
            try clear c114
            try clear hcz104_0
            try clear hcz104_1
            try clear hcz104_2
            try clear hcz104_3
            try clear hcz104_4
            try clear hcz107_0
            try clear hcz107_1
            try clear hcz107_2
            try clear hcz107_3
            try clear hcz107_4
            try clear hcz112_0
            try clear hcz112_1
            try clear hcz112_2
            try clear hcz112_3
            try clear hcz112_4
            try clear hcz115_0
            try clear hcz115_1
            try clear hcz115_2
            try clear hcz115_3
            try clear hcz115_4
            try clear hcz14_0
            try clear hcz14_1
            try clear hcz14_2
            try clear hcz14_3
            try clear hcz21_0
            try clear hcz21_1
            try clear hcz21_2
            try clear hcz21_3
            try clear hcz21_4
            try clear hcz24_0
            try clear hcz24_1
            try clear hcz24_2
            try clear hcz24_3
            try clear hcz31_0
            try clear hcz31_1
            try clear hcz31_2
            try clear hcz31_3
            try clear hcz31_4
            try clear hcz37_0
            try clear hcz37_1
            try clear hcz37_2
            try clear hcz37_3
            try clear hcz37_4
            try clear hcz39_0
            try clear hcz39_1
            try clear hcz39_2
            try clear hcz39_3
            try clear hcz39_4
            try clear hcz43_0
            try clear hcz43_1
            try clear hcz43_2
            try clear hcz43_3
            try clear hcz43_4
            try clear hcz45_0
            try clear hcz45_1
            try clear hcz45_2
            try clear hcz45_3
            try clear hcz45_4
            try clear hcz62_0
            try clear hcz62_1
            try clear hcz62_2
            try clear hcz62_3
            try clear hcz62_4
            try clear hcz64_0
            try clear hcz64_1
            try clear hcz64_2
            try clear hcz64_3
            try clear hcz64_4
            try clear hcz68_0
            try clear hcz68_1
            try clear hcz68_2
            try clear hcz68_3
            try clear hcz68_4
            try clear hcz70_0
            try clear hcz70_1
            try clear hcz70_2
            try clear hcz70_3
            try clear hcz70_4
            try clear hcz83_0
            try clear hcz83_1
            try clear hcz83_2
            try clear hcz83_3
            try clear hcz83_4
            try clear hcz85_0
            try clear hcz85_1
            try clear hcz85_2
            try clear hcz85_3
            try clear hcz85_4
            try clear hcz88_0
            try clear hcz88_1
            try clear hcz88_2
            try clear hcz88_3
            try clear hcz97_0
            try clear hcz97_1
            try clear hcz97_2
            try clear hcz97_3
            try clear hcz97_4
            try clear hfz104_0
            try clear hfz104_1
            try clear hfz104_2
            try clear hfz104_3
            try clear hfz104_4
            try clear hfz107_0
            try clear hfz107_1
            try clear hfz107_2
            try clear hfz107_3
            try clear hfz107_4
            try clear hfz112_0
            try clear hfz112_1
            try clear hfz112_2
            try clear hfz112_3
            try clear hfz112_4
            try clear hfz115_0
            try clear hfz115_1
            try clear hfz115_2
            try clear hfz115_3
            try clear hfz115_4
            try clear hfz14_0
            try clear hfz14_1
            try clear hfz14_2
            try clear hfz14_3
            try clear hfz21_0
            try clear hfz21_1
            try clear hfz21_2
            try clear hfz21_3
            try clear hfz21_4
            try clear hfz24_0
            try clear hfz24_1
            try clear hfz24_2
            try clear hfz24_3
            try clear hfz31_0
            try clear hfz31_1
            try clear hfz31_2
            try clear hfz31_3
            try clear hfz31_4
            try clear hfz37_0
            try clear hfz37_1
            try clear hfz37_2
            try clear hfz37_3
            try clear hfz37_4
            try clear hfz39_0
            try clear hfz39_1
            try clear hfz39_2
            try clear hfz39_3
            try clear hfz39_4
            try clear hfz43_0
            try clear hfz43_1
            try clear hfz43_2
            try clear hfz43_3
            try clear hfz43_4
            try clear hfz45_0
            try clear hfz45_1
            try clear hfz45_2
            try clear hfz45_3
            try clear hfz45_4
            try clear hfz62_0
            try clear hfz62_1
            try clear hfz62_2
            try clear hfz62_3
            try clear hfz62_4
            try clear hfz64_0
            try clear hfz64_1
            try clear hfz64_2
            try clear hfz64_3
            try clear hfz64_4
            try clear hfz68_0
            try clear hfz68_1
            try clear hfz68_2
            try clear hfz68_3
            try clear hfz68_4
            try clear hfz70_0
            try clear hfz70_1
            try clear hfz70_2
            try clear hfz70_3
            try clear hfz70_4
            try clear hfz83_0
            try clear hfz83_1
            try clear hfz83_2
            try clear hfz83_3
            try clear hfz83_4
            try clear hfz85_0
            try clear hfz85_1
            try clear hfz85_2
            try clear hfz85_3
            try clear hfz85_4
            try clear hfz88_0
            try clear hfz88_1
            try clear hfz88_2
            try clear hfz88_3
            try clear hfz97_0
            try clear hfz97_1
            try clear hfz97_2
            try clear hfz97_3
            try clear hfz97_4
            try clear p2
            obtain ⟨kq, x95_79, rfl, HA, HJ79, HO_246004, HO_262004, HO_289004, BK228, BK245, BK261, BK288, HB⟩ := hcut
            have hl262004_79 := (Kd.R_reads' HO_262004.out).1
            rw [hl262004_79] at HO_262004
            (try simp only [hl262004_79])
            (try simp only [hl262004_79] at BK228)
            (try simp only [hl262004_79] at BK245)
            (try simp only [hl262004_79] at BK261)
            (try simp only [hl262004_79] at BK288)
            (try simp only [hl262004_79] at HO_246004)
            (try simp only [hl262004_79] at HO_289004)
            cases kq with
            | zero => exact absurd HA.out (by simp [laws_FnExactMaskBy.j2])
            | succ kj79 =>
             have H := HA.out; clear HA
             simp only [laws_FnExactMaskBy.j2] at H
             by_cases c117 : x95_79 = true
             ·subst c117
              have H1 : (some false) = some r := by rw [if_pos rfl] at H; exact H
              clear H; have H := H1; clear H1
              obtain rfl := Option.some.inj H
              exact absurd hT Bool.false_ne_true
             ·replace c117 := Bool.eq_false_iff.mpr c117
              subst c117
              have H1 : ((laws_heldMask.f kj79 t253 t254 t255 t256 t271 1).bind fun t290 => (if t290 < 0 then (some false) else (if t290 = t270 then (some true) else (some false)))) = some r := by rw [if_neg (show ¬ (false = true) by decide)] at H; exact H
              clear H; have H := H1; clear H1
              replace H := Option.bind_eq_some_iff.mp H
              obtain ⟨t290, A1180, H⟩ := H
              replace H : (if t290 < 0 then (some false) else (if t290 = t270 then (some true) else (some false))) = some r := H
              have A118 := Aside0.mk A1180
              clear A1180
              by_cases c119 : t290 < 0
              ·rw [if_pos c119] at H
               have c119b0 : decide (t290 < 0) = true := decide_eq_true c119
               clear c119
               obtain rfl := Option.some.inj H
               exact absurd hT Bool.false_ne_true
              ·rw [if_neg c119] at H
               have c119b0 : decide (t290 < 0) = false := decide_eq_false c119
               clear c119
               by_cases c120 : t290 = t270
               ·rw [if_pos c120] at H
                have c120b0 : (t290 == t270) = true := beq_iff_eq.mpr c120
                have c120b1 : (t290 != t270) = false := bne_eq_false_iff_eq.mpr c120
                clear c120
                obtain rfl := Option.some.inj H
                simp only [Option.some.injEq, Prod.mk.injEq] at H
                obtain ⟨rfl⟩ := H
                have hnb121 := NB261_228.out; have hnc121 := NB228_261.out; have hnb122 := NB261_245.out; have hnc122 := NB245_261.out; have hnb123 := NB261_288.out; have hnc123 := NB288_261.out
                have hcz124_0 : wc.cell? ⟨gb261, 0, none⟩ = some (.int .i64 t253) := (blk_cell BK261.out 0).trans rfl
                have hcz124_1 : wc.cell? ⟨gb261, 1, none⟩ = some (.int .i64 t254) := (blk_cell BK261.out 1).trans rfl
                have hcz124_2 : wc.cell? ⟨gb261, 2, none⟩ = some (.int .i64 t255) := (blk_cell BK261.out 2).trans rfl
                have hcz124_3 : wc.cell? ⟨gb261, 3, none⟩ = some (.int .i64 t256) := (blk_cell BK261.out 3).trans rfl
                have hcz124_4 : wc.cell? ⟨gb261, 4, none⟩ = some (.slice Ao32 t271.length co32) := (blk_cell BK261.out 4).trans rfl
                have hfz124_0 := blk_frozen BK261.out 0
                have hfz124_1 := blk_frozen BK261.out 1
                have hfz124_2 := blk_frozen BK261.out 2
                have hfz124_3 := blk_frozen BK261.out 3
                have hfz124_4 := blk_frozen BK261.out 4
                go_wp2_with (first | ((with_reducible refine gate_callee (f := 40) rfl ?_); refine goesL_ (some 98) rfl rfl Try.func40 (by kernel_rfl) rfl #[.agg #[.int .i64 t253, .int .i64 t254, .int .i64 t255, .int .i64 t256, .slice Ao32 t271.length co32], .int .i64 1] rfl z12_2 ?_; (with_reducible refine (laws_heldMask.calls kj79 t253 t254 t255 t256 _ _ t271 1 t290 _ ?side1 ?side2 A118.out).mono ?_); (case side1 => repeat (first | exact (Kd.R_reads' HO_262004.out).2.2 | (with_reducible refine Kd.C_alloc ?_ _) | (with_reducible refine Kd.C_drewN ?_ _) | (with_reducible refine Kd.C_drew ?_))); (case side2 => exact (Kd.R_reads' HO_262004.out).2.1); rintro e w125 ⟨rfl, hb⟩; refine ⟨_, rfl, ?_⟩; have n0_ := Aside0.mk (Kd.R_below z12_13 hb); have n1_ := Aside0.mk (Kd.R_below z12_14 hb); have n2_ := Aside0.mk (Kd.R_below (by (with_reducible repeat (first | apply Kd.R_alloc | apply Kd.R_drewN | apply Kd.R_drew)); exact HO_289004.out) hb); have n3_ := Aside0.mk (blk_below (g := gb228) (o := .cells #[.int .i64 a0_0, .int .i64 a0_1, .int .i64 a0_2, .int .i64 a0_3] 48 (0, 0)) z12_1 hb); have n4_ := Aside0.mk (blk_below (g := gb245) (o := .cells #[.int .i64 t237, .int .i64 t238, .int .i64 t239, .int .i64 t240, .slice Ao22 t241.length co22] 52 (0, 0)) z12_3 hb); have n5_ := Aside0.mk (blk_below (g := gb261) (o := .cells #[.int .i64 t253, .int .i64 t254, .int .i64 t255, .int .i64 t256, .slice Ao32 t271.length co32] 52 (0, 0)) z12_9 hb); have n6_ := Aside0.mk (blk_below (g := gb288) (o := .cells #[.int .i64 t280, .int .i64 t281, .int .i64 t282, .int .i64 t283, .slice Ao98 t284.length co98] 52 (0, 0)) (by (with_reducible repeat (first | refine blk_drewN ?_ _ | refine blk_drew ?_ | refine blk_alloc ?_ _)); exact BK288.out) hb); have n7_ := Aside0.mk (below_step z12_26 hb); clear HO_246004; clear HO_262004; clear HO_289004; clear BK228; clear BK245; clear BK261; clear BK288; clear HB; have HO_246004 := n0_; have HO_262004 := n1_; have HO_289004 := n2_; have BK228 := n3_; have BK245 := n4_; have BK261 := n5_; have BK288 := n6_; have HB := n7_; clear n0_ n1_ n2_ n3_ n4_ n5_ n6_ n7_; (try clear hb); (try clear hb2); (try clear hk); (try clear hi)))
                go_ret
                exact ⟨by first | rfl | (simp [errW_none, errW_some] <;> rfl) | (simp [*, errW_none, errW_some] <;> rfl), by repeat (first | (with_reducible first | exact HB.out | apply below_alloc | apply pw_below_drewN | apply below_drew1 | refine below_set ?_ GE228.out | refine below_set ?_ GE245.out | refine below_set ?_ GE261.out | refine below_set ?_ GE288.out) | exact HB.out)⟩
               ·rw [if_neg c120] at H
                have c120b0 : (t290 == t270) = false := beq_eq_false_iff_ne.mpr c120
                have c120b1 : (t290 != t270) = true := bne_iff_ne.mpr c120
                obtain rfl := Option.some.inj H
                exact absurd hT Bool.false_ne_true
          ·rw [if_neg c76] at H
           have c76b0 : (t272 == t270) = false := beq_eq_false_iff_ne.mpr c76
           have c76b1 : (t272 != t270) = true := bne_iff_ne.mpr c76
           obtain rfl := Option.some.inj H
           exact absurd hT Bool.false_ne_true
     ·replace c50 := Bool.eq_false_iff.mpr c50
      subst c50
      have H1 : (some false) = some r := by rw [if_neg (show ¬ (false = true) by decide)] at H; exact H
      clear H; have H := H1; clear H1
      obtain rfl := Option.some.inj H
      exact absurd hT Bool.false_ne_true

end Go.Proofs.Ytgdlbilpfmjeaaa.MFnExactMaskBy
