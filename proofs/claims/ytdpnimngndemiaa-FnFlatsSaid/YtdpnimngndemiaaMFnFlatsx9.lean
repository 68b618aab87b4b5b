/- Functions of the program as Lean functions, and the proof that a call comes to just these: machine text of this session's own program (myprint.py). -/
import Derived.Test.YtdpnimngndemiaaMFnFlatsx0
import Derived.Test.YtdpnimngndemiaaMFnFlatsx1
import Derived.Test.YtdpnimngndemiaaMFnFlatsx6
import Derived.Test.YtdpnimngndemiaaMFnFlatsx8
namespace Go.Proofs.Ytdpnimngndemiaa.MFnFlats
open Go.RowKit Go.Proofs.YtdpnimngndemiaaW.PrintWords Go.Proofs.YtdpnimngndemiaaW.PrintLast Go.Proofs.YtdpnimngndemiaaW.PrintMore
attribute [local go_sem] max2_int min2_int max_two min_two max_three min_three max_four min_four   -- for this text's walks alone
set_option linter.unusedVariables false
set_option linter.unusedSimpArgs false

attribute [local go_sem high] eqA46
def y9_0 : Array Bool := (bA 19 0)
def y9_1 : Array Bool := (bA 11 0)
def y9_3 : Array Bool := (bA 19 1)
def y9_4 : Array Bool := (bA 11 1)
def y9_6 : Array Bool := (bA 19 3)
def y9_7 : Array Bool := (bA 11 3)
def y9_9 : Array Bool := (bA 19 35)
def y9_10 : Array Bool := (bA 19 99)
def y9_11 : Array Bool := (bA 19 355)
def y9_12 : Array Bool := (bA 19 867)
def y9_13 : Array Bool := (bA 11 7)
def y9_15 : Array Bool := (bA 19 871)
def y9_16 : Array Bool := (bA 11 23)
def y9_17 : Array Bool := (bA 11 87)
def y9_19 : Array Bool := (bA 19 879)
def y9_21 : Array Bool := (bA 11 95)
def y9_23 : Array Bool := (bA 11 127)
def y9_25 : Array Bool := (bA 19 895)
def y9_26 : Array Bool := (bA 11 255)
def y9_28 : Array Bool := (bA 11 511)
def y9_29 : Array Bool := (bA 19 1023)
def y9_30 : Array Bool := (bA 11 1023)
def y9_31 : Array Bool := (bA 19 2047)
def y9_32 : Array Bool := (bA 19 4095)
def y9_33 : Array Bool := (bA 19 8191)
def y9_34 : Array Bool := (bA 19 16383)
def y9_35 : Array Bool := (bA 19 32767)
def y9_36 : Array Bool := (bA 19 98303)
def y9_37 : Array Bool := (bA 19 65535)
def y9_38 : Array Bool := (bA 19 131071)
def y9_39 : Array Bool := (bA 19 262143)
def y9_40 : Array Bool := (bA 19 524287)
def y9_41 : Array Bool := (bA 11 2047)
theorem x9_put {P : Prop} (h : P := by simp only [Act.put, List.setIfInBounds_toArray, List.set_cons_zero, List.set_cons_succ, i64_w, i32_w]; rfl) : P := h
theorem z9_34 {P : Prop} (h : P := by repeat (first | (with_reducible first | exact HB.out | apply below_alloc | apply pw_below_drewN | apply below_drew1 | refine below_set ?_ GE276.out | refine below_set ?_ GE301.out | refine below_set ?_ GE302.out) | exact HB.out)) : P := h
theorem z9_35 {P : Prop} (h : P := by repeat (first | (with_reducible first | exact HB.out | apply below_alloc | apply pw_below_drewN | apply below_drew1 | refine below_set ?_ GE276.out) | exact HB.out)) : P := h
theorem z9_36 {P : Prop} (h : P := by repeat (first | (with_reducible exact HR296_0.out) | (with_reducible refine Kd.C_alloc ?_ _) | (with_reducible refine Kd.C_drewN ?_ _) | (with_reducible refine Kd.C_drew ?_) | exact HR296_0.out)) : P := h
theorem z9_37 {P : Prop} (h : P := by repeat (first | (with_reducible exact HR298_0.out) | (with_reducible refine Kd.C_alloc ?_ _) | (with_reducible refine Kd.C_drewN ?_ _) | (with_reducible refine Kd.C_drew ?_) | exact HR298_0.out)) : P := h
theorem z9_38 {P : Prop} (h : P := by first | (rw [hy_]; with_reducible exact H) | (have H2_ := (Option.bind_some _ _).symm.trans H; rw [hy_]; with_reducible exact H2_) | (have H2_ := (Option.bind_some _ _).symm.trans H; with_reducible exact H2_) | with_reducible exact H | (rw [hy_]; exact H) | exact H) : P := h
theorem z9_39 {P : Prop} (h : P := by first | exact Kd.own_blk (Kd.S_away HO_3.out (fun _ hk => hk.2.1)) | (rw [add_block]; exact Kd.own_blk (Kd.S_away HO_3.out (fun _ hk => hk.2.1))) | (show (Addr.add _ _).block ≠ _; rw [add_block]; exact Kd.own_blk (Kd.S_away HO_3.out (fun _ hk => hk.2.1))) | (dsimp only; exact Kd.own_blk (Kd.S_away HO_3.out (fun _ hk => hk.2.1)))) : P := h
theorem z9_40 {P : Prop} (h : P := by first | exact Kd.own_blk (Kd.S_away HO_3.out (fun _ hk => hk.2.2)) | (rw [add_block]; exact Kd.own_blk (Kd.S_away HO_3.out (fun _ hk => hk.2.2))) | (show (Addr.add _ _).block ≠ _; rw [add_block]; exact Kd.own_blk (Kd.S_away HO_3.out (fun _ hk => hk.2.2))) | (dsimp only; exact Kd.own_blk (Kd.S_away HO_3.out (fun _ hk => hk.2.2)))) : P := h
theorem z9_41 {P : Prop} (h : P := by repeat (first | (with_reducible exact HR299_0.out) | (with_reducible refine Kd.C_alloc ?_ _) | (with_reducible refine Kd.C_drewN ?_ _) | (with_reducible refine Kd.C_drew ?_) | exact HR299_0.out)) : P := h
theorem z9_42 {P : Prop} (h : P := by first | exact Kd.own_blk (Kd.R_away HL296_0.out (fun _ hk => hk.2.2.1)) | (rw [add_block]; exact Kd.own_blk (Kd.R_away HL296_0.out (fun _ hk => hk.2.2.1))) | (show (Addr.add _ _).block ≠ _; rw [add_block]; exact Kd.own_blk (Kd.R_away HL296_0.out (fun _ hk => hk.2.2.1))) | (dsimp only; exact Kd.own_blk (Kd.R_away HL296_0.out (fun _ hk => hk.2.2.1)))) : P := h
theorem z9_43 {P : Prop} (h : P := by first | exact Kd.own_blk (Kd.R_away HL298_0.out (fun _ hk => hk.2.2.1)) | (rw [add_block]; exact Kd.own_blk (Kd.R_away HL298_0.out (fun _ hk => hk.2.2.1))) | (show (Addr.add _ _).block ≠ _; rw [add_block]; exact Kd.own_blk (Kd.R_away HL298_0.out (fun _ hk => hk.2.2.1))) | (dsimp only; exact Kd.own_blk (Kd.R_away HL298_0.out (fun _ hk => hk.2.2.1)))) : P := h
theorem z9_44 {P : Prop} (h : P := by first | exact Kd.own_blk (Kd.R_away HL296_0.out (fun _ hk => hk.2.2.2)) | (rw [add_block]; exact Kd.own_blk (Kd.R_away HL296_0.out (fun _ hk => hk.2.2.2))) | (show (Addr.add _ _).block ≠ _; rw [add_block]; exact Kd.own_blk (Kd.R_away HL296_0.out (fun _ hk => hk.2.2.2))) | (dsimp only; exact Kd.own_blk (Kd.R_away HL296_0.out (fun _ hk => hk.2.2.2)))) : P := h
theorem z9_45 {P : Prop} (h : P := by first | exact Kd.own_blk (Kd.R_away HL298_0.out (fun _ hk => hk.2.2.2)) | (rw [add_block]; exact Kd.own_blk (Kd.R_away HL298_0.out (fun _ hk => hk.2.2.2))) | (show (Addr.add _ _).block ≠ _; rw [add_block]; exact Kd.own_blk (Kd.R_away HL298_0.out (fun _ hk => hk.2.2.2))) | (dsimp only; exact Kd.own_blk (Kd.R_away HL298_0.out (fun _ hk => hk.2.2.2)))) : P := h
theorem z9_46 {P : Prop} (h : P := by repeat (first | (with_reducible first | exact HB.out | apply below_alloc | apply pw_below_drewN | apply below_drew1 | refine below_set ?_ GE276.out | refine below_set ?_ GE301.out) | exact HB.out)) : P := h
theorem z9_47 {P : Prop} (h : P := by repeat (first | (with_reducible first | exact HB.out | apply below_alloc | apply pw_below_drewN | apply below_drew1 | refine below_set ?_ GE276.out | refine below_set ?_ GE302.out) | exact HB.out)) : P := h
theorem z9_48 {P : Prop} (h : P := by rw [hw_]; exact (by (with_reducible repeat (first | refine blk_drewN ?_ _ | refine blk_drew ?_ | refine blk_alloc ?_ _)); refine blk_put (cs := #[.int .i64 ((rd_T46 (rd_L2 x3_1 (ji25)) (ji29)).f0), .int .i64 0]) ?_ 1 _ rfl; (with_reducible repeat (first | refine blk_drewN ?_ _ | refine blk_drew ?_ | refine blk_alloc ?_ _)); refine blk_put (cs := #[.int .i64 0, .int .i64 0]) ?_ 0 _ rfl; (with_reducible repeat (first | refine blk_drewN ?_ _ | refine blk_drew ?_ | refine blk_alloc ?_ _)); refine blk_far ?_ NB302_301.out _; (with_reducible repeat (first | refine blk_drewN ?_ _ | refine blk_drew ?_ | refine blk_alloc ?_ _)); refine blk_far ?_ NB302_301.out _; (with_reducible repeat (first | refine blk_drewN ?_ _ | refine blk_drew ?_ | refine blk_alloc ?_ _)); exact BK302.out)) : P := h
theorem z9_49 {P : Prop} (h : P := by rw [hw_]; exact (by (with_reducible repeat (first | apply Kd.V_alloc | apply Kd.V_drewN | apply Kd.V_drew)); exact Kd.V_mono (Kd.V_far (p := ⟨gb302, 1, none⟩) (Kd.V_far (p := ⟨gb302, 0, none⟩) (Kd.V_far (p := ⟨gb301, 1, none⟩) (Kd.V_far (p := ⟨gb301, 0, none⟩) (Kd.V_mono (Kd.V_mono HO_277001.out (fun k_ hk => (⟨hk, hk.2.2.2.1⟩ : _ ∧ k_ ≠ gb301))) (fun k_ hk => (⟨hk, hk.1.2.2.2.2⟩ : _ ∧ k_ ≠ gb302))) (fun _ hk => hk.1.2) (.int .i64 ((rd_T46 (rd_L2 x3_1 (ji25)) 0).f0))) (fun _ hk => hk.1.2) (.int .i64 ((rd_T46 (rd_L2 x3_1 (ji25)) 0).f1))) (fun _ hk => hk.2) (.int .i64 ((rd_T46 (rd_L2 x3_1 (ji25)) (ji29)).f0))) (fun _ hk => hk.2) (.int .i64 ((rd_T46 (rd_L2 x3_1 (ji25)) (ji29)).f1))) (fun _ hk => ⟨hk.1.1.1, ⟨hk.1.1.2.1, ⟨hk.1.1.2.2.1, ⟨hk.1.1.2.2.2.1, hk.1.1.2.2.2.2⟩⟩⟩⟩))) : P := h
theorem z9_50 {P : Prop} (h : P := by rw [hw_]; exact (by (with_reducible repeat (first | refine blk_drewN ?_ _ | refine blk_drew ?_ | refine blk_alloc ?_ _)); refine blk_far ?_ NB301_302.out _; (with_reducible repeat (first | refine blk_drewN ?_ _ | refine blk_drew ?_ | refine blk_alloc ?_ _)); refine blk_far ?_ NB301_302.out _; (with_reducible repeat (first | refine blk_drewN ?_ _ | refine blk_drew ?_ | refine blk_alloc ?_ _)); refine blk_put (cs := #[.int .i64 ((rd_T46 (rd_L2 x3_1 (ji25)) 0).f0), .int .i64 0]) ?_ 1 _ rfl; (with_reducible repeat (first | refine blk_drewN ?_ _ | refine blk_drew ?_ | refine blk_alloc ?_ _)); refine blk_put (cs := #[.int .i64 0, .int .i64 0]) ?_ 0 _ rfl; (with_reducible repeat (first | refine blk_drewN ?_ _ | refine blk_drew ?_ | refine blk_alloc ?_ _)); exact BK301.out)) : P := h
theorem z9_51 {P : Prop} (h : P := by rw [hw_]; exact (by (with_reducible repeat (first | apply Kd.V_alloc | apply Kd.V_drewN | apply Kd.V_drew)); exact Kd.V_mono (Kd.V_far (p := ⟨gb302, 1, none⟩) (Kd.V_far (p := ⟨gb302, 0, none⟩) (Kd.V_far (p := ⟨gb301, 1, none⟩) (Kd.V_far (p := ⟨gb301, 0, none⟩) (Kd.V_mono (Kd.V_mono HO284.out (fun k_ hk => (⟨hk, hk.2.2.2.1⟩ : _ ∧ k_ ≠ gb301))) (fun k_ hk => (⟨hk, hk.1.2.2.2.2⟩ : _ ∧ k_ ≠ gb302))) (fun _ hk => hk.1.2) (.int .i64 ((rd_T46 (rd_L2 x3_1 (ji25)) 0).f0))) (fun _ hk => hk.1.2) (.int .i64 ((rd_T46 (rd_L2 x3_1 (ji25)) 0).f1))) (fun _ hk => hk.2) (.int .i64 ((rd_T46 (rd_L2 x3_1 (ji25)) (ji29)).f0))) (fun _ hk => hk.2) (.int .i64 ((rd_T46 (rd_L2 x3_1 (ji25)) (ji29)).f1))) (fun _ hk => ⟨hk.1.1.1, ⟨hk.1.1.2.1, ⟨hk.1.1.2.2.1, ⟨hk.1.1.2.2.2.1, hk.1.1.2.2.2.2⟩⟩⟩⟩))) : P := h
theorem z9_52 {P : Prop} (h : P := by rw [hw_]; exact (by (with_reducible repeat (first | apply Kd.V_alloc | apply Kd.V_drewN | apply Kd.V_drew)); exact Kd.V_mono (Kd.V_far (p := ⟨gb302, 1, none⟩) (Kd.V_far (p := ⟨gb302, 0, none⟩) (Kd.V_far (p := ⟨gb301, 1, none⟩) (Kd.V_far (p := ⟨gb301, 0, none⟩) (Kd.V_mono (Kd.V_mono HO289.out (fun k_ hk => (⟨hk, hk.2.2.2.1⟩ : _ ∧ k_ ≠ gb301))) (fun k_ hk => (⟨hk, hk.1.2.2.2.2⟩ : _ ∧ k_ ≠ gb302))) (fun _ hk => hk.1.2) (.int .i64 ((rd_T46 (rd_L2 x3_1 (ji25)) 0).f0))) (fun _ hk => hk.1.2) (.int .i64 ((rd_T46 (rd_L2 x3_1 (ji25)) 0).f1))) (fun _ hk => hk.2) (.int .i64 ((rd_T46 (rd_L2 x3_1 (ji25)) (ji29)).f0))) (fun _ hk => hk.2) (.int .i64 ((rd_T46 (rd_L2 x3_1 (ji25)) (ji29)).f1))) (fun _ hk => ⟨hk.1.1.1, ⟨hk.1.1.2.1, ⟨hk.1.1.2.2.1, ⟨hk.1.1.2.2.2.1, hk.1.1.2.2.2.2⟩⟩⟩⟩))) : P := h
theorem z9_53 {P : Prop} (h : P := by rw [hw_]; exact (by (with_reducible repeat (first | apply Kd.V_alloc | apply Kd.V_drewN | apply Kd.V_drew)); exact Kd.V_mono (Kd.V_far (p := ⟨gb302, 1, none⟩) (Kd.V_far (p := ⟨gb302, 0, none⟩) (Kd.V_far (p := ⟨gb301, 1, none⟩) (Kd.V_far (p := ⟨gb301, 0, none⟩) (Kd.V_mono (Kd.V_mono HO_4.out (fun k_ hk => (⟨hk, hk.2.2.2.1⟩ : _ ∧ k_ ≠ gb301))) (fun k_ hk => (⟨hk, hk.1.2.2.2.2⟩ : _ ∧ k_ ≠ gb302))) (fun _ hk => hk.1.2) (.int .i64 ((rd_T46 (rd_L2 x3_1 (ji25)) 0).f0))) (fun _ hk => hk.1.2) (.int .i64 ((rd_T46 (rd_L2 x3_1 (ji25)) 0).f1))) (fun _ hk => hk.2) (.int .i64 ((rd_T46 (rd_L2 x3_1 (ji25)) (ji29)).f0))) (fun _ hk => hk.2) (.int .i64 ((rd_T46 (rd_L2 x3_1 (ji25)) (ji29)).f1))) (fun _ hk => ⟨hk.1.1.1, ⟨hk.1.1.2.1, ⟨hk.1.1.2.2.1, ⟨hk.1.1.2.2.2.1, hk.1.1.2.2.2.2⟩⟩⟩⟩))) : P := h
theorem z9_54 {P : Prop} (h : P := by rw [hw_]; exact (by (with_reducible repeat (first | apply Kd.R_alloc | apply Kd.R_drewN | apply Kd.R_drew)); exact Kd.R_mono (Kd.R_far (p := ⟨gb302, 1, none⟩) (Kd.R_far (p := ⟨gb302, 0, none⟩) (Kd.R_far (p := ⟨gb301, 1, none⟩) (Kd.R_far (p := ⟨gb301, 0, none⟩) (Kd.R_mono (Kd.R_mono HL296_0.out (fun k_ hk => (⟨hk, hk.2.2.1⟩ : _ ∧ k_ ≠ gb301))) (fun k_ hk => (⟨hk, hk.1.2.2.2⟩ : _ ∧ k_ ≠ gb302))) (fun _ hk => hk.1.2) (.int .i64 ((rd_T46 (rd_L2 x3_1 (ji25)) 0).f0))) (fun _ hk => hk.1.2) (.int .i64 ((rd_T46 (rd_L2 x3_1 (ji25)) 0).f1))) (fun _ hk => hk.2) (.int .i64 ((rd_T46 (rd_L2 x3_1 (ji25)) (ji29)).f0))) (fun _ hk => hk.2) (.int .i64 ((rd_T46 (rd_L2 x3_1 (ji25)) (ji29)).f1))) (fun _ hk => ⟨hk.1.1.1, ⟨hk.1.1.2.1, ⟨hk.1.1.2.2.1, hk.1.1.2.2.2⟩⟩⟩))) : P := h
theorem z9_55 {P : Prop} (h : P := by rw [hw_]; exact (by (with_reducible repeat (first | apply Kd.R_alloc | apply Kd.R_drewN | apply Kd.R_drew)); exact Kd.R_mono (Kd.R_far (p := ⟨gb302, 1, none⟩) (Kd.R_far (p := ⟨gb302, 0, none⟩) (Kd.R_far (p := ⟨gb301, 1, none⟩) (Kd.R_far (p := ⟨gb301, 0, none⟩) (Kd.R_mono (Kd.R_mono HL298_0.out (fun k_ hk => (⟨hk, hk.2.2.1⟩ : _ ∧ k_ ≠ gb301))) (fun k_ hk => (⟨hk, hk.1.2.2.2⟩ : _ ∧ k_ ≠ gb302))) (fun _ hk => hk.1.2) (.int .i64 ((rd_T46 (rd_L2 x3_1 (ji25)) 0).f0))) (fun _ hk => hk.1.2) (.int .i64 ((rd_T46 (rd_L2 x3_1 (ji25)) 0).f1))) (fun _ hk => hk.2) (.int .i64 ((rd_T46 (rd_L2 x3_1 (ji25)) (ji29)).f0))) (fun _ hk => hk.2) (.int .i64 ((rd_T46 (rd_L2 x3_1 (ji25)) (ji29)).f1))) (fun _ hk => ⟨hk.1.1.1, ⟨hk.1.1.2.1, ⟨hk.1.1.2.2.1, hk.1.1.2.2.2⟩⟩⟩))) : P := h
theorem z9_56 {P : Prop} (h : P := by rw [hw_]; exact (by (with_reducible repeat (first | apply Kd.R_alloc | apply Kd.R_drewN | apply Kd.R_drew)); exact Kd.R_mono (Kd.R_far (p := ⟨gb302, 1, none⟩) (Kd.R_far (p := ⟨gb302, 0, none⟩) (Kd.R_far (p := ⟨gb301, 1, none⟩) (Kd.R_far (p := ⟨gb301, 0, none⟩) (Kd.R_mono (Kd.R_mono HL299_0.out (fun k_ hk => (⟨hk, hk.2.2.1⟩ : _ ∧ k_ ≠ gb301))) (fun k_ hk => (⟨hk, hk.1.2.2.2⟩ : _ ∧ k_ ≠ gb302))) (fun _ hk => hk.1.2) (.int .i64 ((rd_T46 (rd_L2 x3_1 (ji25)) 0).f0))) (fun _ hk => hk.1.2) (.int .i64 ((rd_T46 (rd_L2 x3_1 (ji25)) 0).f1))) (fun _ hk => hk.2) (.int .i64 ((rd_T46 (rd_L2 x3_1 (ji25)) (ji29)).f0))) (fun _ hk => hk.2) (.int .i64 ((rd_T46 (rd_L2 x3_1 (ji25)) (ji29)).f1))) (fun _ hk => ⟨hk.1.1.1, ⟨hk.1.1.2.1, ⟨hk.1.1.2.2.1, hk.1.1.2.2.2⟩⟩⟩))) : P := h
theorem z9_57 {P : Prop} (h : P := by rw [hw_]; exact (by (with_reducible repeat (first | apply Kd.S_alloc | apply Kd.S_drewN | apply Kd.S_drew)); exact Kd.S_mono (Kd.S_far (p := ⟨gb302, 1, none⟩) (Kd.S_far (p := ⟨gb302, 0, none⟩) (Kd.S_far (p := ⟨gb301, 1, none⟩) (Kd.S_far (p := ⟨gb301, 0, none⟩) (Kd.S_mono (Kd.S_mono HO_3.out (fun k_ hk => (⟨hk, hk.2.1⟩ : _ ∧ k_ ≠ gb301))) (fun k_ hk => (⟨hk, hk.1.2.2⟩ : _ ∧ k_ ≠ gb302))) (fun _ hk => hk.1.2) (.int .i64 ((rd_T46 (rd_L2 x3_1 (ji25)) 0).f0))) (fun _ hk => hk.1.2) (.int .i64 ((rd_T46 (rd_L2 x3_1 (ji25)) 0).f1))) (fun _ hk => hk.2) (.int .i64 ((rd_T46 (rd_L2 x3_1 (ji25)) (ji29)).f0))) (fun _ hk => hk.2) (.int .i64 ((rd_T46 (rd_L2 x3_1 (ji25)) (ji29)).f1))) (fun _ hk => ⟨hk.1.1.1, ⟨hk.1.1.2.1, hk.1.1.2.2⟩⟩))) : P := h
theorem z9_58 {P : Prop} (h : P := by rw [hw_]; exact (by (with_reducible repeat (first | refine blk_drewN ?_ _ | refine blk_drew ?_ | refine blk_alloc ?_ _)); refine blk_far ?_ NB276_302.out _; (with_reducible repeat (first | refine blk_drewN ?_ _ | refine blk_drew ?_ | refine blk_alloc ?_ _)); refine blk_far ?_ NB276_302.out _; (with_reducible repeat (first | refine blk_drewN ?_ _ | refine blk_drew ?_ | refine blk_alloc ?_ _)); refine blk_far ?_ NB276_301.out _; (with_reducible repeat (first | refine blk_drewN ?_ _ | refine blk_drew ?_ | refine blk_alloc ?_ _)); refine blk_far ?_ NB276_301.out _; (with_reducible repeat (first | refine blk_drewN ?_ _ | refine blk_drew ?_ | refine blk_alloc ?_ _)); exact BK276.out)) : P := h
theorem z9_59 {P : Prop} (h : P := by (try simp only [List.map_toArray, List.map_cons, List.map_nil]); first | done | rfl | (simp only [List.length_drop, List.length_take]; rfl)) : P := h
theorem z9_60 {P : Prop} (h : P := by repeat (first | (with_reducible first | exact HB.out | apply below_alloc | apply pw_below_drewN | apply below_drew1) | exact HB.out)) : P := h
theorem z9_61 {P : Prop} (h : P := by repeat (first | exact (Kd.V_reads' HO284.out).2.2 | (with_reducible refine Kd.C_alloc ?_ _) | (with_reducible refine Kd.C_drewN ?_ _) | (with_reducible refine Kd.C_drew ?_))) : P := h
theorem z9_62 {P : Prop} (h : P := by first | (rw [add_block]; exact Kd.S_lt HO_3.out _ rfl) | (show (Addr.add _ _).block < _; rw [add_block]; exact Kd.S_lt HO_3.out _ rfl) | exact Kd.S_lt HO_3.out _ rfl) : P := h
theorem z9_63 {P : Prop} (h : P := by simp only [putAll, Act.put, List.setIfInBounds_toArray, List.set_cons_zero, List.set_cons_succ]) : P := h
theorem z9_64 {P : Prop} (h : P := by repeat (first | (with_reducible first | exact HB.out | apply below_alloc | apply pw_below_drewN | apply below_drew1 | refine below_set ?_ GE276.out | refine below_set ?_ GE302.out | refine below_set ?_ GE301.out) | exact HB.out)) : P := h
theorem z9_65 {P : Prop} (h : P := by (with_reducible repeat (first | apply Kd.V_alloc | apply Kd.V_drewN | apply Kd.V_drew)); exact Kd.V_mono HO_277001.out (fun _ hk => ⟨hk.1.1.1, ⟨hk.1.1.2.1, ⟨hk.1.1.2.2, ⟨hk.1.2, hk.2⟩⟩⟩⟩)) : P := h
theorem z9_66 {P : Prop} (h : P := by (with_reducible repeat (first | apply Kd.V_alloc | apply Kd.V_drewN | apply Kd.V_drew)); exact Kd.V_mono HO_277001.out (fun _ hk => ⟨hk.1.1.1, ⟨hk.1.1.2.1, ⟨hk.1.1.2.2, ⟨hk.2, hk.1.2⟩⟩⟩⟩)) : P := h
theorem z9_67 {P : Prop} (h : P := by (with_reducible repeat (first | apply Kd.V_alloc | apply Kd.V_drewN | apply Kd.V_drew)); exact Kd.V_mono HO284.out (fun _ hk => ⟨hk.1.1.1, ⟨hk.1.1.2.1, ⟨hk.1.1.2.2, ⟨hk.1.2, hk.2⟩⟩⟩⟩)) : P := h
theorem z9_68 {P : Prop} (h : P := by (with_reducible repeat (first | apply Kd.V_alloc | apply Kd.V_drewN | apply Kd.V_drew)); exact Kd.V_mono HO289.out (fun _ hk => ⟨hk.1.1.1, ⟨hk.1.1.2.1, ⟨hk.1.1.2.2, ⟨hk.1.2, hk.2⟩⟩⟩⟩)) : P := h
theorem z9_69 {P : Prop} (h : P := by (with_reducible repeat (first | apply Kd.V_alloc | apply Kd.V_drewN | apply Kd.V_drew)); exact Kd.V_mono HO284.out (fun _ hk => ⟨hk.1.1.1, ⟨hk.1.1.2.1, ⟨hk.1.1.2.2, ⟨hk.2, hk.1.2⟩⟩⟩⟩)) : P := h
theorem z9_70 {P : Prop} (h : P := by (with_reducible repeat (first | apply Kd.V_alloc | apply Kd.V_drewN | apply Kd.V_drew)); exact Kd.V_mono HO289.out (fun _ hk => ⟨hk.1.1.1, ⟨hk.1.1.2.1, ⟨hk.1.1.2.2, ⟨hk.2, hk.1.2⟩⟩⟩⟩)) : P := h
theorem z9_71 {P : Prop} (h : P := by (with_reducible repeat (first | apply Kd.V_alloc | apply Kd.V_drewN | apply Kd.V_drew)); exact Kd.V_mono HO_4.out (fun _ hk => ⟨hk.1.1.1, ⟨hk.1.1.2.1, ⟨hk.1.1.2.2, ⟨hk.1.2, hk.2⟩⟩⟩⟩)) : P := h
theorem z9_72 {P : Prop} (h : P := by (with_reducible repeat (first | apply Kd.V_alloc | apply Kd.V_drewN | apply Kd.V_drew)); exact Kd.V_mono HO_4.out (fun _ hk => ⟨hk.1.1.1, ⟨hk.1.1.2.1, ⟨hk.1.1.2.2, ⟨hk.2, hk.1.2⟩⟩⟩⟩)) : P := h
theorem z9_73 {P : Prop} (h : P := by (try simp only [List.map_toArray, List.map_cons, List.map_nil]); first | done | (simp only [hji25, hji29]; rfl) | rfl | (simp only [List.length_drop, List.length_take]; rfl)) : P := h
theorem z9_74 {P : Prop} (h : P := by (with_reducible repeat (first | apply Kd.R_alloc | apply Kd.R_drewN | apply Kd.R_drew)); exact Kd.R_mono HL296_0.out (fun _ hk => ⟨hk.1.1.1, ⟨hk.1.1.2, ⟨hk.1.2, hk.2⟩⟩⟩)) : P := h
theorem z9_75 {P : Prop} (h : P := by (with_reducible repeat (first | apply Kd.R_alloc | apply Kd.R_drewN | apply Kd.R_drew)); exact Kd.R_mono HL298_0.out (fun _ hk => ⟨hk.1.1.1, ⟨hk.1.1.2, ⟨hk.1.2, hk.2⟩⟩⟩)) : P := h
theorem z9_76 {P : Prop} (h : P := by (with_reducible repeat (first | apply Kd.R_alloc | apply Kd.R_drewN | apply Kd.R_drew)); exact Kd.R_mono HL299_0.out (fun _ hk => ⟨hk.1.1.1, ⟨hk.1.1.2, ⟨hk.1.2, hk.2⟩⟩⟩)) : P := h
theorem z9_77 {P : Prop} (h : P := by (with_reducible repeat (first | apply Kd.R_alloc | apply Kd.R_drewN | apply Kd.R_drew)); exact Kd.R_mono HL296_0.out (fun _ hk => ⟨hk.1.1.1, ⟨hk.1.1.2, ⟨hk.2, hk.1.2⟩⟩⟩)) : P := h
theorem z9_78 {P : Prop} (h : P := by (with_reducible repeat (first | apply Kd.R_alloc | apply Kd.R_drewN | apply Kd.R_drew)); exact Kd.R_mono HL298_0.out (fun _ hk => ⟨hk.1.1.1, ⟨hk.1.1.2, ⟨hk.2, hk.1.2⟩⟩⟩)) : P := h
theorem z9_79 {P : Prop} (h : P := by (with_reducible repeat (first | apply Kd.R_alloc | apply Kd.R_drewN | apply Kd.R_drew)); exact Kd.R_mono HL299_0.out (fun _ hk => ⟨hk.1.1.1, ⟨hk.1.1.2, ⟨hk.2, hk.1.2⟩⟩⟩)) : P := h
theorem z9_80 {P : Prop} (h : P := by (with_reducible repeat (first | apply Kd.S_alloc | apply Kd.S_drewN | apply Kd.S_drew)); exact Kd.S_mono HO_3.out (fun _ hk => ⟨hk.1.1, ⟨hk.1.2, hk.2⟩⟩)) : P := h
theorem z9_81 {P : Prop} (h : P := by (with_reducible repeat (first | apply Kd.S_alloc | apply Kd.S_drewN | apply Kd.S_drew)); exact Kd.S_mono HO_3.out (fun _ hk => ⟨hk.1.1, ⟨hk.2, hk.1.2⟩⟩)) : P := h
theorem z9_82 {P : Prop} (h : P := by first | exact q296 | exact of_decide_eq_true (by first | (with_reducible assumption) | assumption) | (have e_ := (Kd.S_reads' HO_3.out).1; omega)) : P := h
theorem z9_83 {P : Prop} (h : P := by first | exact q298 | exact of_decide_eq_true (by first | (with_reducible assumption) | assumption) | (have e_ := (Kd.S_reads' HO_3.out).1; omega)) : P := h
theorem z9_84 {P : Prop} (h : P := by first | exact q299 | exact of_decide_eq_true (by first | (with_reducible assumption) | assumption) | (have e_ := (Kd.S_reads' HO_3.out).1; omega)) : P := h
theorem z9_85 {P : Prop} (h : P := by repeat (first | (with_reducible first | exact HB.out | apply below_alloc | apply pw_below_drewN | apply below_drew1 | refine below_set ?_ GB56.out | refine below_set ?_ GE276.out | refine below_set ?_ GE301.out | refine below_set ?_ GE302.out) | exact HB.out)) : P := h
theorem z9_86 {P : Prop} (h : P := by (with_reducible repeat (first | refine blk_drewN ?_ _ | refine blk_drew ?_ | refine blk_alloc ?_ _)); refine blk_far ?_ HNB276_go56.out _; (with_reducible repeat (first | refine blk_drewN ?_ _ | refine blk_drew ?_ | refine blk_alloc ?_ _)); exact BK276.out) : P := h
theorem z9_87 {P : Prop} (h : P := by intro k_ hk_ e_; exact Nat.not_le.2 hk_.1.1.2 (Kd.R_base HL308_0.out k_ e_.symm)) : P := h
theorem z9_88 {P : Prop} (h : P := by intro k_ hk_ e_; exact Nat.not_le.2 hk_.1.1.2 (Kd.R_base HL316_0.out k_ e_.symm)) : P := h
theorem z9_89 {P : Prop} (h : P := by intro k_ hk_ e_; exact Nat.not_le.2 hk_.1.1.2 (Kd.R_base HL324_0.out k_ e_.symm)) : P := h
theorem z9_90 {P : Prop} (h : P := by first | (rw [add_block]; exact (fun e_ => ((HL308_0.out.1 _ e_.symm).1.2) rfl)) | (show some (Addr.add _ _).block ≠ _; rw [add_block]; exact (fun e_ => ((HL308_0.out.1 _ e_.symm).1.2) rfl)) | exact (fun e_ => ((HL308_0.out.1 _ e_.symm).1.2) rfl)) : P := h
theorem z9_91 {P : Prop} (h : P := by first | (rw [add_block]; exact (fun e_ => ((HL316_0.out.1 _ e_.symm).1.2) rfl)) | (show some (Addr.add _ _).block ≠ _; rw [add_block]; exact (fun e_ => ((HL316_0.out.1 _ e_.symm).1.2) rfl)) | exact (fun e_ => ((HL316_0.out.1 _ e_.symm).1.2) rfl)) : P := h
theorem z9_92 {P : Prop} (h : P := by first | (rw [add_block]; exact (fun e_ => ((HL324_0.out.1 _ e_.symm).1.2) rfl)) | (show some (Addr.add _ _).block ≠ _; rw [add_block]; exact (fun e_ => ((HL324_0.out.1 _ e_.symm).1.2) rfl)) | exact (fun e_ => ((HL324_0.out.1 _ e_.symm).1.2) rfl)) : P := h
theorem z9_93 {P : Prop} (h : P := by intro k_ hk_ e_; exact Nat.not_le.2 hk_.1.2 (Kd.R_base HL303_0.out k_ e_.symm)) : P := h
theorem z9_94 {P : Prop} (h : P := by first | (rw [add_block]; exact (fun e_ => ((HL303_0.out.1 _ e_.symm).2) rfl)) | (show some (Addr.add _ _).block ≠ _; rw [add_block]; exact (fun e_ => ((HL303_0.out.1 _ e_.symm).2) rfl)) | exact (fun e_ => ((HL303_0.out.1 _ e_.symm).2) rfl)) : P := h
theorem z9_95 {P : Prop} (h : P := by repeat (first | exact (Kd.C_below HR0_0.out HB.out) | (with_reducible refine Kd.C_alloc ?_ _) | (with_reducible refine Kd.C_drewN ?_ _) | (with_reducible refine Kd.C_drew ?_))) : P := h
theorem z9_96 {P : Prop} (h : P := by (with_reducible repeat (first | apply Kd.V_alloc | apply Kd.V_drewN | apply Kd.V_drew)); exact Kd.V_mono HO0_1.out (fun _ hk => ⟨hk.1, ⟨(by simp [Value.ownBlock]), hk.2⟩⟩)) : P := h
theorem z9_97 {P : Prop} (h : P := by repeat (first | exact (Kd.V_reads' HO0_1.out).2.2 | (with_reducible refine Kd.C_alloc ?_ _) | (with_reducible refine Kd.C_drewN ?_ _) | (with_reducible refine Kd.C_drew ?_))) : P := h
theorem z9_98 {P : Prop} (h : P := by first | exact Kd.S_nil _ _ _ _ _ | exact Kd.N_nil _ _ _ _ _ | exact Kd.V_nil _ _ _ _ _ | exact Kd.Q_nil _ _ _ _ _ | exact Kd.R_nil _ _ _ _ _) : P := h
/-! ### impl_FlatOf: function 8 -/
def impl_FlatOf.l0 : Nat → List (List (S46)) → List (S46) → List Int → Int → Int → Option ((List (List (S46))))
 | 0, _, _, _, _, _ => none
 | k + 1, x3, x4, x18, x19, x20 => if x20 < x19 then (if 0 ≤ x20 then (if x20 < (x18.length : Int) then ((impl_NeedOf.f k (rd x18 x20)).bind fun t279 => (if 0 ≤ t279 then (if t279 ≤ (x4.length : Int) then ((some (x4.take (t279 : Int).toNat : List (S46))).bind fun y280 => ((some (x4.drop (t279 : Int).toNat : List (S46))).bind fun y285 => (if (rd x18 x20) = 1 then ((impl_flatten.f k (rd x18 x20) 0 0 y280).bind fun t290 => (if x3.length < 5864062014805 then (impl_FlatOf.l0 k (x3 ++ [t290]) y285 x18 x19 (wrap64 (x20 + 1))) else (none))) else (if 0 ≤ (wrap64 ((x3.length : Int) - 1)) then (if (wrap64 ((x3.length : Int) - 1)) < (x3.length : Int) then (if 0 < ((rd_L2 x3 (wrap64 ((x3.length : Int) - 1))).length : Int) then (if 0 ≤ (wrap64 (((rd_L2 x3 (wrap64 ((x3.length : Int) - 1))).length : Int) - 1)) then (if (wrap64 (((rd_L2 x3 (wrap64 ((x3.length : Int) - 1))).length : Int) - 1)) < ((rd_L2 x3 (wrap64 ((x3.length : Int) - 1))).length : Int) then (if (rd x18 x20) = 5 then (if (!(((rd_T46 (rd_L2 x3 (wrap64 ((x3.length : Int) - 1))) 0).f0) == ((rd_T46 (rd_L2 x3 (wrap64 ((x3.length : Int) - 1))) (wrap64 (((rd_L2 x3 (wrap64 ((x3.length : Int) - 1))).length : Int) - 1))).f0)) || (!(((rd_T46 (rd_L2 x3 (wrap64 ((x3.length : Int) - 1))) 0).f1) == ((rd_T46 (rd_L2 x3 (wrap64 ((x3.length : Int) - 1))) (wrap64 (((rd_L2 x3 (wrap64 ((x3.length : Int) - 1))).length : Int) - 1))).f1)))) = true then (if (rd_L2 x3 (wrap64 ((x3.length : Int) - 1))).length < 8796093022208 then ((some (x3.set ((wrap64 ((x3.length : Int) - 1)) : Int).toNat ((rd_L2 x3 (wrap64 ((x3.length : Int) - 1))) ++ [(⟨(rd_T46 (rd_L2 x3 (wrap64 ((x3.length : Int) - 1))) 0).f0, (rd_T46 (rd_L2 x3 (wrap64 ((x3.length : Int) - 1))) 0).f1⟩ : S46)]) : List (List (S46)))).bind fun y307 => ((impl_flatten.f k (rd x18 x20) ((rd_T46 (rd_L2 x3 (wrap64 ((x3.length : Int) - 1))) (wrap64 (((rd_L2 x3 (wrap64 ((x3.length : Int) - 1))).length : Int) - 1))).f0) ((rd_T46 (rd_L2 x3 (wrap64 ((x3.length : Int) - 1))) (wrap64 (((rd_L2 x3 (wrap64 ((x3.length : Int) - 1))).length : Int) - 1))).f1) y280).bind fun t309 => (if (rd_L2 y307 (wrap64 ((x3.length : Int) - 1))).length + t309.length < 8796093022208 then (impl_FlatOf.l0 k (y307.set ((wrap64 ((x3.length : Int) - 1)) : Int).toNat ((rd_L2 y307 (wrap64 ((x3.length : Int) - 1))) ++ t309)) y285 x18 x19 (wrap64 (x20 + 1))) else (none)))) else (none)) else ((impl_flatten.f k (rd x18 x20) ((rd_T46 (rd_L2 x3 (wrap64 ((x3.length : Int) - 1))) (wrap64 (((rd_L2 x3 (wrap64 ((x3.length : Int) - 1))).length : Int) - 1))).f0) ((rd_T46 (rd_L2 x3 (wrap64 ((x3.length : Int) - 1))) (wrap64 (((rd_L2 x3 (wrap64 ((x3.length : Int) - 1))).length : Int) - 1))).f1) y280).bind fun t317 => (if (rd_L2 x3 (wrap64 ((x3.length : Int) - 1))).length + t317.length < 8796093022208 then (impl_FlatOf.l0 k (x3.set ((wrap64 ((x3.length : Int) - 1)) : Int).toNat ((rd_L2 x3 (wrap64 ((x3.length : Int) - 1))) ++ t317)) y285 x18 x19 (wrap64 (x20 + 1))) else (none)))) else ((impl_flatten.f k (rd x18 x20) ((rd_T46 (rd_L2 x3 (wrap64 ((x3.length : Int) - 1))) (wrap64 (((rd_L2 x3 (wrap64 ((x3.length : Int) - 1))).length : Int) - 1))).f0) ((rd_T46 (rd_L2 x3 (wrap64 ((x3.length : Int) - 1))) (wrap64 (((rd_L2 x3 (wrap64 ((x3.length : Int) - 1))).length : Int) - 1))).f1) y280).bind fun t325 => (if (rd_L2 x3 (wrap64 ((x3.length : Int) - 1))).length + t325.length < 8796093022208 then (impl_FlatOf.l0 k (x3.set ((wrap64 ((x3.length : Int) - 1)) : Int).toNat ((rd_L2 x3 (wrap64 ((x3.length : Int) - 1))) ++ t325)) y285 x18 x19 (wrap64 (x20 + 1))) else (none)))) else (none)) else (none)) else (none)) else (none)) else (none))))) else (none)) else (none))) else (none)) else (none)) else (some x3)
def impl_FlatOf.f (k : Nat) (l0_0 : List Int) (l0_1 : List (S46)) : Option ((List (List (S46)))) := (impl_PathOk.f k l0_0 l0_1).bind fun t277 => (if t277 = true then (impl_FlatOf.l0 k ([] : List (List (S46))) l0_1 l0_0 (l0_0.length : Int) 0) else (some ([] : List (List (S46)))))
theorem impl_FlatOf.mono_l : ∀ k, (∀ y0 y1 y2 y3 y4, LeO (impl_FlatOf.l0 k y0 y1 y2 y3 y4) (impl_FlatOf.l0 (k + 1) y0 y1 y2 y3 y4))
 | 0 => fun _ _ _ _ _ r h => by simp [impl_FlatOf.l0] at h
 | k + 1 => by
  have ih0 := impl_FlatOf.mono_l k
  ·intro y0 y1 y2 y3 y4
   unfold impl_FlatOf.l0
   repeat' first
   | (with_reducible exact ih0 _ _ _ _ _)
   | (with_reducible exact impl_NeedOf.mono _ _)
   | (with_reducible exact impl_PathOk.mono _ _ _)
   | (with_reducible exact impl_flatten.mono _ _ _ _ _)
   | (with_reducible exact LeO.refl _)
   | (with_reducible exact LeO.none _)
   | (with_reducible refine LeO.ite ?_ ?_)
   | (with_reducible refine LeO.bind ?_ (fun _ => ?_))
theorem impl_FlatOf.mono : ∀ a0 a1 k, LeO (impl_FlatOf.f k a0 a1) (impl_FlatOf.f (k + 1) a0 a1) := by
 intro a0 a1 k
 have ih0 := impl_FlatOf.mono_l k
 unfold impl_FlatOf.f
 repeat' first
   | (with_reducible exact ih0 _ _ _ _ _)
   | (with_reducible exact impl_NeedOf.mono _ _)
   | (with_reducible exact impl_PathOk.mono _ _ _)
   | (with_reducible exact impl_flatten.mono _ _ _ _ _)
   | (with_reducible exact LeO.refl _)
   | (with_reducible exact LeO.none _)
   | (with_reducible refine LeO.ite ?_ ?_)
   | (with_reducible refine LeO.bind ?_ (fun _ => ?_))
def impl_FlatOf.T14 : Bool × List (List Nat × List Nat) := (true, [([], []), ([0], [0]), ([1], [1]), ([2], [2]), ([3], [3]), ([], []), ([5], [5]), ([6], [6]), ([], []), ([8], [8]), ([9], [9]), ([10], [10]), ([11], [11]), ([7, 12], [7, 12]), ([13], [13]), ([], []), ([], []), ([15, 4, 0, 1, 2, 3, 4, 15, 16], [4, 15]), ([16, 14, 17, 0, 1, 2, 3, 4, 5, 6, 7, 8, 9, 10, 11, 12, 13, 14, 15, 16, 17], [14, 16])])
def impl_FlatOf.B14 : List Nat := [0, 1, 3, 7, 15, 0, 32, 96, 0, 256, 768, 1792, 3840, 8160, 16352, 0, 0, 98335, 262143]
theorem impl_FlatOf.tab14 : rtab .any (opsOf Try.f8 14) = impl_FlatOf.T14 := by kernel_rfl
theorem impl_FlatOf.bits14 : waitsOk impl_FlatOf.T14.2 impl_FlatOf.B14 = true := by kernel_rfl
def impl_FlatOf.T16 : Bool × List (List Nat × List Nat) := (true, [([], []), ([], []), ([1], [1]), ([2], [2]), ([], []), ([4], [4]), ([3, 5], [3, 5]), ([0, 0, 1, 2, 3, 4, 5, 6], [0]), ([7, 6, 6, 0, 1, 2, 3, 4, 5, 6], [6, 7])])
def impl_FlatOf.B16 : List Nat := [0, 0, 2, 6, 0, 16, 62, 127, 255]
theorem impl_FlatOf.tab16 : rtab .any (opsOf Try.f8 16) = impl_FlatOf.T16 := by kernel_rfl
theorem impl_FlatOf.bits16 : waitsOk impl_FlatOf.T16.2 impl_FlatOf.B16 = true := by kernel_rfl
def impl_FlatOf.T17 : Bool × List (List Nat × List Nat) := (true, [([], []), ([], []), ([1], [1]), ([2], [2]), ([], []), ([], []), ([], []), ([4, 5, 6], [4, 5, 6]), ([3, 7, 7], [3, 7]), ([0, 0, 1, 2, 3, 4, 5, 6, 7, 8], [0]), ([9, 8, 8, 0, 1, 2, 3, 4, 5, 6, 7, 8], [8, 9])])
def impl_FlatOf.B17 : List Nat := [0, 0, 2, 6, 0, 0, 0, 112, 254, 511, 1023]
theorem impl_FlatOf.tab17 : rtab .any (opsOf Try.f8 17) = impl_FlatOf.T17 := by kernel_rfl
theorem impl_FlatOf.bits17 : waitsOk impl_FlatOf.T17.2 impl_FlatOf.B17 = true := by kernel_rfl
set_option maxHeartbeats 8000000 in
set_option maxRecDepth 100000 in
theorem impl_FlatOf.calls (k : Nat) (A0_0 : Option Addr) (c0_0 : Nat) (l0_0 : List Int) (P0_1_ : Nat → Prop) (A0_1 : Option Addr) (c0_1 : Nat) (l0_1 : List (S46)) (r : List (List (S46))) (w : World) (hr0_0 : Kd.C (Kd.int .i64) w A0_0 l0_0.length l0_0) (hc0_0 : l0_0.length ≤ c0_0) (hs0_1 : Kd.V k46 46 w w.heap.size (fun k_ => P0_1_ k_) (.slice A0_1 l0_1.length c0_1) l0_1) (h : impl_FlatOf.f k l0_0 l0_1 = some r) :
  Calls Try.prog 8 #[.agg #[.slice A0_0 l0_0.length c0_0, .slice A0_1 l0_1.length c0_1]] w fun e w' => ∃ v0_ : Value, e = .returned (v0_) ∧ Kd.S (Kd.slice 46 k46) 29 w' w.heap.size (fun k_ => (w.heap.size ≤ k_)) v0_ r ∧ Below w.heap.size w w' := by
 have hu31 := Try.underlying31
 have hu46 := Try.underlying46
 have HR0_0 := mk0 hr0_0
 have HC0_0 := mk0 hc0_0
 clear hr0_0 hc0_0
 have HO0_1 := mk0 (show Kd.V k46 46 w w.heap.size (fun k_ => ((P0_1_ k_) ∧ k_ < w.heap.size)) (.slice A0_1 l0_1.length c0_1) l0_1 from Kd.V_mono (Kd.V_bound hs0_1) (fun k_ hk => hk))
 have HB := mk0 (Below.refl w.heap.size w)
 have H : ((impl_PathOk.f k l0_0 l0_1).bind fun t277 => (if t277 = true then (impl_FlatOf.l0 k ([] : List (List (S46))) l0_1 l0_0 (l0_0.length : Int) 0) else (some ([] : List (List (S46)))))) = some r := h
 clear h
 replace H := Option.bind_eq_some_iff.mp H
 obtain ⟨t277, A20, H⟩ := H
 try dsimp only at H
 have A2 := mk0 A20
 clear A20
 by_cases c3 : t277 = true
 rotate_left
 ·replace c3 := Bool.eq_false_iff.mpr c3
  subst c3
  rw [if_neg (show ¬ (false = true) by decide)] at H
  obtain rfl := Option.some.inj H
  simp only [Option.some.injEq, Prod.mk.injEq] at H
  obtain ⟨rfl⟩ := H
  go_enter Try.func8, Try.ntmps8
  go_wp2_with (first | ((with_reducible refine gate_dst (N := 1) rfl ?_); refine boxz (cs := #[.slice A0_0 l0_0.length c0_0, .slice A0_1 l0_1.length c0_1]) (t := 31) rfl ?_; intro gb276 hg w121 hbox hb; have n0_ := mk0 (Kd.V_below (Kd.V_elderB (pkV HO0_1) gb276 (Nat.le_of_eq hg.symm)) hb); have n1_ := mk0 (below_step z9_60 hb); have n2_ := mk0 (hbox); have GW276 := mk0 (ge_go (a := w.heap.size) hg (below_size z9_60)); have GE276 := GW276; clear HO0_1 HB; have HO0_1 := n0_; have HB := n1_; have BK276 := n2_; clear n0_ n1_ n2_ ; clear hb hbox hg; obtain ⟨_, _, _, _⟩ := be_2 BK276.out) | ((with_reducible refine gate_callee (f := 27) rfl ?_); refine goesL_ (some 13) rfl rfl Try.func27 (by kernel_rfl) rfl #[.agg #[.slice A0_0 l0_0.length c0_0, .slice A0_1 l0_1.length c0_1]] rfl z9_59 ?_; (with_reducible refine (impl_PathOk.calls k _ _ l0_0 _ _ l0_1 false _ ?side1 ?side2 ?side3 ?side4 A2.out).mono ?_); (case side1 => exact z9_95); (case side2 => exact HC0_0.out); (case side3 => exact z9_97); (case side4 => exact (Kd.V_reads' HO0_1.out).2.1); rintro e w123 ⟨rfl, hb⟩; refine ⟨_, rfl, ?_⟩; have n0_ := mk0 (Kd.V_below (pkV HO0_1) hb); have n1_ := mk0 (blk_belowB BK276 (pkb BK276) hb); have n2_ := mk0 (below_step z9_35 hb); clear HO0_1 BK276 HB; have HO0_1 := n0_; have BK276 := n1_; have HB := n2_; clear n0_ n1_ n2_; (try clear hb)))
  go_ret
  exact ⟨_, (by first | rfl | (simp [errW_none, errW_some] <;> rfl) | (simp [*, errW_none, errW_some] <;> rfl)), z9_98, z9_35⟩
 subst c3
 rw [if_pos rfl] at H
 have H' := mk0 H
 clear H
 go_enter Try.func8, Try.ntmps8
 go_wp2_with (first | ((with_reducible refine gate_dst (N := 1) rfl ?_); refine boxz (cs := #[.slice A0_0 l0_0.length c0_0, .slice A0_1 l0_1.length c0_1]) (t := 31) rfl ?_; intro gb276 hg w4 hbox hb; have n0_ := mk0 (Kd.V_below (Kd.V_elderB (pkV HO0_1) gb276 (Nat.le_of_eq hg.symm)) hb); have n1_ := mk0 (below_step z9_60 hb); have n2_ := mk0 (hbox); have GW276 := mk0 (ge_go (a := w.heap.size) hg (below_size z9_60)); have GE276 := GW276; clear HO0_1 HB; have HO0_1 := n0_; have HB := n1_; have BK276 := n2_; clear n0_ n1_ n2_ ; clear hb hbox hg; obtain ⟨_, _, _, _⟩ := be_2 BK276.out) | ((with_reducible refine gate_callee (f := 27) rfl ?_); refine goesL_ (some 13) rfl rfl Try.func27 (by kernel_rfl) rfl #[.agg #[.slice A0_0 l0_0.length c0_0, .slice A0_1 l0_1.length c0_1]] rfl z9_59 ?_; (with_reducible refine (impl_PathOk.calls k _ _ l0_0 _ _ l0_1 true _ ?side1 ?side2 ?side3 ?side4 A2.out).mono ?_); (case side1 => exact z9_95); (case side2 => exact HC0_0.out); (case side3 => exact z9_97); (case side4 => exact (Kd.V_reads' HO0_1.out).2.1); rintro e w6 ⟨rfl, hb⟩; refine ⟨_, rfl, ?_⟩; have n0_ := mk0 (Kd.V_below (pkV HO0_1) hb); have n1_ := mk0 (blk_belowB BK276 (pkb BK276) hb); have n2_ := mk0 (below_step z9_35 hb); clear HO0_1 BK276 HB; have HO0_1 := n0_; have BK276 := n1_; have HB := n2_; clear n0_ n1_ n2_; (try clear hb); obtain ⟨_, _, _, _⟩ := be_2 BK276.out))
 go_loopg [3, 4, 20] k (fun kq v3 v4 v20 w' => ∃ (x3_1 : List (List (S46))) (x4_1 : List (S46)) (x20_1 : Int), v20 = .int .i64 x20_1 ∧ Aside0 (impl_FlatOf.l0 kq x3_1 x4_1 l0_0 (l0_0.length : Int) x20_1 = some r) ∧ Aside0 (kq ≤ k) ∧ Aside0 (Kd.S (Kd.slice 46 k46) 29 w' w.heap.size (fun k_ => (w.heap.size ≤ k_)) v3 x3_1) ∧ Aside0 (Kd.V k46 46 w' w.heap.size (fun k_ => ((P0_1_ k_) ∧ k_ < w.heap.size) ∧ some k_ ≠ (v3 : Value).ownBlock ∧ k_ ≠ gb276) v4 x4_1) ∧ Aside0 (Kd.V k46 46 w' w.heap.size (fun k_ => ((P0_1_ k_) ∧ k_ < w.heap.size) ∧ some k_ ≠ (v3 : Value).ownBlock ∧ k_ ≠ gb276) (.slice A0_1 l0_1.length c0_1) l0_1) ∧ Aside0 (w'.heap[gb276]? = some (.cells #[(.slice A0_0 l0_0.length c0_0), (.slice A0_1 l0_1.length c0_1)] 31 (0, 0))) ∧ Aside0 (Below w.heap.size w w'))
 case atStart => exact ⟨(([] : List (List (S46)))), (l0_1), (0), rs0, H', ⟨Nat.le_refl _⟩, ⟨z9_98⟩, ⟨z9_96⟩, ⟨z9_96⟩, ⟨pkb BK276⟩, ⟨z9_35⟩⟩
 case round =>
  clear H'
  try clear c2
  try clear p2
  try clear c3
  try clear hcz5_0
  try clear hcz5_1
  try clear hcz7_0
  try clear hcz7_1
  try clear hfz5_0
  try clear hfz5_1
  try clear hfz7_0
  try clear hfz7_1
  obtain ⟨x3_1, x4_1, x20_1, rfl, HA, HK1, HO_3, HO_4, HO_277001, BK276, HB⟩ := hrel
  cases gk with
  | zero => exact absurd HA.out (by simp [impl_FlatOf.l0])
  | succ k1 =>
   have H := HA.out; clear HA
   simp only [impl_FlatOf.l0] at H
   by_cases c8 : x20_1 < (l0_0.length : Int)
   rotate_left
   ·rw [if_neg c8] at H
    have c8b0 := decide_eq_false c8
    clear c8
    obtain rfl := Option.some.inj H
    simp only [Option.some.injEq, Prod.mk.injEq] at H
    obtain ⟨rfl⟩ := H
    go_wp2
    go_ret
    exact ⟨_, (by first | rfl | (simp [errW_none, errW_some] <;> rfl) | (simp [*, errW_none, errW_some] <;> rfl)), (pkS HO_3), z9_35⟩
   rw [if_pos c8] at H
   have c8b0 := decide_eq_true c8
   clear c8
   by_cases c9 : 0 ≤ x20_1
   rotate_left
   ·rw [if_neg c9] at H
    exact absurd H (by simp)
   rw [if_pos c9] at H
   have c9b0 := decide_eq_true c9
   clear c9
   by_cases c10 : x20_1 < (l0_0.length : Int)
   rotate_left
   ·rw [if_neg c10] at H
    exact absurd H (by simp)
   rw [if_pos c10] at H
   have c10b0 := decide_eq_true c10
   clear c10
   replace H := Option.bind_eq_some_iff.mp H
   obtain ⟨t279, A110, H⟩ := H
   try dsimp only at H
   have A11 := mk0 A110
   clear A110
   by_cases c12 : 0 ≤ t279
   rotate_left
   ·rw [if_neg c12] at H
    exact absurd H (by simp)
   rw [if_pos c12] at H
   have c12b0 := eq_true c12
   have c12b1 := decide_eq_true c12
   clear c12
   by_cases c13 : t279 ≤ (x4_1.length : Int)
   rotate_left
   ·rw [if_neg c13] at H
    exact absurd H (by simp)
   rw [if_pos c13] at H
   have c13b0 := eq_true c13
   have c13b1 := decide_eq_true c13
   clear c13
   obtain ⟨y280, hy_⟩ : ∃ y_ : List (S46), y_ = (x4_1.take (t279 : Int).toNat) := ⟨_, rfl⟩
   replace H : ((some (x4_1.drop (t279 : Int).toNat : List (S46))).bind fun y285 => (if (rd l0_0 x20_1) = 1 then ((impl_flatten.f k1 (rd l0_0 x20_1) 0 0 y280).bind fun t290 => (if x3_1.length < 5864062014805 then (impl_FlatOf.l0 k1 (x3_1 ++ [t290]) y285 l0_0 (l0_0.length : Int) (wrap64 (x20_1 + 1))) else (none))) else (if 0 ≤ (wrap64 ((x3_1.length : Int) - 1)) then (if (wrap64 ((x3_1.length : Int) - 1)) < (x3_1.length : Int) then (if 0 < ((rd_L2 x3_1 (wrap64 ((x3_1.length : Int) - 1))).length : Int) then (if 0 ≤ (wrap64 (((rd_L2 x3_1 (wrap64 ((x3_1.length : Int) - 1))).length : Int) - 1)) then (if (wrap64 (((rd_L2 x3_1 (wrap64 ((x3_1.length : Int) - 1))).length : Int) - 1)) < ((rd_L2 x3_1 (wrap64 ((x3_1.length : Int) - 1))).length : Int) then (if (rd l0_0 x20_1) = 5 then (if (!(((rd_T46 (rd_L2 x3_1 (wrap64 ((x3_1.length : Int) - 1))) 0).f0) == ((rd_T46 (rd_L2 x3_1 (wrap64 ((x3_1.length : Int) - 1))) (wrap64 (((rd_L2 x3_1 (wrap64 ((x3_1.length : Int) - 1))).length : Int) - 1))).f0)) || (!(((rd_T46 (rd_L2 x3_1 (wrap64 ((x3_1.length : Int) - 1))) 0).f1) == ((rd_T46 (rd_L2 x3_1 (wrap64 ((x3_1.length : Int) - 1))) (wrap64 (((rd_L2 x3_1 (wrap64 ((x3_1.length : Int) - 1))).length : Int) - 1))).f1)))) = true then (if (rd_L2 x3_1 (wrap64 ((x3_1.length : Int) - 1))).length < 8796093022208 then ((some (x3_1.set ((wrap64 ((x3_1.length : Int) - 1)) : Int).toNat ((rd_L2 x3_1 (wrap64 ((x3_1.length : Int) - 1))) ++ [(⟨(rd_T46 (rd_L2 x3_1 (wrap64 ((x3_1.length : Int) - 1))) 0).f0, (rd_T46 (rd_L2 x3_1 (wrap64 ((x3_1.length : Int) - 1))) 0).f1⟩ : S46)]) : List (List (S46)))).bind fun y307 => ((impl_flatten.f k1 (rd l0_0 x20_1) ((rd_T46 (rd_L2 x3_1 (wrap64 ((x3_1.length : Int) - 1))) (wrap64 (((rd_L2 x3_1 (wrap64 ((x3_1.length : Int) - 1))).length : Int) - 1))).f0) ((rd_T46 (rd_L2 x3_1 (wrap64 ((x3_1.length : Int) - 1))) (wrap64 (((rd_L2 x3_1 (wrap64 ((x3_1.length : Int) - 1))).length : Int) - 1))).f1) y280).bind fun t309 => (if (rd_L2 y307 (wrap64 ((x3_1.length : Int) - 1))).length + t309.length < 8796093022208 then (impl_FlatOf.l0 k1 (y307.set ((wrap64 ((x3_1.length : Int) - 1)) : Int).toNat ((rd_L2 y307 (wrap64 ((x3_1.length : Int) - 1))) ++ t309)) y285 l0_0 (l0_0.length : Int) (wrap64 (x20_1 + 1))) else (none)))) else (none)) else ((impl_flatten.f k1 (rd l0_0 x20_1) ((rd_T46 (rd_L2 x3_1 (wrap64 ((x3_1.length : Int) - 1))) (wrap64 (((rd_L2 x3_1 (wrap64 ((x3_1.length : Int) - 1))).length : Int) - 1))).f0) ((rd_T46 (rd_L2 x3_1 (wrap64 ((x3_1.length : Int) - 1))) (wrap64 (((rd_L2 x3_1 (wrap64 ((x3_1.length : Int) - 1))).length : Int) - 1))).f1) y280).bind fun t317 => (if (rd_L2 x3_1 (wrap64 ((x3_1.length : Int) - 1))).length + t317.length < 8796093022208 then (impl_FlatOf.l0 k1 (x3_1.set ((wrap64 ((x3_1.length : Int) - 1)) : Int).toNat ((rd_L2 x3_1 (wrap64 ((x3_1.length : Int) - 1))) ++ t317)) y285 l0_0 (l0_0.length : Int) (wrap64 (x20_1 + 1))) else (none)))) else ((impl_flatten.f k1 (rd l0_0 x20_1) ((rd_T46 (rd_L2 x3_1 (wrap64 ((x3_1.length : Int) - 1))) (wrap64 (((rd_L2 x3_1 (wrap64 ((x3_1.length : Int) - 1))).length : Int) - 1))).f0) ((rd_T46 (rd_L2 x3_1 (wrap64 ((x3_1.length : Int) - 1))) (wrap64 (((rd_L2 x3_1 (wrap64 ((x3_1.length : Int) - 1))).length : Int) - 1))).f1) y280).bind fun t325 => (if (rd_L2 x3_1 (wrap64 ((x3_1.length : Int) - 1))).length + t325.length < 8796093022208 then (impl_FlatOf.l0 k1 (x3_1.set ((wrap64 ((x3_1.length : Int) - 1)) : Int).toNat ((rd_L2 x3_1 (wrap64 ((x3_1.length : Int) - 1))) ++ t325)) y285 l0_0 (l0_0.length : Int) (wrap64 (x20_1 + 1))) else (none)))) else (none)) else (none)) else (none)) else (none)) else (none)))) = some r := z9_38
   have Ny280 := mk0 hy_
   clear hy_
   have c14b0 := eq_true (of_decide_eq_true (by first | (with_reducible assumption) | assumption) : 0 ≤ t279)
   have c15b0 := eq_true (of_decide_eq_true (by first | (with_reducible assumption) | assumption) : t279 ≤ (x4_1.length : Int))
   obtain ⟨y285, hy_⟩ : ∃ y_ : List (S46), y_ = (x4_1.drop (t279 : Int).toNat) := ⟨_, rfl⟩
   replace H : (if (rd l0_0 x20_1) = 1 then ((impl_flatten.f k1 (rd l0_0 x20_1) 0 0 y280).bind fun t290 => (if x3_1.length < 5864062014805 then (impl_FlatOf.l0 k1 (x3_1 ++ [t290]) y285 l0_0 (l0_0.length : Int) (wrap64 (x20_1 + 1))) else (none))) else (if 0 ≤ (wrap64 ((x3_1.length : Int) - 1)) then (if (wrap64 ((x3_1.length : Int) - 1)) < (x3_1.length : Int) then (if 0 < ((rd_L2 x3_1 (wrap64 ((x3_1.length : Int) - 1))).length : Int) then (if 0 ≤ (wrap64 (((rd_L2 x3_1 (wrap64 ((x3_1.length : Int) - 1))).length : Int) - 1)) then (if (wrap64 (((rd_L2 x3_1 (wrap64 ((x3_1.length : Int) - 1))).length : Int) - 1)) < ((rd_L2 x3_1 (wrap64 ((x3_1.length : Int) - 1))).length : Int) then (if (rd l0_0 x20_1) = 5 then (if (!(((rd_T46 (rd_L2 x3_1 (wrap64 ((x3_1.length : Int) - 1))) 0).f0) == ((rd_T46 (rd_L2 x3_1 (wrap64 ((x3_1.length : Int) - 1))) (wrap64 (((rd_L2 x3_1 (wrap64 ((x3_1.length : Int) - 1))).length : Int) - 1))).f0)) || (!(((rd_T46 (rd_L2 x3_1 (wrap64 ((x3_1.length : Int) - 1))) 0).f1) == ((rd_T46 (rd_L2 x3_1 (wrap64 ((x3_1.length : Int) - 1))) (wrap64 (((rd_L2 x3_1 (wrap64 ((x3_1.length : Int) - 1))).length : Int) - 1))).f1)))) = true then (if (rd_L2 x3_1 (wrap64 ((x3_1.length : Int) - 1))).length < 8796093022208 then ((some (x3_1.set ((wrap64 ((x3_1.length : Int) - 1)) : Int).toNat ((rd_L2 x3_1 (wrap64 ((x3_1.length : Int) - 1))) ++ [(⟨(rd_T46 (rd_L2 x3_1 (wrap64 ((x3_1.length : Int) - 1))) 0).f0, (rd_T46 (rd_L2 x3_1 (wrap64 ((x3_1.length : Int) - 1))) 0).f1⟩ : S46)]) : List (List (S46)))).bind fun y307 => ((impl_flatten.f k1 (rd l0_0 x20_1) ((rd_T46 (rd_L2 x3_1 (wrap64 ((x3_1.length : Int) - 1))) (wrap64 (((rd_L2 x3_1 (wrap64 ((x3_1.length : Int) - 1))).length : Int) - 1))).f0) ((rd_T46 (rd_L2 x3_1 (wrap64 ((x3_1.length : Int) - 1))) (wrap64 (((rd_L2 x3_1 (wrap64 ((x3_1.length : Int) - 1))).length : Int) - 1))).f1) y280).bind fun t309 => (if (rd_L2 y307 (wrap64 ((x3_1.length : Int) - 1))).length + t309.length < 8796093022208 then (impl_FlatOf.l0 k1 (y307.set ((wrap64 ((x3_1.length : Int) - 1)) : Int).toNat ((rd_L2 y307 (wrap64 ((x3_1.length : Int) - 1))) ++ t309)) y285 l0_0 (l0_0.length : Int) (wrap64 (x20_1 + 1))) else (none)))) else (none)) else ((impl_flatten.f k1 (rd l0_0 x20_1) ((rd_T46 (rd_L2 x3_1 (wrap64 ((x3_1.length : Int) - 1))) (wrap64 (((rd_L2 x3_1 (wrap64 ((x3_1.length : Int) - 1))).length : Int) - 1))).f0) ((rd_T46 (rd_L2 x3_1 (wrap64 ((x3_1.length : Int) - 1))) (wrap64 (((rd_L2 x3_1 (wrap64 ((x3_1.length : Int) - 1))).length : Int) - 1))).f1) y280).bind fun t317 => (if (rd_L2 x3_1 (wrap64 ((x3_1.length : Int) - 1))).length + t317.length < 8796093022208 then (impl_FlatOf.l0 k1 (x3_1.set ((wrap64 ((x3_1.length : Int) - 1)) : Int).toNat ((rd_L2 x3_1 (wrap64 ((x3_1.length : Int) - 1))) ++ t317)) y285 l0_0 (l0_0.length : Int) (wrap64 (x20_1 + 1))) else (none)))) else ((impl_flatten.f k1 (rd l0_0 x20_1) ((rd_T46 (rd_L2 x3_1 (wrap64 ((x3_1.length : Int) - 1))) (wrap64 (((rd_L2 x3_1 (wrap64 ((x3_1.length : Int) - 1))).length : Int) - 1))).f0) ((rd_T46 (rd_L2 x3_1 (wrap64 ((x3_1.length : Int) - 1))) (wrap64 (((rd_L2 x3_1 (wrap64 ((x3_1.length : Int) - 1))).length : Int) - 1))).f1) y280).bind fun t325 => (if (rd_L2 x3_1 (wrap64 ((x3_1.length : Int) - 1))).length + t325.length < 8796093022208 then (impl_FlatOf.l0 k1 (x3_1.set ((wrap64 ((x3_1.length : Int) - 1)) : Int).toNat ((rd_L2 x3_1 (wrap64 ((x3_1.length : Int) - 1))) ++ t325)) y285 l0_0 (l0_0.length : Int) (wrap64 (x20_1 + 1))) else (none)))) else (none)) else (none)) else (none)) else (none)) else (none))) = some r := z9_38
   have Ny285 := mk0 hy_
   clear hy_
   by_cases c16 : (rd l0_0 x20_1) = 1
   ·rw [if_pos c16] at H
    have c16b0 : ((rd l0_0 x20_1) == 1) = true := beq_iff_eq.mpr c16
    have c16b1 : ((rd l0_0 x20_1) != 1) = false := bne_eq_false_iff_eq.mpr c16
    clear c16
    replace H := Option.bind_eq_some_iff.mp H
    obtain ⟨t290, A170, H⟩ := H
    try dsimp only at H
    have A17 := mk0 A170
    clear A170
    by_cases c18 : x3_1.length < 5864062014805
    rotate_left
    ·rw [if_neg c18] at H
     exact absurd H (by simp)
    rw [if_pos c18] at H
    have LMc18 := mk0 c18
    clear c18
    obtain ⟨y293, hy_⟩ : ∃ y_ : List (List (S46)), y_ = (x3_1 ++ [t290]) := ⟨_, rfl⟩
    replace H : (impl_FlatOf.l0 k1 y293 y285 l0_0 (l0_0.length : Int) (wrap64 (x20_1 + 1))) = some r := z9_38
    have Ny293 := mk0 hy_
    clear hy_
    have H' := mk0 H
    clear H
    have p278 : 0 ≤ (x20_1 : Int) := of_decide_eq_true (by first | (with_reducible assumption) | assumption)
    have q278 : x20_1 < (l0_0.length : Int) := of_decide_eq_true (by first | (with_reducible assumption) | assumption)
    obtain ⟨ad278, e278, hx278_0⟩ := Kd.at_int HR0_0.out x20_1 p278 q278
    cases e278
    replace hx278_0 := cell_go HB hx278_0
    replace p278 := eq_true p278
    replace q278 := eq_true q278
    go_wp2_with (first | ((with_reducible refine gate_callee (f := 28) rfl ?_); refine goesL_ (some 25) rfl rfl Try.func28 (by kernel_rfl) rfl #[.int .i64 (rd l0_0 x20_1)] rfl z9_59 ?_; (with_reducible refine (impl_NeedOf.calls k1 (rd l0_0 x20_1) t279 _ A11.out).mono ?_); rintro e w' ⟨rfl, ⟨nd, rfl⟩⟩; refine ⟨_, rfl, ?_⟩; obtain ⟨Ao20, co20, eo20⟩ := Kd.V_slice HO_4.out; subst eo20; have q19 : (t279 : Int) ≤ ((x4_1.length : Int) : Int) := of_decide_eq_true (by first | (with_reducible assumption) | assumption); obtain ⟨i019, hi019, _, hsz19, _⟩ := info_parts info46; have hroom19 : x4_1.length ≤ co20 := (Kd.V_reads' HO_4.out).2.1; have hC19 : Kd.F k46 _ _ Ao20 x4_1.length x4_1 := (Kd.V_at (base := w.heap.size) HO_4.out).2.2; have hcut19 := cut_to (P := Try.prog) 29 46 .i64 Try.underlying29 hi019 Ao20 x4_1.length co20 t279 (of_decide_eq_true (by first | (with_reducible assumption) | assumption)) q19 hroom19; have hr19 := Kd.F_take (m := (t279 : Int).toNat) hC19 (by omega); have hy19 : y280.length = (t279 : Int).toNat := (by rw [Ny280.out, List.length_take]; omega); rw [← Ny280.out] at hr19; rw [← hy19] at hcut19; have HO284 := mk0 (show Kd.V k46 46 _ w.heap.size _ (.slice Ao20 y280.length co20) y280 from Kd.V_mk (by omega) hr19); have HC284 := mk0 (show y280.length ≤ co20 from by omega); clear hr19 hC19 hroom19 hi019 hsz19; have KY19 := mk0 hy19; clear hy19; replace q19 := eq_true q19; have q21 : (t279 : Int) ≤ ((x4_1.length : Int) : Int) := of_decide_eq_true (by first | (with_reducible assumption) | assumption); obtain ⟨i021, hi021, _, hsz21, _⟩ := info_parts info46; have hroom21 : x4_1.length ≤ co20 := (Kd.V_reads' HO_4.out).2.1; have hC21 : Kd.F k46 _ _ Ao20 x4_1.length x4_1 := (Kd.V_at (base := w.heap.size) HO_4.out).2.2; have q021 : (0 : Int) ≤ (t279 : Int) := of_decide_eq_true (by first | (with_reducible assumption) | assumption); have hcut21 := cut_from (P := Try.prog) 29 46 .i64 Try.underlying29 hi021 2 hsz21 Ao20 x4_1.length co20 t279 q021 q21; have hr21 := Kd.F_cut (m := (t279 : Int).toNat) (c := co20) hC21 (by omega) hroom21; obtain ⟨A21, hA21⟩ : ∃ A1, A1 = (if co20 = (t279 : Int).toNat then Ao20 else (Ao20 : Option Addr).map (·.add ((t279 : Int).toNat * 2))) := ⟨_, rfl⟩; obtain ⟨c21, hc21⟩ : ∃ c1, c1 = co20 - (t279 : Int).toNat := ⟨_, rfl⟩; have hy21 : y285.length = x4_1.length - (t279 : Int).toNat := (by rw [Ny285.out, List.length_drop] <;> omega); rw [show (x4_1).drop (t279 : Int).toNat = y285 from Ny285.out.symm] at hr21; replace hr21 : Kd.F k46 _ _ A21 y285.length y285 := (by rw [hA21]; exact hr21); rw [← hy21, ← hA21, ← hc21] at hcut21; have HO289 := mk0 (show Kd.V k46 46 _ w.heap.size _ (.slice A21 y285.length c21) y285 from Kd.V_mk (by rw [hy21, hc21]; exact Nat.sub_le_sub_right hroom21 _) hr21); have HC289 := mk0 (show y285.length ≤ c21 from by rw [hy21, hc21]; exact Nat.sub_le_sub_right hroom21 _); clear hr21 hC21 hroom21 hi021 hsz21 hc21; have KY21 := mk0 hy21; have KA21 := mk0 hA21; clear hy21 hA21; replace q21 := eq_true q21) | ((with_reducible refine gate_callee (f := 29) rfl ?_); refine goesL_ (some 38) rfl rfl Try.func29 (by kernel_rfl) rfl #[.int .i64 (rd l0_0 x20_1), .agg #[.int .i64 0, .int .i64 0], .slice Ao20 y280.length co20] rfl z9_59 ?_; (with_reducible refine (impl_flatten.calls k1 (rd l0_0 x20_1) 0 0 _ _ y280 t290 _ ?side1 ?side2 A17.out).mono ?_); (case side1 => exact z9_61); (case side2 => exact (Kd.V_reads' HO284.out).2.1); rintro e w22 ⟨v291, rfl, ho0, hb⟩; refine ⟨_, rfl, ?_⟩; have n0_ := mk0 (Kd.S_elder' (pkS HO_3) (Kd.R_base ho0) hb); have n1_ := mk0 (Kd.V_elder' (pkV HO_4) (Kd.R_base ho0) hb); have n2_ := mk0 (Kd.V_elder' (pkV HO_277001) (Kd.R_base ho0) hb); have n3_ := mk0 (Kd.V_elder' (pkV HO284) (Kd.R_base ho0) hb); have n4_ := mk0 (Kd.V_elder' (pkV HO289) (Kd.R_base ho0) hb); have n5_ := mk0 (Kd.R_lower (Kd.R_newM (M := fun k_ => (w.heap.size ≤ k_)) ho0 (below_size z9_35) (fun k_ h_ => h_)) (below_size z9_35)); have n6_ := mk0 (blk_belowB BK276 (pkb BK276) hb); have n7_ := mk0 (below_step z9_35 hb); clear HO_3 HO_4 HO_277001 HO284 HO289 BK276 HB; have HO_3 := n0_; have HO_4 := n1_; have HO_277001 := n2_; have HO284 := n3_; have HO289 := n4_; have HO292 := n5_; have BK276 := n6_; have HB := n7_; clear n0_ n1_ n2_ n3_ n4_ n5_ n6_ n7_; (try clear hb); (try clear hk); (try clear ho0); obtain ⟨Ao24, co24, eo24⟩ := Kd.R_slice HO292.out; subst eo24) | ((with_reducible refine gate_builtin (b := .append) (xs := #[.tmp 34, .tmp 39]) rfl ?_); at_builtin; refine Kd.S_append (Kd.slice 46 k46) (w0 := w) w.heap.size rfl (.tmp 34) (.tmp 39) 27 29 (.slice none 0 0) 24 rfl Try.underlying27 info29 rfl (by decide) (by omega) u3 x3_1 t290 [.slice Ao24 t290.length co24] (fun k_ => (w.heap.size ≤ k_)) (fun k_ => some k_ = (.slice Ao24 t290.length co24 : Value).ownBlock) rfl rfl ?aP (fun k_ hk_ => ((Kd.R_mono (ok' := fun k_ => ((fun k_ => (w.heap.size ≤ k_))) k_ ∧ some k_ ≠ (u3 : Value).ownBlock) (Kd.R_apart' (HO292.out) (Kd.S_typed HO_3.out) (by decide)) (fun k_ hk => ⟨hk.1.1, hk.2⟩))).1 k_ hk_.symm) ?aF ?aO ?aB ?aS ?aL ?_; (case aP => exact Kd.M_row (Kd.R_mono (Kd.R_tight rfl (Kd.R_mono (ok' := fun k_ => ((fun k_ => (w.heap.size ≤ k_))) k_ ∧ some k_ ≠ (u3 : Value).ownBlock) (Kd.R_apart' (HO292.out) (Kd.S_typed HO_3.out) (by decide)) (fun k_ hk => ⟨hk.1.1, hk.2⟩))) (fun _ h_ => h_))); (case aB => exact z9_35); (case aF => exact (fun k_ hk => (Nat.le_trans (below_size z9_35) hk))); (case aO => exact (by (with_reducible repeat (first | apply Kd.S_alloc | apply Kd.S_drewN | apply Kd.S_drew)); exact Kd.S_mono HO_3.out (fun k_ hk => ⟨hk.1, fun e_ => hk.2 e_⟩))); (case aS => exact (below_size z9_35)); (case aL => have := LMc18.out; omega); intro v294 w23 ho hb hg hat; rw [← Ny293.out] at ho; have n0_ := mk0 (Kd.V_afterv (ok := (fun k_ => ((P0_1_ k_) ∧ k_ < w.heap.size) ∧ some k_ ≠ (.slice Ao24 t290.length co24 : Value).ownBlock ∧ k_ ≠ gb276)) (by (with_reducible repeat (first | apply Kd.V_alloc | apply Kd.V_drewN | apply Kd.V_drew)); exact Kd.V_mono HO_4.out (fun _ hk => ⟨⟨hk.1.1, ⟨hk.2, hk.1.2.2⟩⟩, hk.1.2.1⟩)) hg hat); have n1_ := mk0 (Kd.V_afterv (ok := (fun k_ => ((P0_1_ k_) ∧ k_ < w.heap.size) ∧ some k_ ≠ (.slice Ao24 t290.length co24 : Value).ownBlock ∧ k_ ≠ gb276)) (by (with_reducible repeat (first | apply Kd.V_alloc | apply Kd.V_drewN | apply Kd.V_drew)); exact Kd.V_mono HO_277001.out (fun _ hk => ⟨⟨hk.1.1, ⟨hk.2, hk.1.2.2⟩⟩, hk.1.2.1⟩)) hg hat); have n2_ := mk0 (blk_grown (g := gb276) (o := .cells #[.slice (some ad278) l0_0.length c0_0, .slice A0_1 l0_1.length c0_1] 31 (0, 0)) (pkb BK276) hg (Kd.S_ne HO_3.out BK276.out (by decide))); have n3_ := mk0 (Kd.V_afterv (ok := (fun k_ => ((P0_1_ k_) ∧ k_ < w.heap.size) ∧ some k_ ≠ (.slice Ao24 t290.length co24 : Value).ownBlock ∧ k_ ≠ gb276)) (by (with_reducible repeat (first | apply Kd.V_alloc | apply Kd.V_drewN | apply Kd.V_drew)); exact Kd.V_mono HO284.out (fun _ hk => ⟨⟨hk.1.1, ⟨hk.2, hk.1.2.2⟩⟩, hk.1.2.1⟩)) hg hat); have n4_ := mk0 (Kd.V_afterv (ok := (fun k_ => ((P0_1_ k_) ∧ k_ < w.heap.size) ∧ some k_ ≠ (.slice Ao24 t290.length co24 : Value).ownBlock ∧ k_ ≠ gb276)) (by (with_reducible repeat (first | apply Kd.V_alloc | apply Kd.V_drewN | apply Kd.V_drew)); exact Kd.V_mono HO289.out (fun _ hk => ⟨⟨hk.1.1, ⟨hk.2, hk.1.2.2⟩⟩, hk.1.2.1⟩)) hg hat); have n5_ := mk0 (hb); have n6_ := mk0 (ho); clear HO_4 HO_277001 BK276 HO284 HO289 HB HO_3 HO292; have HO_4 := n0_; have HO_277001 := n1_; have BK276 := n2_; have HO284 := n3_; have HO289 := n4_; have HB := n5_; have HO295 := n6_; clear n0_ n1_ n2_ n3_ n4_ n5_ n6_ ho hb hg hat))
    go_roundg k1
    case measure => have := HK1.out; omega
    case rel => exact ⟨(y293), (y285), (wrap64 (x20_1 + 1)), rs0, H', ⟨(by have := HK1.out; omega)⟩, ⟨pkS HO295⟩, ⟨(by (with_reducible repeat (first | apply Kd.V_alloc | apply Kd.V_drewN | apply Kd.V_drew)); exact Kd.V_mono HO289.out (fun _ hk => ⟨hk.1.1, ⟨hk.2, hk.1.2.2⟩⟩))⟩, ⟨(by (with_reducible repeat (first | apply Kd.V_alloc | apply Kd.V_drewN | apply Kd.V_drew)); exact Kd.V_mono HO_277001.out (fun _ hk => ⟨hk.1.1, ⟨hk.2, hk.1.2.2⟩⟩))⟩, ⟨pkb BK276⟩, ⟨z9_35⟩⟩
   rw [if_neg c16] at H
   have c16b0 : ((rd l0_0 x20_1) == 1) = false := beq_eq_false_iff_ne.mpr c16
   have c16b1 : ((rd l0_0 x20_1) != 1) = true := bne_iff_ne.mpr c16
   obtain ⟨ji25, hji25⟩ : ∃ j_ : Int, (wrap64 ((x3_1.length : Int) - 1)) = j_ := ⟨_, rfl⟩
   replace H : (if 0 ≤ (ji25) then (if (ji25) < (x3_1.length : Int) then (if 0 < ((rd_L2 x3_1 (ji25)).length : Int) then (if 0 ≤ (wrap64 (((rd_L2 x3_1 (ji25)).length : Int) - 1)) then (if (wrap64 (((rd_L2 x3_1 (ji25)).length : Int) - 1)) < ((rd_L2 x3_1 (ji25)).length : Int) then (if (rd l0_0 x20_1) = 5 then (if (!(((rd_T46 (rd_L2 x3_1 (ji25)) 0).f0) == ((rd_T46 (rd_L2 x3_1 (ji25)) (wrap64 (((rd_L2 x3_1 (ji25)).length : Int) - 1))).f0)) || (!(((rd_T46 (rd_L2 x3_1 (ji25)) 0).f1) == ((rd_T46 (rd_L2 x3_1 (ji25)) (wrap64 (((rd_L2 x3_1 (ji25)).length : Int) - 1))).f1)))) = true then (if (rd_L2 x3_1 (ji25)).length < 8796093022208 then ((some (x3_1.set ((ji25) : Int).toNat ((rd_L2 x3_1 (ji25)) ++ [(⟨(rd_T46 (rd_L2 x3_1 (ji25)) 0).f0, (rd_T46 (rd_L2 x3_1 (ji25)) 0).f1⟩ : S46)]) : List (List (S46)))).bind fun y307 => ((impl_flatten.f k1 (rd l0_0 x20_1) ((rd_T46 (rd_L2 x3_1 (ji25)) (wrap64 (((rd_L2 x3_1 (ji25)).length : Int) - 1))).f0) ((rd_T46 (rd_L2 x3_1 (ji25)) (wrap64 (((rd_L2 x3_1 (ji25)).length : Int) - 1))).f1) y280).bind fun t309 => (if (rd_L2 y307 (ji25)).length + t309.length < 8796093022208 then (impl_FlatOf.l0 k1 (y307.set ((ji25) : Int).toNat ((rd_L2 y307 (ji25)) ++ t309)) y285 l0_0 (l0_0.length : Int) (wrap64 (x20_1 + 1))) else (none)))) else (none)) else ((impl_flatten.f k1 (rd l0_0 x20_1) ((rd_T46 (rd_L2 x3_1 (ji25)) (wrap64 (((rd_L2 x3_1 (ji25)).length : Int) - 1))).f0) ((rd_T46 (rd_L2 x3_1 (ji25)) (wrap64 (((rd_L2 x3_1 (ji25)).length : Int) - 1))).f1) y280).bind fun t317 => (if (rd_L2 x3_1 (ji25)).length + t317.length < 8796093022208 then (impl_FlatOf.l0 k1 (x3_1.set ((ji25) : Int).toNat ((rd_L2 x3_1 (ji25)) ++ t317)) y285 l0_0 (l0_0.length : Int) (wrap64 (x20_1 + 1))) else (none)))) else ((impl_flatten.f k1 (rd l0_0 x20_1) ((rd_T46 (rd_L2 x3_1 (ji25)) (wrap64 (((rd_L2 x3_1 (ji25)).length : Int) - 1))).f0) ((rd_T46 (rd_L2 x3_1 (ji25)) (wrap64 (((rd_L2 x3_1 (ji25)).length : Int) - 1))).f1) y280).bind fun t325 => (if (rd_L2 x3_1 (ji25)).length + t325.length < 8796093022208 then (impl_FlatOf.l0 k1 (x3_1.set ((ji25) : Int).toNat ((rd_L2 x3_1 (ji25)) ++ t325)) y285 l0_0 (l0_0.length : Int) (wrap64 (x20_1 + 1))) else (none)))) else (none)) else (none)) else (none)) else (none)) else (none)) = some r := by first | (rw [hji25] at H; exact H) | (simp only [hji25] at H ⊢; exact H)
   (try rw [hji25] at A11)
   have hji25w : (IntKind.i64.wrap ((x3_1.length : Int) - 1)) = ji25 := (i64_w _).trans hji25
   by_cases c26 : 0 ≤ (ji25)
   rotate_left
   ·rw [if_neg c26] at H
    exact absurd H (by simp)
   rw [if_pos c26] at H
   have c26b0 := decide_eq_true c26
   clear c26
   by_cases c27 : (ji25) < (x3_1.length : Int)
   rotate_left
   ·rw [if_neg c27] at H
    exact absurd H (by simp)
   rw [if_pos c27] at H
   have c27b0 := decide_eq_true c27
   clear c27
   by_cases c28 : 0 < ((rd_L2 x3_1 (ji25)).length : Int)
   rotate_left
   ·rw [if_neg c28] at H
    exact absurd H (by simp)
   rw [if_pos c28] at H
   have c28b0 := decide_eq_true c28
   have c28b1 : decide (0 < (rd_L2 x3_1 (ji25)).length) = true := decide_eq_true (by omega)
   clear c28
   obtain ⟨ji29, hji29⟩ : ∃ j_ : Int, (wrap64 (((rd_L2 x3_1 (ji25)).length : Int) - 1)) = j_ := ⟨_, rfl⟩
   replace H : (if 0 ≤ (ji29) then (if (ji29) < ((rd_L2 x3_1 (ji25)).length : Int) then (if (rd l0_0 x20_1) = 5 then (if (!(((rd_T46 (rd_L2 x3_1 (ji25)) 0).f0) == ((rd_T46 (rd_L2 x3_1 (ji25)) (ji29)).f0)) || (!(((rd_T46 (rd_L2 x3_1 (ji25)) 0).f1) == ((rd_T46 (rd_L2 x3_1 (ji25)) (ji29)).f1)))) = true then (if (rd_L2 x3_1 (ji25)).length < 8796093022208 then ((some (x3_1.set ((ji25) : Int).toNat ((rd_L2 x3_1 (ji25)) ++ [(⟨(rd_T46 (rd_L2 x3_1 (ji25)) 0).f0, (rd_T46 (rd_L2 x3_1 (ji25)) 0).f1⟩ : S46)]) : List (List (S46)))).bind fun y307 => ((impl_flatten.f k1 (rd l0_0 x20_1) ((rd_T46 (rd_L2 x3_1 (ji25)) (ji29)).f0) ((rd_T46 (rd_L2 x3_1 (ji25)) (ji29)).f1) y280).bind fun t309 => (if (rd_L2 y307 (ji25)).length + t309.length < 8796093022208 then (impl_FlatOf.l0 k1 (y307.set ((ji25) : Int).toNat ((rd_L2 y307 (ji25)) ++ t309)) y285 l0_0 (l0_0.length : Int) (wrap64 (x20_1 + 1))) else (none)))) else (none)) else ((impl_flatten.f k1 (rd l0_0 x20_1) ((rd_T46 (rd_L2 x3_1 (ji25)) (ji29)).f0) ((rd_T46 (rd_L2 x3_1 (ji25)) (ji29)).f1) y280).bind fun t317 => (if (rd_L2 x3_1 (ji25)).length + t317.length < 8796093022208 then (impl_FlatOf.l0 k1 (x3_1.set ((ji25) : Int).toNat ((rd_L2 x3_1 (ji25)) ++ t317)) y285 l0_0 (l0_0.length : Int) (wrap64 (x20_1 + 1))) else (none)))) else ((impl_flatten.f k1 (rd l0_0 x20_1) ((rd_T46 (rd_L2 x3_1 (ji25)) (ji29)).f0) ((rd_T46 (rd_L2 x3_1 (ji25)) (ji29)).f1) y280).bind fun t325 => (if (rd_L2 x3_1 (ji25)).length + t325.length < 8796093022208 then (impl_FlatOf.l0 k1 (x3_1.set ((ji25) : Int).toNat ((rd_L2 x3_1 (ji25)) ++ t325)) y285 l0_0 (l0_0.length : Int) (wrap64 (x20_1 + 1))) else (none)))) else (none)) else (none)) = some r := by first | (rw [hji29] at H; exact H) | (simp only [hji29] at H ⊢; exact H)
   (try rw [hji29] at A11)
   have hji29w : (IntKind.i64.wrap (((rd_L2 x3_1 (ji25)).length : Int) - 1)) = ji29 := (i64_w _).trans hji29
   by_cases c30 : 0 ≤ (ji29)
   rotate_left
   ·rw [if_neg c30] at H
    exact absurd H (by simp)
   rw [if_pos c30] at H
   have c30b0 := decide_eq_true c30
   clear c30
   by_cases c31 : (ji29) < ((rd_L2 x3_1 (ji25)).length : Int)
   rotate_left
   ·rw [if_neg c31] at H
    exact absurd H (by simp)
   rw [if_pos c31] at H
   have c31b0 := decide_eq_true c31
   clear c31
   by_cases c32 : (rd l0_0 x20_1) = 5
   rotate_left
   ·rw [if_neg c32] at H
    have c32b0 : ((rd l0_0 x20_1) == 5) = false := beq_eq_false_iff_ne.mpr c32
    have c32b1 : ((rd l0_0 x20_1) != 5) = true := bne_iff_ne.mpr c32
    replace H := Option.bind_eq_some_iff.mp H
    obtain ⟨t325, A980, H⟩ := H
    try dsimp only at H
    have A98 := mk0 A980
    clear A980
    by_cases c99 : (rd_L2 x3_1 (ji25)).length + t325.length < 8796093022208
    rotate_left
    ·rw [if_neg c99] at H
     exact absurd H (by simp)
    rw [if_pos c99] at H
    have LMc99 := mk0 c99
    clear c99
    obtain ⟨y328, hy_⟩ : ∃ y_ : List (S46), y_ = ((rd_L2 x3_1 (ji25)) ++ t325) := ⟨_, rfl⟩
    replace H : (impl_FlatOf.l0 k1 (x3_1.set ((ji25) : Int).toNat y328) y285 l0_0 (l0_0.length : Int) (wrap64 (x20_1 + 1))) = some r := z9_38
    have Ny328 := mk0 hy_
    clear hy_
    obtain ⟨y331, hy_⟩ : ∃ y_ : List (List (S46)), y_ = (x3_1.set ((ji25) : Int).toNat y328) := ⟨_, rfl⟩
    replace H : (impl_FlatOf.l0 k1 y331 y285 l0_0 (l0_0.length : Int) (wrap64 (x20_1 + 1))) = some r := z9_38
    have Ny331 := mk0 hy_
    clear hy_
    have H' := mk0 H
    clear H
    have p278 : 0 ≤ (x20_1 : Int) := of_decide_eq_true (by first | (with_reducible assumption) | assumption)
    have q278 : x20_1 < (l0_0.length : Int) := of_decide_eq_true (by first | (with_reducible assumption) | assumption)
    obtain ⟨ad278, e278, hx278_0⟩ := Kd.at_int HR0_0.out x20_1 p278 q278
    cases e278
    replace hx278_0 := cell_go HB hx278_0
    replace p278 := eq_true p278
    replace q278 := eq_true q278
    try go_wp2_with (first | ((with_reducible refine gate_callee (f := 28) rfl ?_); refine goesL_ (some 25) rfl rfl Try.func28 (by kernel_rfl) rfl #[.int .i64 (rd l0_0 x20_1)] rfl z9_59 ?_; (with_reducible refine (impl_NeedOf.calls k1 (rd l0_0 x20_1) t279 _ A11.out).mono ?_); rintro e w' ⟨rfl, ⟨nd, rfl⟩⟩; refine ⟨_, rfl, ?_⟩; (try (rw [drewN_self wr]; generalize hq_ : World.drewN wr _ = wr; have n0_ : Aside0 (Kd.V k46 46 wr w.heap.size (fun k_ => ((P0_1_ k_) ∧ k_ < w.heap.size) ∧ some k_ ≠ (u3 : Value).ownBlock ∧ k_ ≠ gb276) (.slice A0_1 l0_1.length c0_1) l0_1) := ⟨(by rw [← hq_]; exact (pkV HO_277001))⟩; have n1_ : Aside0 (Kd.S (Kd.slice 46 k46) 29 wr w.heap.size (fun k_ => (w.heap.size ≤ k_)) u3 x3_1) := ⟨(by rw [← hq_]; exact (pkS HO_3))⟩; have n2_ : Aside0 (Kd.V k46 46 wr w.heap.size (fun k_ => ((P0_1_ k_) ∧ k_ < w.heap.size) ∧ some k_ ≠ (u3 : Value).ownBlock ∧ k_ ≠ gb276) u4 x4_1) := ⟨(by rw [← hq_]; exact (pkV HO_4))⟩; have n3_ : Aside0 (wr.heap[gb276]? = some (.cells #[.slice (some ad278) l0_0.length c0_0, .slice A0_1 l0_1.length c0_1] 31 (0, 0))) := ⟨(by rw [← hq_]; exact (pkb BK276))⟩; have n4_ : Aside0 (Below w.heap.size w wr) := ⟨(by rw [← hq_]; exact z9_35)⟩; clear HO_277001 HO_3 HO_4 BK276 HB hq_; have HO_277001 := n0_; have HO_3 := n1_; have HO_4 := n2_; have BK276 := n3_; have HB := n4_; clear n0_ n1_ n2_ n3_ n4_)); obtain ⟨Ao101, co101, eo101⟩ := Kd.V_slice HO_4.out; subst eo101; have q100 : (t279 : Int) ≤ ((x4_1.length : Int) : Int) := of_decide_eq_true (by first | (with_reducible assumption) | assumption); obtain ⟨i0100, hi0100, _, hsz100, _⟩ := info_parts info46; have hroom100 : x4_1.length ≤ co101 := (Kd.V_reads' HO_4.out).2.1; have hC100 : Kd.F k46 _ _ Ao101 x4_1.length x4_1 := (Kd.V_at (base := w.heap.size) HO_4.out).2.2; have hcut100 := cut_to (P := Try.prog) 29 46 .i64 Try.underlying29 hi0100 Ao101 x4_1.length co101 t279 (of_decide_eq_true (by first | (with_reducible assumption) | assumption)) q100 hroom100; have hr100 := Kd.F_take (m := (t279 : Int).toNat) hC100 (by omega); have hy100 : y280.length = (t279 : Int).toNat := (by rw [Ny280.out, List.length_take]; omega); rw [← Ny280.out] at hr100; rw [← hy100] at hcut100; have HO284 := mk0 (show Kd.V k46 46 _ w.heap.size _ (.slice Ao101 y280.length co101) y280 from Kd.V_mk (by omega) hr100); have HC284 := mk0 (show y280.length ≤ co101 from by omega); clear hr100 hC100 hroom100 hi0100 hsz100; have KY100 := mk0 hy100; clear hy100; replace q100 := eq_true q100; have q102 : (t279 : Int) ≤ ((x4_1.length : Int) : Int) := of_decide_eq_true (by first | (with_reducible assumption) | assumption); obtain ⟨i0102, hi0102, _, hsz102, _⟩ := info_parts info46; have hroom102 : x4_1.length ≤ co101 := (Kd.V_reads' HO_4.out).2.1; have hC102 : Kd.F k46 _ _ Ao101 x4_1.length x4_1 := (Kd.V_at (base := w.heap.size) HO_4.out).2.2; have q0102 : (0 : Int) ≤ (t279 : Int) := of_decide_eq_true (by first | (with_reducible assumption) | assumption); have hcut102 := cut_from (P := Try.prog) 29 46 .i64 Try.underlying29 hi0102 2 hsz102 Ao101 x4_1.length co101 t279 q0102 q102; have hr102 := Kd.F_cut (m := (t279 : Int).toNat) (c := co101) hC102 (by omega) hroom102; obtain ⟨A102, hA102⟩ : ∃ A1, A1 = (if co101 = (t279 : Int).toNat then Ao101 else (Ao101 : Option Addr).map (·.add ((t279 : Int).toNat * 2))) := ⟨_, rfl⟩; obtain ⟨c102, hc102⟩ : ∃ c1, c1 = co101 - (t279 : Int).toNat := ⟨_, rfl⟩; have hy102 : y285.length = x4_1.length - (t279 : Int).toNat := (by rw [Ny285.out, List.length_drop] <;> omega); rw [show (x4_1).drop (t279 : Int).toNat = y285 from Ny285.out.symm] at hr102; replace hr102 : Kd.F k46 _ _ A102 y285.length y285 := (by rw [hA102]; exact hr102); rw [← hy102, ← hA102, ← hc102] at hcut102; have HO289 := mk0 (show Kd.V k46 46 _ w.heap.size _ (.slice A102 y285.length c102) y285 from Kd.V_mk (by rw [hy102, hc102]; exact Nat.sub_le_sub_right hroom102 _) hr102); have HC289 := mk0 (show y285.length ≤ c102 from by rw [hy102, hc102]; exact Nat.sub_le_sub_right hroom102 _); clear hr102 hC102 hroom102 hi0102 hsz102 hc102; have KY102 := mk0 hy102; have KA102 := mk0 hA102; clear hy102 hA102; replace q102 := eq_true q102; obtain ⟨Ao103, co103, eo103⟩ := Kd.S_slice HO_3.out; subst eo103))
    have n0_ := mk0 (Kd.S_drew HO_3.out)
    have n1_ := mk0 (Kd.V_drew HO_4.out)
    have n2_ := mk0 (Kd.V_drew HO_277001.out)
    have n3_ := mk0 (Kd.V_drew HO284.out)
    have n4_ := mk0 (Kd.V_drew HO289.out)
    have n5_ := mk0 (blk_drew BK276.out)
    have n6_ := mk0 (below_drew1 HB.out)
    clear HO_3 HO_4 HO_277001 HO284 HO289 BK276 HB; have HO_3 := n0_; have HO_4 := n1_; have HO_277001 := n2_; have HO284 := n3_; have HO289 := n4_; have BK276 := n5_; have HB := n6_; clear n0_ n1_ n2_ n3_ n4_ n5_ n6_
    have p296 : 0 ≤ ((ji25) : Int) := of_decide_eq_true (by first | (with_reducible assumption) | assumption)
    have q296 : (ji25) < (x3_1.length : Int) := of_decide_eq_true (by first | (with_reducible assumption) | assumption)
    obtain ⟨ad296, A296_0, c296_0, e296, hx296_0, hl296_0, hi296_0⟩ := at_L2 (Kd.S_reads' HO_3.out).2.2 (ji25) p296 q296
    cases e296
    obtain ⟨ce296, hce296, hMe296, hcc296⟩ := Kd.S_get HO_3.out [] (ji25) p296 z9_82
    obtain ⟨ve296_0, rfl, ge296_0⟩ := hMe296
    have hv296_0 := hcc296 0 _ rfl
    rw [Nat.add_zero, show ((Kd.slice 46 k46)).sz = 1 from rfl, Nat.mul_one] at hv296_0
    replace hv296_0 := Option.some.inj (hv296_0.symm.trans hx296_0)
    rw [hv296_0] at ge296_0
    have HL296_0 := mk0 (show Kd.R k46 46 _ _ _ _ (rd_L2 x3_1 (ji25)) from ge296_0)
    clear hv296_0 ge296_0
    have HX296_0 := mk0 hx296_0
    clear hcc296 hce296
    have HR296_0 := mk0 hi296_0
    have HC296_0 := mk0 hl296_0
    clear hi296_0 hl296_0
    replace p296 := eq_true p296
    replace q296 := eq_true q296
    have p297 : 0 ≤ (0 : Int) := (by omega)
    have q297 : 0 < ((rd_L2 x3_1 (ji25)).length : Int) := of_decide_eq_true (by first | (with_reducible assumption) | assumption)
    obtain ⟨ad297, e297, hx297_0, hx297_1⟩ := at_T46 z9_36 0 p297 q297
    cases e297
    have qi297 : (0 < (rd_L2 x3_1 (ji25)).length) = True := eq_true (by omega)
    (try rw [show ((0 : Int)).toNat = 0 from rfl] at hx297_0)
    (try rw [show 0 * 2 = 0 from rfl] at hx297_0)
    (try rw [Addr.add_zero'] at hx297_0)
    (try rw [show ((0 : Int)).toNat = 0 from rfl] at hx297_1)
    (try rw [show 0 * 2 = 0 from rfl] at hx297_1)
    (try rw [Addr.add_zero'] at hx297_1)
    replace p297 := eq_true p297
    replace q297 := eq_true q297
    have p298 : 0 ≤ ((ji25) : Int) := of_decide_eq_true (by first | (with_reducible assumption) | assumption)
    have q298 : (ji25) < (x3_1.length : Int) := of_decide_eq_true (by first | (with_reducible assumption) | assumption)
    obtain ⟨ad298, A298_0, c298_0, e298, hx298_0, hl298_0, hi298_0⟩ := at_L2 (Kd.S_reads' HO_3.out).2.2 (ji25) p298 q298
    obtain rfl : ad296 = ad298 := (by injection e298)
    obtain ⟨ce298, hce298, hMe298, hcc298⟩ := Kd.S_get HO_3.out [] (ji25) p298 z9_83
    obtain ⟨ve298_0, rfl, ge298_0⟩ := hMe298
    have hv298_0 := hcc298 0 _ rfl
    rw [Nat.add_zero, show ((Kd.slice 46 k46)).sz = 1 from rfl, Nat.mul_one] at hv298_0
    replace hv298_0 := Option.some.inj (hv298_0.symm.trans hx298_0)
    rw [hv298_0] at ge298_0
    have HL298_0 := mk0 (show Kd.R k46 46 _ _ _ _ (rd_L2 x3_1 (ji25)) from ge298_0)
    clear hv298_0 ge298_0
    have HX298_0 := mk0 hx298_0
    clear hcc298 hce298
    have HR298_0 := mk0 hi298_0
    have HC298_0 := mk0 hl298_0
    clear hi298_0 hl298_0
    replace p298 := eq_true p298
    replace q298 := eq_true q298
    have ea_ := Option.some.inj (hx296_0.symm.trans hx298_0)
    injection ea_ with ea_ en_ ec_
    subst ea_; subst ec_; clear en_
    have p299 : 0 ≤ ((ji25) : Int) := of_decide_eq_true (by first | (with_reducible assumption) | assumption)
    have q299 : (ji25) < (x3_1.length : Int) := of_decide_eq_true (by first | (with_reducible assumption) | assumption)
    obtain ⟨ad299, A299_0, c299_0, e299, hx299_0, hl299_0, hi299_0⟩ := at_L2 (Kd.S_reads' HO_3.out).2.2 (ji25) p299 q299
    obtain rfl : ad296 = ad299 := (by injection e299)
    obtain ⟨ce299, hce299, hMe299, hcc299⟩ := Kd.S_get HO_3.out [] (ji25) p299 z9_84
    obtain ⟨ve299_0, rfl, ge299_0⟩ := hMe299
    have hv299_0 := hcc299 0 _ rfl
    rw [Nat.add_zero, show ((Kd.slice 46 k46)).sz = 1 from rfl, Nat.mul_one] at hv299_0
    replace hv299_0 := Option.some.inj (hv299_0.symm.trans hx299_0)
    rw [hv299_0] at ge299_0
    have HL299_0 := mk0 (show Kd.R k46 46 _ _ _ _ (rd_L2 x3_1 (ji25)) from ge299_0)
    clear hv299_0 ge299_0
    have HX299_0 := mk0 hx299_0
    clear hcc299 hce299
    have HR299_0 := mk0 hi299_0
    have HC299_0 := mk0 hl299_0
    clear hi299_0 hl299_0
    replace p299 := eq_true p299
    replace q299 := eq_true q299
    have ea_ := Option.some.inj (hx296_0.symm.trans hx299_0)
    injection ea_ with ea_ en_ ec_
    subst ea_; subst ec_; clear en_
    have p300 : 0 ≤ ((ji29) : Int) := of_decide_eq_true (by first | (with_reducible assumption) | assumption)
    have q300 : (ji29) < ((rd_L2 x3_1 (ji25)).length : Int) := of_decide_eq_true (by first | (with_reducible assumption) | assumption)
    obtain ⟨ad300, e300, hx300_0, hx300_1⟩ := at_T46 z9_37 (ji29) p300 q300
    cases e300
    replace p300 := eq_true p300
    replace q300 := eq_true q300
    go_wp2
    refine start_ (n := 19) (S := fun w' => w'.cell? (ad296.add ((ji25)).toNat) = some (.slice (some ad297) (rd_L2 x3_1 (ji25)).length c296_0) ∧ w'.cell? ad297 = some (.int .i64 ((rd_T46 (rd_L2 x3_1 (ji25)) 0).f0)) ∧ w'.cell? ⟨ad297.block, ad297.off + 1, none⟩ = some (.int .i64 ((rd_T46 (rd_L2 x3_1 (ji25)) 0).f1)) ∧ w'.cell? (ad296.add ((ji25)).toNat) = some (.slice (some ad297) (rd_L2 x3_1 (ji25)).length c296_0) ∧ w'.cell? (ad296.add ((ji25)).toNat) = some (.slice (some ad297) (rd_L2 x3_1 (ji25)).length c296_0) ∧ w'.cell? (ad297.add (((ji29)).toNat * 2)) = some (.int .i64 ((rd_T46 (rd_L2 x3_1 (ji25)) (ji29)).f0)) ∧ w'.cell? ⟨(ad297.add (((ji29)).toNat * 2)).block, (ad297.add (((ji29)).toNat * 2)).off + 1, none⟩ = some (.int .i64 ((rd_T46 (rd_L2 x3_1 (ji25)) (ji29)).f1))) (ds := []) y9_0 (by kernel_rfl) rfl rfl ⟨hx296_0, hx297_0, hx297_1, hx298_0, hx299_0, hx300_0, hx300_1⟩ (fun hHeld => ?_); refine with_tabW impl_FlatOf.tab14 impl_FlatOf.bits14 (fun HT_ HW_ => ?_)
    generalize wr.drew = w104 at HO_3 HO_4 HO_277001 HO284 HO289 BK276 HB HL296_0 HL298_0 HL299_0 HR296_0 HR298_0 HR299_0 HX296_0 HX298_0 HX299_0 hx296_0 hx297_0 hx297_1 hx298_0 hx299_0 hx300_0 hx300_1 hHeld ⊢
    refine pzv (i := 0) (N := 46) (v := ?_) (a' := ?_) y9_3 HT_ ?_ ?_ ?_
    rotate_left
    ·intro w'
     go_simp; with_reducible rfl
    rotate_left
    ·exact x9_put
    refine pzv (i := 1) (N := 47) (v := ?_) (a' := ?_) y9_6 HT_ ?_ ?_ ?_
    rotate_left
    ·intro w'
     go_simp; with_reducible rfl
    rotate_left
    ·exact x9_put
    refine pzv (i := 5) (N := 51) (v := ?_) (a' := ?_) y9_9 HT_ ?_ ?_ ?_
    rotate_left
    ·intro w'
     go_simp; with_reducible rfl
    rotate_left
    ·exact x9_put
    refine pzv (i := 6) (N := 52) (v := ?_) (a' := ?_) y9_10 HT_ ?_ ?_ ?_
    rotate_left
    ·intro w'
     go_simp; with_reducible rfl
    rotate_left
    ·exact x9_put
    refine pzv (i := 8) (N := 54) (v := ?_) (a' := ?_) y9_11 HT_ ?_ ?_ ?_
    rotate_left
    ·intro w'
     go_simp; with_reducible rfl
    rotate_left
    ·exact x9_put
    refine pzv (i := 9) (N := 55) (v := ?_) (a' := ?_) y9_12 HT_ ?_ ?_ ?_
    rotate_left
    ·intro w'
     go_simp; with_reducible rfl
    rotate_left
    ·exact x9_put
    refine take_ (i := 2) (N := some 48) (v := ?_) (a' := ?_) y9_15 rfl rfl (take_ofW HT_.out HW_.out (by kernel_rfl)) (fun _ _ _ h => h) (Or.inl ⟨by rfl, ?_⟩) hHeld ?_ ?_
    rotate_left
    ·rintro w' ⟨s0, s1, s2, s3, s4, s5, s6⟩
     go_simp; with_reducible rfl
    rotate_left
    ·exact x9_put
    refine pzv (i := 3) (N := 49) (v := ?_) (a' := ?_) y9_19 HT_ ?_ ?_ ?_
    rotate_left
    ·intro w'
     go_simp; with_reducible rfl
    rotate_left
    ·exact x9_put
    refine take_ (i := 4) (N := some 50) (v := ?_) (a' := ?_) y9_25 rfl rfl (take_ofW HT_.out HW_.out (by kernel_rfl)) (fun _ _ _ h => h) (Or.inl ⟨by rfl, ?_⟩) hHeld ?_ ?_
    rotate_left
    ·rintro w' ⟨s0, s1, s2, s3, s4, s5, s6⟩
     go_simp; with_reducible rfl
    rotate_left
    ·exact x9_put
    refine take_ (i := 7) (N := some 53) (v := ?_) (a' := ?_) y9_29 rfl rfl (take_ofW HT_.out HW_.out (by kernel_rfl)) (fun _ _ _ h => h) (Or.inl ⟨by rfl, ?_⟩) hHeld ?_ ?_
    rotate_left
    ·rintro w' ⟨s0, s1, s2, s3, s4, s5, s6⟩
     go_simp; with_reducible rfl
    rotate_left
    ·exact x9_put
    refine take_ (i := 10) (N := some 56) (v := ?_) (a' := ?_) y9_31 rfl rfl (take_ofW HT_.out HW_.out (by kernel_rfl)) (fun _ _ _ h => h) (Or.inl ⟨by rfl, ?_⟩) hHeld ?_ ?_
    rotate_left
    ·rintro w' ⟨s0, s1, s2, s3, s4, s5, s6⟩
     go_simp; with_reducible rfl
    rotate_left
    ·exact x9_put
    refine pzv (i := 11) (N := 57) (v := ?_) (a' := ?_) y9_32 HT_ ?_ ?_ ?_
    rotate_left
    ·intro w'
     go_simp; with_reducible rfl
    rotate_left
    ·exact x9_put
    refine pzv (i := 12) (N := 58) (v := ?_) (a' := ?_) y9_33 HT_ ?_ ?_ ?_
    rotate_left
    ·intro w'
     go_simp; with_reducible rfl
    rotate_left
    ·exact x9_put
    refine pzv (i := 13) (N := 59) (v := ?_) (a' := ?_) y9_34 HT_ ?_ ?_ ?_
    rotate_left
    ·intro w'
     go_simp; with_reducible rfl
    rotate_left
    ·exact x9_put
    refine take_ (i := 14) (N := some 60) (v := ?_) (a' := ?_) y9_35 rfl rfl (take_ofW HT_.out HW_.out (by kernel_rfl)) (fun _ _ _ h => h) (Or.inl ⟨by rfl, ?_⟩) hHeld ?_ ?_
    rotate_left
    ·rintro w' ⟨s0, s1, s2, s3, s4, s5, s6⟩
     go_simp; with_reducible rfl
    rotate_left
    ·exact x9_put
    refine join_ (σ := Nat × Nat) 2 y9_38 (fun s_ => [(10, .pointer (some ⟨s_.1, 0, none⟩)), (11, .pointer (some ⟨s_.2, 0, none⟩))]) (fun s_ w' => (w'.cell? (ad296.add ((ji25)).toNat) = some (.slice (some ad297) (rd_L2 x3_1 (ji25)).length c296_0) ∧ w'.cell? ad297 = some (.int .i64 ((rd_T46 (rd_L2 x3_1 (ji25)) 0).f0)) ∧ w'.cell? ⟨ad297.block, ad297.off + 1, none⟩ = some (.int .i64 ((rd_T46 (rd_L2 x3_1 (ji25)) 0).f1)) ∧ w'.cell? (ad296.add ((ji25)).toNat) = some (.slice (some ad297) (rd_L2 x3_1 (ji25)).length c296_0) ∧ w'.cell? (ad296.add ((ji25)).toNat) = some (.slice (some ad297) (rd_L2 x3_1 (ji25)).length c296_0) ∧ w'.cell? (ad297.add (((ji29)).toNat * 2)) = some (.int .i64 ((rd_T46 (rd_L2 x3_1 (ji25)) (ji29)).f0)) ∧ w'.cell? ⟨(ad297.add (((ji29)).toNat * 2)).block, (ad297.add (((ji29)).toNat * 2)).off + 1, none⟩ = some (.int .i64 ((rd_T46 (rd_L2 x3_1 (ji25)) (ji29)).f1))) ∧ (Kd.R k46 46 w' w.heap.size (fun k_ => (w.heap.size ≤ k_) ∧ some k_ ≠ (.slice (some ad296) x3_1.length co103 : Value).ownBlock ∧ k_ ≠ s_.1 ∧ k_ ≠ s_.2) (.slice (some ad297) (rd_L2 x3_1 (ji25)).length c296_0) (rd_L2 x3_1 (ji25))) ∧ (Kd.R k46 46 w' w.heap.size (fun k_ => (w.heap.size ≤ k_) ∧ some k_ ≠ (.slice (some ad296) x3_1.length co103 : Value).ownBlock ∧ k_ ≠ s_.1 ∧ k_ ≠ s_.2) (.slice (some ad297) (rd_L2 x3_1 (ji25)).length c296_0) (rd_L2 x3_1 (ji25))) ∧ (Kd.R k46 46 w' w.heap.size (fun k_ => (w.heap.size ≤ k_) ∧ some k_ ≠ (.slice (some ad296) x3_1.length co103 : Value).ownBlock ∧ k_ ≠ s_.1 ∧ k_ ≠ s_.2) (.slice (some ad297) (rd_L2 x3_1 (ji25)).length c296_0) (rd_L2 x3_1 (ji25))) ∧ (Kd.V k46 46 w' w.heap.size (fun k_ => ((P0_1_ k_) ∧ k_ < w.heap.size) ∧ some k_ ≠ (.slice (some ad296) x3_1.length co103 : Value).ownBlock ∧ k_ ≠ gb276 ∧ k_ ≠ s_.1 ∧ k_ ≠ s_.2) (.slice Ao101 y280.length co101) y280) ∧ (Kd.V k46 46 w' w.heap.size (fun k_ => ((P0_1_ k_) ∧ k_ < w.heap.size) ∧ some k_ ≠ (.slice (some ad296) x3_1.length co103 : Value).ownBlock ∧ k_ ≠ gb276 ∧ k_ ≠ s_.1 ∧ k_ ≠ s_.2) (.slice A102 y285.length c102) y285) ∧ (Kd.V k46 46 w' w.heap.size (fun k_ => ((P0_1_ k_) ∧ k_ < w.heap.size) ∧ some k_ ≠ (.slice (some ad296) x3_1.length co103 : Value).ownBlock ∧ k_ ≠ gb276 ∧ k_ ≠ s_.1 ∧ k_ ≠ s_.2) (.slice A0_1 l0_1.length c0_1) l0_1) ∧ (Kd.S (Kd.slice 46 k46) 29 w' w.heap.size (fun k_ => (w.heap.size ≤ k_) ∧ k_ ≠ s_.1 ∧ k_ ≠ s_.2) (.slice (some ad296) x3_1.length co103) x3_1) ∧ (Kd.V k46 46 w' w.heap.size (fun k_ => ((P0_1_ k_) ∧ k_ < w.heap.size) ∧ some k_ ≠ (.slice (some ad296) x3_1.length co103 : Value).ownBlock ∧ k_ ≠ gb276 ∧ k_ ≠ s_.1 ∧ k_ ≠ s_.2) (.slice Ao101 x4_1.length co101) x4_1) ∧ (w'.cell? (ad296.add ((ji25)).toNat) = some (.slice (some ad297) (rd_L2 x3_1 (ji25)).length c296_0)) ∧ (w'.cell? (ad296.add ((ji25)).toNat) = some (.slice (some ad297) (rd_L2 x3_1 (ji25)).length c296_0)) ∧ (w'.cell? (ad296.add ((ji25)).toNat) = some (.slice (some ad297) (rd_L2 x3_1 (ji25)).length c296_0)) ∧ (w'.heap[gb276]? = some (.cells #[.slice (some ad278) l0_0.length c0_0, .slice A0_1 l0_1.length c0_1] 31 (0, 0))) ∧ (w'.heap[s_.1]? = some (.cells #[.int .i64 0, .int .i64 0] 46 (0, 0))) ∧ (w'.heap[s_.2]? = some (.cells #[.int .i64 0, .int .i64 0] 46 (0, 0))) ∧ (w.heap.size ≤ s_.1) ∧ (w.heap.size ≤ s_.1) ∧ (gb276 ≠ s_.1) ∧ (s_.1 ≠ gb276) ∧ (s_.2 ≠ s_.1) ∧ (s_.1 ≠ s_.2) ∧ (w.heap.size ≤ s_.2) ∧ (w.heap.size ≤ s_.2) ∧ (gb276 ≠ s_.2) ∧ (s_.2 ≠ gb276) ∧ (Below w.heap.size w w')) ?_ ?_
    rotate_left
    ·intro hCont
     refine two_ (i := 15) (j := 16) (Ni := some 10) (Nj := some 11) y9_37 y9_36 rfl rfl rfl rfl (two_of HT_.out (by kernel_rfl)) (by decide) (by decide) (fun K hK => ?_) (fun K hK => ?_)
     ·skip
      refine box_step ?hg (N := 10) ?hd (cs := #[.int .i64 0, .int .i64 0]) (t := 46) ?hr ?_; (case hd => rfl); (case hg => rfl); (case hr => first | (go_simp; done) | (go_simp; rfl))
      intro gb301 hg w105 hbox hb
      have HS0_ := (hb.cell (World.block_lt_of_cell? _ _ (hHeld.1))).trans (hHeld.1)
      have HS1_ := (hb.cell (World.block_lt_of_cell? _ _ (hHeld.2.1))).trans (hHeld.2.1)
      have HS2_ := (hb.cell (World.block_lt_of_cell? _ _ (hHeld.2.2.1))).trans (hHeld.2.2.1)
      have HS3_ := (hb.cell (World.block_lt_of_cell? _ _ (hHeld.2.2.2.1))).trans (hHeld.2.2.2.1)
      have HS4_ := (hb.cell (World.block_lt_of_cell? _ _ (hHeld.2.2.2.2.1))).trans (hHeld.2.2.2.2.1)
      have HS5_ := (hb.cell (World.block_lt_of_cell? _ _ (hHeld.2.2.2.2.2.1))).trans (hHeld.2.2.2.2.2.1)
      have HS6_ := (hb.cell (World.block_lt_of_cell? _ _ (hHeld.2.2.2.2.2.2))).trans (hHeld.2.2.2.2.2.2)
      have n0_ := mk0 (Kd.S_below (Kd.S_elderB (pkS HO_3) gb301 (Nat.le_of_eq hg.symm)) hb)
      have n1_ := mk0 (Kd.V_below (Kd.V_elderB (pkV HO_4) gb301 (Nat.le_of_eq hg.symm)) hb)
      have n2_ := mk0 (Kd.V_below (Kd.V_elderB (pkV HO_277001) gb301 (Nat.le_of_eq hg.symm)) hb)
      have n3_ := mk0 (Kd.V_below (Kd.V_elderB (pkV HO284) gb301 (Nat.le_of_eq hg.symm)) hb)
      have n4_ := mk0 (Kd.V_below (Kd.V_elderB (pkV HO289) gb301 (Nat.le_of_eq hg.symm)) hb)
      have n5_ := mk0 (Kd.R_below (Kd.R_elderB (pkR HL296_0) gb301 (Nat.le_of_eq hg.symm)) hb)
      have n6_ := mk0 (Kd.R_below (Kd.R_elderB (pkR HL298_0) gb301 (Nat.le_of_eq hg.symm)) hb)
      have n7_ := mk0 (Kd.R_below (Kd.R_elderB (pkR HL299_0) gb301 (Nat.le_of_eq hg.symm)) hb)
      have n8_ := mk0 (blk_belowB BK276 (pkb BK276) hb)
      have n9_ := mk0 (Kd.C_below z9_36 hb)
      have n10_ := mk0 (pw_cell_below hb HX296_0.out)
      have n11_ := mk0 (Kd.C_below z9_37 hb)
      have n12_ := mk0 (pw_cell_below hb HX298_0.out)
      have n13_ := mk0 (Kd.C_below z9_41 hb)
      have n14_ := mk0 (pw_cell_below hb HX299_0.out)
      have n15_ := mk0 (below_step z9_35 hb)
      have n16_ := mk0 (hbox)
      have n17_ := mk0 (ge_go (a := w.heap.size) hg (below_size z9_35))
      have n18_ := mk0 (ge_go (a := w.heap.size) hg (below_size z9_35))
      have n19_ := mk0 (nb_lt hg (blk_ltB BK276 (pkb BK276)))
      have n20_ := mk0 (nb_gt hg (blk_ltB BK276 (pkb BK276)))
      clear HO_3 HO_4 HO_277001 HO284 HO289 HL296_0 HL298_0 HL299_0 BK276 HR296_0 HX296_0 HR298_0 HX298_0 HR299_0 HX299_0 HB; have HO_3 := n0_; have HO_4 := n1_; have HO_277001 := n2_; have HO284 := n3_; have HO289 := n4_; have HL296_0 := n5_; have HL298_0 := n6_; have HL299_0 := n7_; have BK276 := n8_; have HR296_0 := n9_; have HX296_0 := n10_; have HR298_0 := n11_; have HX298_0 := n12_; have HR299_0 := n13_; have HX299_0 := n14_; have HB := n15_; have BK301 := n16_; have GW301 := n17_; have GE301 := n18_; have NB276_301 := n19_; have NB301_276 := n20_; clear n0_ n1_ n2_ n3_ n4_ n5_ n6_ n7_ n8_ n9_ n10_ n11_ n12_ n13_ n14_ n15_ n16_ n17_ n18_ n19_ n20_ hb hbox hg
      refine hK.out _ _ ⟨HS0_, HS1_, HS2_, HS3_, HS4_, HS5_, HS6_⟩ (fun hHeld => ?_)
      clear hK K
      refine norm_ (a' := ?_) ?_ ?_
      rotate_left
      ·show Act.put _ (some 10) _ = _
       simp only [Act.put, List.setIfInBounds_toArray, List.set_cons_zero, List.set_cons_succ, i64_w, i32_w]
       rfl
      refine one_ (i := 16) (N := some 11) y9_38 rfl rfl (one_of HT_.out (by kernel_rfl)) (by decide) (fun K hK => ?_)
      refine box_step ?hg (N := 11) ?hd (cs := #[.int .i64 0, .int .i64 0]) (t := 46) ?hr ?_; (case hd => rfl); (case hg => rfl); (case hr => first | (go_simp; done) | (go_simp; rfl))
      intro gb302 hg w106 hbox hb
      have HS0_ := (hb.cell (World.block_lt_of_cell? _ _ (hHeld.1))).trans (hHeld.1)
      have HS1_ := (hb.cell (World.block_lt_of_cell? _ _ (hHeld.2.1))).trans (hHeld.2.1)
      have HS2_ := (hb.cell (World.block_lt_of_cell? _ _ (hHeld.2.2.1))).trans (hHeld.2.2.1)
      have HS3_ := (hb.cell (World.block_lt_of_cell? _ _ (hHeld.2.2.2.1))).trans (hHeld.2.2.2.1)
      have HS4_ := (hb.cell (World.block_lt_of_cell? _ _ (hHeld.2.2.2.2.1))).trans (hHeld.2.2.2.2.1)
      have HS5_ := (hb.cell (World.block_lt_of_cell? _ _ (hHeld.2.2.2.2.2.1))).trans (hHeld.2.2.2.2.2.1)
      have HS6_ := (hb.cell (World.block_lt_of_cell? _ _ (hHeld.2.2.2.2.2.2))).trans (hHeld.2.2.2.2.2.2)
      have n0_ := mk0 (Kd.S_below (Kd.S_elderB (pkS HO_3) gb302 (Nat.le_of_eq hg.symm)) hb)
      have n1_ := mk0 (Kd.V_below (Kd.V_elderB (pkV HO_4) gb302 (Nat.le_of_eq hg.symm)) hb)
      have n2_ := mk0 (Kd.V_below (Kd.V_elderB (pkV HO_277001) gb302 (Nat.le_of_eq hg.symm)) hb)
      have n3_ := mk0 (Kd.V_below (Kd.V_elderB (pkV HO284) gb302 (Nat.le_of_eq hg.symm)) hb)
      have n4_ := mk0 (Kd.V_below (Kd.V_elderB (pkV HO289) gb302 (Nat.le_of_eq hg.symm)) hb)
      have n5_ := mk0 (Kd.R_below (Kd.R_elderB (pkR HL296_0) gb302 (Nat.le_of_eq hg.symm)) hb)
      have n6_ := mk0 (Kd.R_below (Kd.R_elderB (pkR HL298_0) gb302 (Nat.le_of_eq hg.symm)) hb)
      have n7_ := mk0 (Kd.R_below (Kd.R_elderB (pkR HL299_0) gb302 (Nat.le_of_eq hg.symm)) hb)
      have n8_ := mk0 (blk_belowB BK276 (pkb BK276) hb)
      have n9_ := mk0 (Kd.C_below z9_36 hb)
      have n10_ := mk0 (pw_cell_below hb HX296_0.out)
      have n11_ := mk0 (Kd.C_below z9_37 hb)
      have n12_ := mk0 (pw_cell_below hb HX298_0.out)
      have n13_ := mk0 (Kd.C_below z9_41 hb)
      have n14_ := mk0 (pw_cell_below hb HX299_0.out)
      have n15_ := mk0 (blk_belowB BK301 (pkb BK301) hb)
      have n16_ := mk0 (below_step z9_46 hb)
      have n17_ := mk0 (hbox)
      have n18_ := mk0 (ge_go (a := w.heap.size) hg (below_size z9_46))
      have n19_ := mk0 (ge_go (a := w.heap.size) hg (below_size z9_46))
      have n20_ := mk0 (nb_lt hg (blk_ltB BK276 (pkb BK276)))
      have n21_ := mk0 (nb_gt hg (blk_ltB BK276 (pkb BK276)))
      have n22_ := mk0 (nb_lt hg (blk_ltB BK301 (pkb BK301)))
      have n23_ := mk0 (nb_gt hg (blk_ltB BK301 (pkb BK301)))
      clear HO_3 HO_4 HO_277001 HO284 HO289 HL296_0 HL298_0 HL299_0 BK276 HR296_0 HX296_0 HR298_0 HX298_0 HR299_0 HX299_0 BK301 HB; have HO_3 := n0_; have HO_4 := n1_; have HO_277001 := n2_; have HO284 := n3_; have HO289 := n4_; have HL296_0 := n5_; have HL298_0 := n6_; have HL299_0 := n7_; have BK276 := n8_; have HR296_0 := n9_; have HX296_0 := n10_; have HR298_0 := n11_; have HX298_0 := n12_; have HR299_0 := n13_; have HX299_0 := n14_; have BK301 := n15_; have HB := n16_; have BK302 := n17_; have GW302 := n18_; have GE302 := n19_; have NB276_302 := n20_; have NB302_276 := n21_; have NB301_302 := n22_; have NB302_301 := n23_; clear n0_ n1_ n2_ n3_ n4_ n5_ n6_ n7_ n8_ n9_ n10_ n11_ n12_ n13_ n14_ n15_ n16_ n17_ n18_ n19_ n20_ n21_ n22_ n23_ hb hbox hg
      refine hK.out _ _ ⟨HS0_, HS1_, HS2_, HS3_, HS4_, HS5_, HS6_⟩ (fun hHeld => ?_)
      clear hK K
      refine norm_ (a' := ?_) ?_ ?_
      rotate_left
      ·show Act.put _ (some 11) _ = _
       simp only [Act.put, List.setIfInBounds_toArray, List.set_cons_zero, List.set_cons_succ, i64_w, i32_w]
       rfl
      exact norm_ z9_63 (hCont (gb301, gb302) _ ⟨hHeld, z9_74, z9_75, z9_76, z9_67, z9_68, z9_65, z9_80, z9_71, HX296_0.out, HX298_0.out, HX299_0.out, (pkb BK276), (pkb BK301), (pkb BK302), GW301.out, GE301.out, NB276_301.out, NB301_276.out, NB302_301.out, NB301_302.out, GW302.out, GE302.out, NB276_302.out, NB302_276.out, z9_34⟩)
     skip
     refine box_step ?hg (N := 11) ?hd (cs := #[.int .i64 0, .int .i64 0]) (t := 46) ?hr ?_; (case hd => rfl); (case hg => rfl); (case hr => first | (go_simp; done) | (go_simp; rfl))
     intro gb302 hg w105 hbox hb
     have HS0_ := (hb.cell (World.block_lt_of_cell? _ _ (hHeld.1))).trans (hHeld.1)
     have HS1_ := (hb.cell (World.block_lt_of_cell? _ _ (hHeld.2.1))).trans (hHeld.2.1)
     have HS2_ := (hb.cell (World.block_lt_of_cell? _ _ (hHeld.2.2.1))).trans (hHeld.2.2.1)
     have HS3_ := (hb.cell (World.block_lt_of_cell? _ _ (hHeld.2.2.2.1))).trans (hHeld.2.2.2.1)
     have HS4_ := (hb.cell (World.block_lt_of_cell? _ _ (hHeld.2.2.2.2.1))).trans (hHeld.2.2.2.2.1)
     have HS5_ := (hb.cell (World.block_lt_of_cell? _ _ (hHeld.2.2.2.2.2.1))).trans (hHeld.2.2.2.2.2.1)
     have HS6_ := (hb.cell (World.block_lt_of_cell? _ _ (hHeld.2.2.2.2.2.2))).trans (hHeld.2.2.2.2.2.2)
     have n0_ := mk0 (Kd.S_below (Kd.S_elderB (pkS HO_3) gb302 (Nat.le_of_eq hg.symm)) hb)
     have n1_ := mk0 (Kd.V_below (Kd.V_elderB (pkV HO_4) gb302 (Nat.le_of_eq hg.symm)) hb)
     have n2_ := mk0 (Kd.V_below (Kd.V_elderB (pkV HO_277001) gb302 (Nat.le_of_eq hg.symm)) hb)
     have n3_ := mk0 (Kd.V_below (Kd.V_elderB (pkV HO284) gb302 (Nat.le_of_eq hg.symm)) hb)
     have n4_ := mk0 (Kd.V_below (Kd.V_elderB (pkV HO289) gb302 (Nat.le_of_eq hg.symm)) hb)
     have n5_ := mk0 (Kd.R_below (Kd.R_elderB (pkR HL296_0) gb302 (Nat.le_of_eq hg.symm)) hb)
     have n6_ := mk0 (Kd.R_below (Kd.R_elderB (pkR HL298_0) gb302 (Nat.le_of_eq hg.symm)) hb)
     have n7_ := mk0 (Kd.R_below (Kd.R_elderB (pkR HL299_0) gb302 (Nat.le_of_eq hg.symm)) hb)
     have n8_ := mk0 (blk_belowB BK276 (pkb BK276) hb)
     have n9_ := mk0 (Kd.C_below z9_36 hb)
     have n10_ := mk0 (pw_cell_below hb HX296_0.out)
     have n11_ := mk0 (Kd.C_below z9_37 hb)
     have n12_ := mk0 (pw_cell_below hb HX298_0.out)
     have n13_ := mk0 (Kd.C_below z9_41 hb)
     have n14_ := mk0 (pw_cell_below hb HX299_0.out)
     have n15_ := mk0 (below_step z9_35 hb)
     have n16_ := mk0 (hbox)
     have n17_ := mk0 (ge_go (a := w.heap.size) hg (below_size z9_35))
     have n18_ := mk0 (ge_go (a := w.heap.size) hg (below_size z9_35))
     have n19_ := mk0 (nb_lt hg (blk_ltB BK276 (pkb BK276)))
     have n20_ := mk0 (nb_gt hg (blk_ltB BK276 (pkb BK276)))
     clear HO_3 HO_4 HO_277001 HO284 HO289 HL296_0 HL298_0 HL299_0 BK276 HR296_0 HX296_0 HR298_0 HX298_0 HR299_0 HX299_0 HB; have HO_3 := n0_; have HO_4 := n1_; have HO_277001 := n2_; have HO284 := n3_; have HO289 := n4_; have HL296_0 := n5_; have HL298_0 := n6_; have HL299_0 := n7_; have BK276 := n8_; have HR296_0 := n9_; have HX296_0 := n10_; have HR298_0 := n11_; have HX298_0 := n12_; have HR299_0 := n13_; have HX299_0 := n14_; have HB := n15_; have BK302 := n16_; have GW302 := n17_; have GE302 := n18_; have NB276_302 := n19_; have NB302_276 := n20_; clear n0_ n1_ n2_ n3_ n4_ n5_ n6_ n7_ n8_ n9_ n10_ n11_ n12_ n13_ n14_ n15_ n16_ n17_ n18_ n19_ n20_ hb hbox hg
     refine hK.out _ _ ⟨HS0_, HS1_, HS2_, HS3_, HS4_, HS5_, HS6_⟩ (fun hHeld => ?_)
     clear hK K
     refine norm_ (a' := ?_) ?_ ?_
     rotate_left
     ·show Act.put _ (some 11) _ = _
      simp only [Act.put, List.setIfInBounds_toArray, List.set_cons_zero, List.set_cons_succ, i64_w, i32_w]
      rfl
     refine one_ (i := 15) (N := some 10) y9_38 rfl rfl (one_of HT_.out (by kernel_rfl)) (by decide) (fun K hK => ?_)
     refine box_step ?hg (N := 10) ?hd (cs := #[.int .i64 0, .int .i64 0]) (t := 46) ?hr ?_; (case hd => rfl); (case hg => rfl); (case hr => first | (go_simp; done) | (go_simp; rfl))
     intro gb301 hg w106 hbox hb
     have HS0_ := (hb.cell (World.block_lt_of_cell? _ _ (hHeld.1))).trans (hHeld.1)
     have HS1_ := (hb.cell (World.block_lt_of_cell? _ _ (hHeld.2.1))).trans (hHeld.2.1)
     have HS2_ := (hb.cell (World.block_lt_of_cell? _ _ (hHeld.2.2.1))).trans (hHeld.2.2.1)
     have HS3_ := (hb.cell (World.block_lt_of_cell? _ _ (hHeld.2.2.2.1))).trans (hHeld.2.2.2.1)
     have HS4_ := (hb.cell (World.block_lt_of_cell? _ _ (hHeld.2.2.2.2.1))).trans (hHeld.2.2.2.2.1)
     have HS5_ := (hb.cell (World.block_lt_of_cell? _ _ (hHeld.2.2.2.2.2.1))).trans (hHeld.2.2.2.2.2.1)
     have HS6_ := (hb.cell (World.block_lt_of_cell? _ _ (hHeld.2.2.2.2.2.2))).trans (hHeld.2.2.2.2.2.2)
     have n0_ := mk0 (Kd.S_below (Kd.S_elderB (pkS HO_3) gb301 (Nat.le_of_eq hg.symm)) hb)
     have n1_ := mk0 (Kd.V_below (Kd.V_elderB (pkV HO_4) gb301 (Nat.le_of_eq hg.symm)) hb)
     have n2_ := mk0 (Kd.V_below (Kd.V_elderB (pkV HO_277001) gb301 (Nat.le_of_eq hg.symm)) hb)
     have n3_ := mk0 (Kd.V_below (Kd.V_elderB (pkV HO284) gb301 (Nat.le_of_eq hg.symm)) hb)
     have n4_ := mk0 (Kd.V_below (Kd.V_elderB (pkV HO289) gb301 (Nat.le_of_eq hg.symm)) hb)
     have n5_ := mk0 (Kd.R_below (Kd.R_elderB (pkR HL296_0) gb301 (Nat.le_of_eq hg.symm)) hb)
     have n6_ := mk0 (Kd.R_below (Kd.R_elderB (pkR HL298_0) gb301 (Nat.le_of_eq hg.symm)) hb)
     have n7_ := mk0 (Kd.R_below (Kd.R_elderB (pkR HL299_0) gb301 (Nat.le_of_eq hg.symm)) hb)
     have n8_ := mk0 (blk_belowB BK276 (pkb BK276) hb)
     have n9_ := mk0 (Kd.C_below z9_36 hb)
     have n10_ := mk0 (pw_cell_below hb HX296_0.out)
     have n11_ := mk0 (Kd.C_below z9_37 hb)
     have n12_ := mk0 (pw_cell_below hb HX298_0.out)
     have n13_ := mk0 (Kd.C_below z9_41 hb)
     have n14_ := mk0 (pw_cell_below hb HX299_0.out)
     have n15_ := mk0 (blk_belowB BK302 (pkb BK302) hb)
     have n16_ := mk0 (below_step z9_47 hb)
     have n17_ := mk0 (hbox)
     have n18_ := mk0 (ge_go (a := w.heap.size) hg (below_size z9_47))
     have n19_ := mk0 (ge_go (a := w.heap.size) hg (below_size z9_47))
     have n20_ := mk0 (nb_lt hg (blk_ltB BK276 (pkb BK276)))
     have n21_ := mk0 (nb_gt hg (blk_ltB BK276 (pkb BK276)))
     have n22_ := mk0 (nb_lt hg (blk_ltB BK302 (pkb BK302)))
     have n23_ := mk0 (nb_gt hg (blk_ltB BK302 (pkb BK302)))
     clear HO_3 HO_4 HO_277001 HO284 HO289 HL296_0 HL298_0 HL299_0 BK276 HR296_0 HX296_0 HR298_0 HX298_0 HR299_0 HX299_0 BK302 HB; have HO_3 := n0_; have HO_4 := n1_; have HO_277001 := n2_; have HO284 := n3_; have HO289 := n4_; have HL296_0 := n5_; have HL298_0 := n6_; have HL299_0 := n7_; have BK276 := n8_; have HR296_0 := n9_; have HX296_0 := n10_; have HR298_0 := n11_; have HX298_0 := n12_; have HR299_0 := n13_; have HX299_0 := n14_; have BK302 := n15_; have HB := n16_; have BK301 := n17_; have GW301 := n18_; have GE301 := n19_; have NB276_301 := n20_; have NB301_276 := n21_; have NB302_301 := n22_; have NB301_302 := n23_; clear n0_ n1_ n2_ n3_ n4_ n5_ n6_ n7_ n8_ n9_ n10_ n11_ n12_ n13_ n14_ n15_ n16_ n17_ n18_ n19_ n20_ n21_ n22_ n23_ hb hbox hg
     refine hK.out _ _ ⟨HS0_, HS1_, HS2_, HS3_, HS4_, HS5_, HS6_⟩ (fun hHeld => ?_)
     clear hK K
     refine norm_ (a' := ?_) ?_ ?_
     rotate_left
     ·show Act.put _ (some 10) _ = _
      simp only [Act.put, List.setIfInBounds_toArray, List.set_cons_zero, List.set_cons_succ, i64_w, i32_w]
      rfl
     exact norm_ z9_63 (hCont (gb301, gb302) _ ⟨hHeld, z9_77, z9_78, z9_79, z9_69, z9_70, z9_66, z9_81, z9_72, HX296_0.out, HX298_0.out, HX299_0.out, (pkb BK276), (pkb BK301), (pkb BK302), GW301.out, GE301.out, NB276_301.out, NB301_276.out, NB302_301.out, NB301_302.out, GW302.out, GE302.out, NB276_302.out, NB302_276.out, z9_64⟩)
    rintro ⟨gb301, gb302⟩ w107 ⟨hS_, h0_, h1_, h2_, h3_, h4_, h5_, h6_, h7_, h8_, h9_, h10_, h11_, h12_, h13_, h14_, h15_, h16_, h17_, h18_, h19_, h20_, h21_, h22_, h23_, h24_⟩
    have n0_ : Aside0 (Kd.R k46 46 w107 w.heap.size (fun k_ => (w.heap.size ≤ k_) ∧ some k_ ≠ (.slice (some ad296) x3_1.length co103 : Value).ownBlock ∧ k_ ≠ gb301 ∧ k_ ≠ gb302) (.slice (some ad297) (rd_L2 x3_1 (ji25)).length c296_0) (rd_L2 x3_1 (ji25))) := ⟨h0_⟩
    have n1_ : Aside0 (Kd.R k46 46 w107 w.heap.size (fun k_ => (w.heap.size ≤ k_) ∧ some k_ ≠ (.slice (some ad296) x3_1.length co103 : Value).ownBlock ∧ k_ ≠ gb301 ∧ k_ ≠ gb302) (.slice (some ad297) (rd_L2 x3_1 (ji25)).length c296_0) (rd_L2 x3_1 (ji25))) := ⟨h1_⟩
    have n2_ : Aside0 (Kd.R k46 46 w107 w.heap.size (fun k_ => (w.heap.size ≤ k_) ∧ some k_ ≠ (.slice (some ad296) x3_1.length co103 : Value).ownBlock ∧ k_ ≠ gb301 ∧ k_ ≠ gb302) (.slice (some ad297) (rd_L2 x3_1 (ji25)).length c296_0) (rd_L2 x3_1 (ji25))) := ⟨h2_⟩
    have n3_ : Aside0 (Kd.V k46 46 w107 w.heap.size (fun k_ => ((P0_1_ k_) ∧ k_ < w.heap.size) ∧ some k_ ≠ (.slice (some ad296) x3_1.length co103 : Value).ownBlock ∧ k_ ≠ gb276 ∧ k_ ≠ gb301 ∧ k_ ≠ gb302) (.slice Ao101 y280.length co101) y280) := ⟨h3_⟩
    have n4_ : Aside0 (Kd.V k46 46 w107 w.heap.size (fun k_ => ((P0_1_ k_) ∧ k_ < w.heap.size) ∧ some k_ ≠ (.slice (some ad296) x3_1.length co103 : Value).ownBlock ∧ k_ ≠ gb276 ∧ k_ ≠ gb301 ∧ k_ ≠ gb302) (.slice A102 y285.length c102) y285) := ⟨h4_⟩
    have n5_ : Aside0 (Kd.V k46 46 w107 w.heap.size (fun k_ => ((P0_1_ k_) ∧ k_ < w.heap.size) ∧ some k_ ≠ (.slice (some ad296) x3_1.length co103 : Value).ownBlock ∧ k_ ≠ gb276 ∧ k_ ≠ gb301 ∧ k_ ≠ gb302) (.slice A0_1 l0_1.length c0_1) l0_1) := ⟨h5_⟩
    have n6_ : Aside0 (Kd.S (Kd.slice 46 k46) 29 w107 w.heap.size (fun k_ => (w.heap.size ≤ k_) ∧ k_ ≠ gb301 ∧ k_ ≠ gb302) (.slice (some ad296) x3_1.length co103) x3_1) := ⟨h6_⟩
    have n7_ : Aside0 (Kd.V k46 46 w107 w.heap.size (fun k_ => ((P0_1_ k_) ∧ k_ < w.heap.size) ∧ some k_ ≠ (.slice (some ad296) x3_1.length co103 : Value).ownBlock ∧ k_ ≠ gb276 ∧ k_ ≠ gb301 ∧ k_ ≠ gb302) (.slice Ao101 x4_1.length co101) x4_1) := ⟨h7_⟩
    have n8_ : Aside0 (w107.cell? (ad296.add ((ji25)).toNat) = some (.slice (some ad297) (rd_L2 x3_1 (ji25)).length c296_0)) := ⟨h8_⟩
    have n9_ : Aside0 (w107.cell? (ad296.add ((ji25)).toNat) = some (.slice (some ad297) (rd_L2 x3_1 (ji25)).length c296_0)) := ⟨h9_⟩
    have n10_ : Aside0 (w107.cell? (ad296.add ((ji25)).toNat) = some (.slice (some ad297) (rd_L2 x3_1 (ji25)).length c296_0)) := ⟨h10_⟩
    have n11_ : Aside0 (w107.heap[gb276]? = some (.cells #[.slice (some ad278) l0_0.length c0_0, .slice A0_1 l0_1.length c0_1] 31 (0, 0))) := ⟨h11_⟩
    have n12_ : Aside0 (w107.heap[gb301]? = some (.cells #[.int .i64 0, .int .i64 0] 46 (0, 0))) := ⟨h12_⟩
    have n13_ : Aside0 (w107.heap[gb302]? = some (.cells #[.int .i64 0, .int .i64 0] 46 (0, 0))) := ⟨h13_⟩
    have n14_ : Aside0 (w.heap.size ≤ gb301) := ⟨h14_⟩
    have n15_ : Aside0 (w.heap.size ≤ gb301) := ⟨h15_⟩
    have n16_ : Aside0 (gb276 ≠ gb301) := ⟨h16_⟩
    have n17_ : Aside0 (gb301 ≠ gb276) := ⟨h17_⟩
    have n18_ : Aside0 (gb302 ≠ gb301) := ⟨h18_⟩
    have n19_ : Aside0 (gb301 ≠ gb302) := ⟨h19_⟩
    have n20_ : Aside0 (w.heap.size ≤ gb302) := ⟨h20_⟩
    have n21_ : Aside0 (w.heap.size ≤ gb302) := ⟨h21_⟩
    have n22_ : Aside0 (gb276 ≠ gb302) := ⟨h22_⟩
    have n23_ : Aside0 (gb302 ≠ gb276) := ⟨h23_⟩
    have n24_ : Aside0 (Below w.heap.size w w107) := ⟨h24_⟩
    clear HO_3 HO_4 HO_277001 HO284 HO289 BK276 HB h0_ h1_ h2_ h3_ h4_ h5_ h6_ h7_ h8_ h9_ h10_ h11_ h12_ h13_ h14_ h15_ h16_ h17_ h18_ h19_ h20_ h21_ h22_ h23_ h24_; have HL296_0 := n0_; have HL298_0 := n1_; have HL299_0 := n2_; have HO284 := n3_; have HO289 := n4_; have HO_277001 := n5_; have HO_3 := n6_; have HO_4 := n7_; have HX296_0 := n8_; have HX298_0 := n9_; have HX299_0 := n10_; have BK276 := n11_; have BK301 := n12_; have BK302 := n13_; have GW301 := n14_; have GE301 := n15_; have NB276_301 := n16_; have NB301_276 := n17_; have NB302_301 := n18_; have NB301_302 := n19_; have GW302 := n20_; have GE302 := n21_; have NB276_302 := n22_; have NB302_276 := n23_; have HB := n24_; clear n0_ n1_ n2_ n3_ n4_ n5_ n6_ n7_ n8_ n9_ n10_ n11_ n12_ n13_ n14_ n15_ n16_ n17_ n18_ n19_ n20_ n21_ n22_ n23_ n24_
    have hHeld : w107.cell? (ad296.add ((ji25)).toNat) = some (.slice (some ad297) (rd_L2 x3_1 (ji25)).length c296_0) ∧ w107.cell? ad297 = some (.int .i64 ((rd_T46 (rd_L2 x3_1 (ji25)) 0).f0)) ∧ w107.cell? ⟨ad297.block, ad297.off + 1, none⟩ = some (.int .i64 ((rd_T46 (rd_L2 x3_1 (ji25)) 0).f1)) ∧ w107.cell? (ad296.add ((ji25)).toNat) = some (.slice (some ad297) (rd_L2 x3_1 (ji25)).length c296_0) ∧ w107.cell? (ad296.add ((ji25)).toNat) = some (.slice (some ad297) (rd_L2 x3_1 (ji25)).length c296_0) ∧ w107.cell? (ad297.add (((ji29)).toNat * 2)) = some (.int .i64 ((rd_T46 (rd_L2 x3_1 (ji25)) (ji29)).f0)) ∧ w107.cell? ⟨(ad297.add (((ji29)).toNat * 2)).block, (ad297.add (((ji29)).toNat * 2)).off + 1, none⟩ = some (.int .i64 ((rd_T46 (rd_L2 x3_1 (ji25)) (ji29)).f1)) := hS_
    refine norm_ (a' := ?_) ?_ ?_
    rotate_left
    ·simp only [putAll, Act.put, List.setIfInBounds_toArray, List.set_cons_zero, List.set_cons_succ]
     rfl
    refine one_ (i := 17) (N := none) y9_39 rfl rfl (one_of HT_.out (by kernel_rfl)) (by decide) (fun K hK => ?_)
    have hs108 : w107.cell? ⟨gb301, 0, none⟩ = some (.int .i64 0) := (blk_cell BK301.out 0).trans rfl
    have hfs108 := blk_frozen BK301.out 0
    have hns108_0 := NB276_301.out; have hns108_2 := NB302_301.out; have hms108_0 := NB301_276.out; have hms108_2 := NB301_302.out
    have hs109 : w107.cell? ⟨gb301, 1, none⟩ = some (.int .i64 0) := (blk_cell BK301.out 1).trans rfl
    have hfs109 := blk_frozen BK301.out 1
    have hns109_0 := NB276_301.out; have hns109_2 := NB302_301.out; have hms109_0 := NB301_276.out; have hms109_2 := NB301_302.out
    refine skip_ (w1 := ?_) ?hwx ?hN ?_ ?_; (case hwx => rfl); (case hN => rfl)
    rotate_left
    ·go_simp
     rfl
    refine hK.out _ _ ⟨(by refine (cell_far (p := ⟨gb301, _, none⟩) ?_ _).trans ((cell_far (p := ⟨gb301, _, none⟩) ?_ _).trans (hHeld.1)) <;> ((try dsimp only); exact z9_39)), (by refine (cell_far (p := ⟨gb301, _, none⟩) ?_ _).trans ((cell_far (p := ⟨gb301, _, none⟩) ?_ _).trans (hHeld.2.1)) <;> ((try dsimp only); exact z9_42)), (by refine (cell_far (p := ⟨gb301, _, none⟩) ?_ _).trans ((cell_far (p := ⟨gb301, _, none⟩) ?_ _).trans (hHeld.2.2.1)) <;> ((try dsimp only); exact z9_42)), (by refine (cell_far (p := ⟨gb301, _, none⟩) ?_ _).trans ((cell_far (p := ⟨gb301, _, none⟩) ?_ _).trans (hHeld.2.2.2.1)) <;> ((try dsimp only); exact z9_39)), (by refine (cell_far (p := ⟨gb301, _, none⟩) ?_ _).trans ((cell_far (p := ⟨gb301, _, none⟩) ?_ _).trans (hHeld.2.2.2.2.1)) <;> ((try dsimp only); exact z9_39)), (by refine (cell_far (p := ⟨gb301, _, none⟩) ?_ _).trans ((cell_far (p := ⟨gb301, _, none⟩) ?_ _).trans (hHeld.2.2.2.2.2.1)) <;> ((try dsimp only); exact z9_43)), (by refine (cell_far (p := ⟨gb301, _, none⟩) ?_ _).trans ((cell_far (p := ⟨gb301, _, none⟩) ?_ _).trans (hHeld.2.2.2.2.2.2)) <;> ((try dsimp only); exact z9_43))⟩ (fun hHeld => ?_)
    clear hK K
    refine one_ (i := 18) (N := none) y9_40 rfl rfl (one_of HT_.out (by kernel_rfl)) (by decide) (fun K hK => ?_)
    have hs110 : w107.cell? ⟨gb302, 0, none⟩ = some (.int .i64 0) := (blk_cell BK302.out 0).trans rfl
    have hfs110 := blk_frozen BK302.out 0
    have hns110_0 := NB276_302.out; have hns110_1 := NB301_302.out; have hms110_0 := NB302_276.out; have hms110_1 := NB302_301.out
    have hs111 : w107.cell? ⟨gb302, 1, none⟩ = some (.int .i64 0) := (blk_cell BK302.out 1).trans rfl
    have hfs111 := blk_frozen BK302.out 1
    have hns111_0 := NB276_302.out; have hns111_1 := NB301_302.out; have hms111_0 := NB302_276.out; have hms111_1 := NB302_301.out
    refine skip_ (w1 := ?_) ?hwx ?hN ?_ ?_; (case hwx => rfl); (case hN => rfl)
    rotate_left
    ·go_simp
     rfl
    refine hK.out _ _ ⟨(by refine (cell_far (p := ⟨gb302, _, none⟩) ?_ _).trans ((cell_far (p := ⟨gb302, _, none⟩) ?_ _).trans (hHeld.1)) <;> ((try dsimp only); exact z9_40)), (by refine (cell_far (p := ⟨gb302, _, none⟩) ?_ _).trans ((cell_far (p := ⟨gb302, _, none⟩) ?_ _).trans (hHeld.2.1)) <;> ((try dsimp only); exact z9_44)), (by refine (cell_far (p := ⟨gb302, _, none⟩) ?_ _).trans ((cell_far (p := ⟨gb302, _, none⟩) ?_ _).trans (hHeld.2.2.1)) <;> ((try dsimp only); exact z9_44)), (by refine (cell_far (p := ⟨gb302, _, none⟩) ?_ _).trans ((cell_far (p := ⟨gb302, _, none⟩) ?_ _).trans (hHeld.2.2.2.1)) <;> ((try dsimp only); exact z9_40)), (by refine (cell_far (p := ⟨gb302, _, none⟩) ?_ _).trans ((cell_far (p := ⟨gb302, _, none⟩) ?_ _).trans (hHeld.2.2.2.2.1)) <;> ((try dsimp only); exact z9_40)), (by refine (cell_far (p := ⟨gb302, _, none⟩) ?_ _).trans ((cell_far (p := ⟨gb302, _, none⟩) ?_ _).trans (hHeld.2.2.2.2.2.1)) <;> ((try dsimp only); exact z9_45)), (by refine (cell_far (p := ⟨gb302, _, none⟩) ?_ _).trans ((cell_far (p := ⟨gb302, _, none⟩) ?_ _).trans (hHeld.2.2.2.2.2.2)) <;> ((try dsimp only); exact z9_45))⟩ (fun hHeld => ?_)
    clear hK K
    refine done_ (done_of HT_.out (by kernel_rfl)) ?_
    try go_wp2
    obtain ⟨w112, hw_⟩ : ∃ w_ : World, w_ = ((((w107.setCell ⟨gb301, 0, none⟩ (.int .i64 ((rd_T46 (rd_L2 x3_1 (ji25)) 0).f0))).setCell ⟨gb301, 1, none⟩ (.int .i64 ((rd_T46 (rd_L2 x3_1 (ji25)) 0).f1))).setCell ⟨gb302, 0, none⟩ (.int .i64 ((rd_T46 (rd_L2 x3_1 (ji25)) (ji29)).f0))).setCell ⟨gb302, 1, none⟩ (.int .i64 ((rd_T46 (rd_L2 x3_1 (ji25)) (ji29)).f1))) := ⟨_, rfl⟩
    have n0_ : Aside0 (Kd.S (Kd.slice 46 k46) 29 w112 w.heap.size (fun k_ => (w.heap.size ≤ k_) ∧ k_ ≠ gb301 ∧ k_ ≠ gb302) (.slice (some ad296) x3_1.length co103) x3_1) := ⟨z9_57⟩
    have n1_ : Aside0 (Kd.V k46 46 w112 w.heap.size (fun k_ => ((P0_1_ k_) ∧ k_ < w.heap.size) ∧ some k_ ≠ (.slice (some ad296) x3_1.length co103 : Value).ownBlock ∧ k_ ≠ gb276 ∧ k_ ≠ gb301 ∧ k_ ≠ gb302) (.slice Ao101 x4_1.length co101) x4_1) := ⟨z9_53⟩
    have n2_ : Aside0 (Kd.V k46 46 w112 w.heap.size (fun k_ => ((P0_1_ k_) ∧ k_ < w.heap.size) ∧ some k_ ≠ (.slice (some ad296) x3_1.length co103 : Value).ownBlock ∧ k_ ≠ gb276 ∧ k_ ≠ gb301 ∧ k_ ≠ gb302) (.slice A0_1 l0_1.length c0_1) l0_1) := ⟨z9_49⟩
    have n3_ : Aside0 (Kd.V k46 46 w112 w.heap.size (fun k_ => ((P0_1_ k_) ∧ k_ < w.heap.size) ∧ some k_ ≠ (.slice (some ad296) x3_1.length co103 : Value).ownBlock ∧ k_ ≠ gb276 ∧ k_ ≠ gb301 ∧ k_ ≠ gb302) (.slice Ao101 y280.length co101) y280) := ⟨z9_51⟩
    have n4_ : Aside0 (Kd.V k46 46 w112 w.heap.size (fun k_ => ((P0_1_ k_) ∧ k_ < w.heap.size) ∧ some k_ ≠ (.slice (some ad296) x3_1.length co103 : Value).ownBlock ∧ k_ ≠ gb276 ∧ k_ ≠ gb301 ∧ k_ ≠ gb302) (.slice A102 y285.length c102) y285) := ⟨z9_52⟩
    have n5_ : Aside0 (Kd.R k46 46 w112 w.heap.size (fun k_ => (w.heap.size ≤ k_) ∧ some k_ ≠ (.slice (some ad296) x3_1.length co103 : Value).ownBlock ∧ k_ ≠ gb301 ∧ k_ ≠ gb302) (.slice (some ad297) (rd_L2 x3_1 (ji25)).length c296_0) (rd_L2 x3_1 (ji25))) := ⟨z9_54⟩
    have n6_ : Aside0 (Kd.R k46 46 w112 w.heap.size (fun k_ => (w.heap.size ≤ k_) ∧ some k_ ≠ (.slice (some ad296) x3_1.length co103 : Value).ownBlock ∧ k_ ≠ gb301 ∧ k_ ≠ gb302) (.slice (some ad297) (rd_L2 x3_1 (ji25)).length c296_0) (rd_L2 x3_1 (ji25))) := ⟨z9_55⟩
    have n7_ : Aside0 (Kd.R k46 46 w112 w.heap.size (fun k_ => (w.heap.size ≤ k_) ∧ some k_ ≠ (.slice (some ad296) x3_1.length co103 : Value).ownBlock ∧ k_ ≠ gb301 ∧ k_ ≠ gb302) (.slice (some ad297) (rd_L2 x3_1 (ji25)).length c296_0) (rd_L2 x3_1 (ji25))) := ⟨z9_56⟩
    have n8_ : Aside0 (w112.heap[gb276]? = some (.cells #[.slice (some ad278) l0_0.length c0_0, .slice A0_1 l0_1.length c0_1] 31 (0, 0))) := ⟨z9_58⟩
    have n9_ : Aside0 (w112.heap[gb301]? = some (.cells #[.int .i64 ((rd_T46 (rd_L2 x3_1 (ji25)) 0).f0), .int .i64 ((rd_T46 (rd_L2 x3_1 (ji25)) 0).f1)] 46 (0, 0))) := ⟨z9_50⟩
    have n10_ : Aside0 (w112.heap[gb302]? = some (.cells #[.int .i64 ((rd_T46 (rd_L2 x3_1 (ji25)) (ji29)).f0), .int .i64 ((rd_T46 (rd_L2 x3_1 (ji25)) (ji29)).f1)] 46 (0, 0))) := ⟨z9_48⟩
    have n11_ : Aside0 (Below w.heap.size w w112) := ⟨(by rw [hw_]; exact z9_34)⟩
    (try clear HO_3); (try clear HO_4); (try clear HO_277001); (try clear HO284); (try clear HO289); (try clear HL296_0); (try clear HL298_0); (try clear HL299_0); (try clear BK276); (try clear BK301); (try clear BK302); (try clear HB)
    rw [← hw_]; clear hw_; have HO_3 := n0_; have HO_4 := n1_; have HO_277001 := n2_; have HO284 := n3_; have HO289 := n4_; have HL296_0 := n5_; have HL298_0 := n6_; have HL299_0 := n7_; have BK276 := n8_; have BK301 := n9_; have BK302 := n10_; have HB := n11_; clear n0_ n1_ n2_ n3_ n4_ n5_ n6_ n7_ n8_ n9_ n10_ n11_
    have n0_ := mk0 (Kd.S_drew HO_3.out)
    have n1_ := mk0 (Kd.V_drew HO_4.out)
    have n2_ := mk0 (Kd.V_drew HO_277001.out)
    have n3_ := mk0 (Kd.V_drew HO284.out)
    have n4_ := mk0 (Kd.V_drew HO289.out)
    have n5_ := mk0 (Kd.R_drew HL296_0.out)
    have n6_ := mk0 (Kd.R_drew HL298_0.out)
    have n7_ := mk0 (Kd.R_drew HL299_0.out)
    have n8_ := mk0 (blk_drew BK276.out)
    have n9_ := mk0 (blk_drew BK301.out)
    have n10_ := mk0 (blk_drew BK302.out)
    have n11_ := mk0 (below_drew1 HB.out)
    clear HO_3 HO_4 HO_277001 HO284 HO289 HL296_0 HL298_0 HL299_0 BK276 BK301 BK302 HB; have HO_3 := n0_; have HO_4 := n1_; have HO_277001 := n2_; have HO284 := n3_; have HO289 := n4_; have HL296_0 := n5_; have HL298_0 := n6_; have HL299_0 := n7_; have BK276 := n8_; have BK301 := n9_; have BK302 := n10_; have HB := n11_; clear n0_ n1_ n2_ n3_ n4_ n5_ n6_ n7_ n8_ n9_ n10_ n11_
    have p324 : 0 ≤ ((ji25) : Int) := of_decide_eq_true (by first | (with_reducible assumption) | assumption)
    have q324 : (ji25) < (x3_1.length : Int) := of_decide_eq_true (by first | (with_reducible assumption) | assumption)
    obtain ⟨ad324, A324_0, c324_0, e324, hx324_0, hl324_0, hi324_0⟩ := at_L2 (Kd.S_reads' HO_3.out).2.2 (ji25) p324 q324
    obtain rfl : ad296 = ad324 := (by injection e324)
    obtain ⟨ce324, hce324, hMe324, hcc324⟩ := Kd.S_get HO_3.out [] (ji25) p324 (by first | exact q324 | exact of_decide_eq_true (by first | (with_reducible assumption) | assumption) | (have e_ := (Kd.S_reads' HO_3.out).1; omega))
    obtain ⟨ve324_0, rfl, ge324_0⟩ := hMe324
    have hv324_0 := hcc324 0 _ rfl
    rw [Nat.add_zero, show ((Kd.slice 46 k46)).sz = 1 from rfl, Nat.mul_one] at hv324_0
    replace hv324_0 := Option.some.inj (hv324_0.symm.trans hx324_0)
    rw [hv324_0] at ge324_0
    have HL324_0 := mk0 (show Kd.R k46 46 _ _ _ _ (rd_L2 x3_1 (ji25)) from ge324_0)
    clear hv324_0 ge324_0
    have HX324_0 := mk0 hx324_0
    clear hcc324 hce324
    have HR324_0 := mk0 hi324_0
    have HC324_0 := mk0 hl324_0
    clear hi324_0 hl324_0
    replace p324 := eq_true p324
    replace q324 := eq_true q324
    refine start_ (n := 11) (S := fun w' => w'.cell? ⟨gb302, 0, none⟩ = some (.int .i64 ((rd_T46 (rd_L2 x3_1 (ji25)) (ji29)).f0)) ∧ w'.cell? ⟨gb302, 1, none⟩ = some (.int .i64 ((rd_T46 (rd_L2 x3_1 (ji25)) (ji29)).f1)) ∧ w'.cell? (ad296.add ((ji25)).toNat) = some (.slice A324_0 (rd_L2 x3_1 (ji25)).length c324_0)) (ds := [10]) y9_1 (by kernel_rfl) rfl rfl ⟨(blk_cell BK302.out 0).trans rfl, (blk_cell BK302.out 1).trans rfl, hx324_0⟩ (fun hHeld => ?_); refine with_tabW impl_FlatOf.tab17 impl_FlatOf.bits17 (fun HT_ HW_ => ?_)
    generalize w112.drew = w113 at HO_3 HO_4 HO_277001 HO284 HO289 HL296_0 HL298_0 HL299_0 BK276 BK301 BK302 HB HL324_0 HR324_0 HX324_0 hx324_0 hHeld ⊢
    refine pzv (i := 0) (N := 76) (v := ?_) (a' := ?_) y9_4 HT_ ?_ ?_ ?_
    rotate_left
    ·intro w'
     go_simp; with_reducible rfl
    rotate_left
    ·exact x9_put
    refine pzv (i := 1) (N := 77) (v := ?_) (a' := ?_) y9_7 HT_ ?_ ?_ ?_
    rotate_left
    ·intro w'
     go_simp; with_reducible rfl
    rotate_left
    ·exact x9_put
    refine pzv (i := 2) (N := 78) (v := ?_) (a' := ?_) y9_13 HT_ ?_ ?_ ?_
    rotate_left
    ·intro w'
     go_simp; with_reducible rfl
    rotate_left
    ·exact x9_put
    refine pzv (i := 4) (N := 80) (v := ?_) (a' := ?_) y9_16 HT_ ?_ ?_ ?_
    rotate_left
    ·intro w'
     go_simp; with_reducible rfl
    rotate_left
    ·exact x9_put
    refine pzv (i := 6) (N := 82) (v := ?_) (a' := ?_) y9_17 HT_ ?_ ?_ ?_
    rotate_left
    ·intro w'
     go_simp; with_reducible rfl
    rotate_left
    ·exact x9_put
    refine take_ (i := 3) (N := some 79) (v := ?_) (a' := ?_) y9_21 rfl rfl (take_ofW HT_.out HW_.out (by kernel_rfl)) (fun _ _ _ h => h) (Or.inl ⟨by rfl, ?_⟩) hHeld ?_ ?_
    rotate_left
    ·rintro w' ⟨s0, s1, s2⟩
     go_simp; with_reducible rfl
    rotate_left
    ·exact x9_put
    refine take_ (i := 5) (N := some 81) (v := ?_) (a' := ?_) y9_23 rfl rfl (take_ofW HT_.out HW_.out (by kernel_rfl)) (fun _ _ _ h => h) (Or.inl ⟨by rfl, ?_⟩) hHeld ?_ ?_
    rotate_left
    ·rintro w' ⟨s0, s1, s2⟩
     go_simp; with_reducible rfl
    rotate_left
    ·exact x9_put
    refine one_ (i := 7) (N := some 83) y9_26 rfl rfl (one_of HT_.out (by kernel_rfl)) (by decide) (fun K hK => ?_)
    refine goes_ Try.func29 (by kernel_rfl) rfl #[.int .i64 (rd l0_0 x20_1), .agg #[.int .i64 ((rd_T46 (rd_L2 x3_1 (ji25)) (ji29)).f0), .int .i64 ((rd_T46 (rd_L2 x3_1 (ji25)) (ji29)).f1)], .slice Ao101 y280.length co101] (by rfl) rfl rfl z9_73 ?_
    with_reducible refine (impl_flatten.calls k1 (rd l0_0 x20_1) ((rd_T46 (rd_L2 x3_1 (ji25)) (ji29)).f0) ((rd_T46 (rd_L2 x3_1 (ji25)) (ji29)).f1) _ _ y280 t325 _ ?side1 ?side2 A98.out).mono ?_
    (case side1 => exact z9_61)
    (case side2 => exact (Kd.V_reads' HO284.out).2.1)
    rintro e w114 ⟨v326, rfl, ho0, hb⟩
    have HS2_ := (hb.cell (World.block_lt_of_cell? _ _ (hHeld.2.2))).trans (hHeld.2.2)
    refine ⟨_, rfl, ?_⟩
    have n0_ := mk0 (Kd.S_elder' (pkS HO_3) (Kd.R_base ho0) hb)
    have n1_ := mk0 (Kd.V_elder' (pkV HO_4) (Kd.R_base ho0) hb)
    have n2_ := mk0 (Kd.V_elder' (pkV HO_277001) (Kd.R_base ho0) hb)
    have n3_ := mk0 (Kd.V_elder' (pkV HO284) (Kd.R_base ho0) hb)
    have n4_ := mk0 (Kd.V_elder' (pkV HO289) (Kd.R_base ho0) hb)
    have n5_ := mk0 (Kd.R_elder' (pkR HL296_0) (Kd.R_base ho0) hb)
    have n6_ := mk0 (Kd.R_elder' (pkR HL298_0) (Kd.R_base ho0) hb)
    have n7_ := mk0 (Kd.R_elder' (pkR HL299_0) (Kd.R_base ho0) hb)
    have n8_ := mk0 (Kd.R_elder' (pkR HL324_0) (Kd.R_base ho0) hb)
    have n9_ := mk0 (Kd.R_lower (Kd.R_newB (Kd.R_newB (Kd.R_new' (Kd.R_new' (Kd.R_new' (Kd.R_new' (Kd.R_newM (M := fun k_ => (w.heap.size ≤ k_)) ho0 (below_size z9_34) (fun k_ h_ => h_)) (Kd.R_lt (pkR HL296_0))) (Kd.R_lt (pkR HL298_0))) (Kd.R_lt (pkR HL299_0))) (Kd.R_lt (pkR HL324_0))) (g := gb301) (o := .cells #[.int .i64 ((rd_T46 (rd_L2 x3_1 (ji25)) 0).f0), .int .i64 ((rd_T46 (rd_L2 x3_1 (ji25)) 0).f1)] 46 (0, 0)) (pkb BK301)) (g := gb302) (o := .cells #[.int .i64 ((rd_T46 (rd_L2 x3_1 (ji25)) (ji29)).f0), .int .i64 ((rd_T46 (rd_L2 x3_1 (ji25)) (ji29)).f1)] 46 (0, 0)) (pkb BK302)) (below_size z9_34))
    have n10_ := mk0 (blk_belowB BK276 (pkb BK276) hb)
    have n11_ := mk0 (blk_belowB BK301 (pkb BK301) hb)
    have n12_ := mk0 (blk_belowB BK302 (pkb BK302) hb)
    have n13_ := mk0 (Kd.C_below (by repeat (first | (with_reducible exact HR324_0.out) | (with_reducible refine Kd.C_alloc ?_ _) | (with_reducible refine Kd.C_drewN ?_ _) | (with_reducible refine Kd.C_drew ?_) | exact HR324_0.out)) hb)
    have n14_ := mk0 (pw_cell_below hb HX324_0.out)
    have n15_ := mk0 (below_step z9_34 hb)
    clear HO_3 HO_4 HO_277001 HO284 HO289 HL296_0 HL298_0 HL299_0 HL324_0 BK276 BK301 BK302 HR324_0 HX324_0 HB; have HO_3 := n0_; have HO_4 := n1_; have HO_277001 := n2_; have HO284 := n3_; have HO289 := n4_; have HL296_0 := n5_; have HL298_0 := n6_; have HL299_0 := n7_; have HL324_0 := n8_; have HO327 := n9_; have BK276 := n10_; have BK301 := n11_; have BK302 := n12_; have HR324_0 := n13_; have HX324_0 := n14_; have HB := n15_; clear n0_ n1_ n2_ n3_ n4_ n5_ n6_ n7_ n8_ n9_ n10_ n11_ n12_ n13_ n14_ n15_; (try clear hb); (try clear hb2); (try clear hk); (try clear hi); (try clear ho0)
    have n_ := mk0 (Kd.S_mono (ok' := (fun k_ => (w.heap.size ≤ k_) ∧ some k_ ≠ (v326 : Value).ownBlock ∧ k_ ≠ gb301 ∧ k_ ≠ gb302)) HO_3.out (fun k_ hk => ⟨hk.1.1, ⟨hk.2, ⟨hk.1.2.1, hk.1.2.2⟩⟩⟩))
    clear HO_3; have HO_3 := n_; clear n_
    obtain ⟨Ao117, co117, eo117⟩ := Kd.R_slice HO327.out
    (first | subst eo117 | (injection eo117 with f1_ f2_ f3_; have f4_ := f1_.symm; have f5_ := f3_.symm; clear f1_ f2_ f3_; subst f4_; subst f5_))
    obtain ⟨go115, co115, eo115, gb115, gl115, cl115, HG115⟩ := Kd.S_form HO_3.out (by have h_ : ((ji25) : Int) < ((x3_1.length : Int) : Int) := of_decide_eq_true (by first | (with_reducible assumption) | assumption); have h2_ : 0 ≤ ((ji25) : Int) := (of_decide_eq_true (by first | (with_reducible assumption) | assumption)); omega)
    (first | cases eo115 | (injection eo115 with ea_ en_ ec_; (first | subst ea_ | (injection ea_ with ea_; subst ea_)); subst ec_; clear en_))
    have GB115 := mk0 gb115
    have GG115 := mk0 HG115
    clear gb115 gl115 HG115
    (first | simp only [add_plain] at hx296_0 | skip)
    (first | simp only [add_plain] at hx298_0 | skip)
    (first | simp only [add_plain] at hx299_0 | skip)
    (first | simp only [add_plain] at hx324_0 | skip)
    obtain ⟨oki115, ce115, hcl115, hM115, hcc115, _, _, hH115⟩ := Kd.S_elem HO_3.out [] ((ji25) : Int) (of_decide_eq_true (by first | (with_reducible assumption) | assumption)) (by have h_ : ((ji25) : Int) < ((x3_1.length : Int) : Int) := of_decide_eq_true (by first | (with_reducible assumption) | assumption); first | exact h_ | (have e_ := (Kd.S_reads' HO_3.out).1; omega) | simpa using h_)
    obtain ⟨ve115_0, rfl, ge115_0⟩ := hM115
    have hv115 := hcc115 0 _ rfl
    have hX115 := HX324_0.out
    (try simp only [add_plain] at hX115)
    (try simp only [Nat.add_zero] at hv115)
    (try rw [show ((Kd.slice 46 k46)).sz = 1 from rfl, Nat.mul_one] at hv115)
    replace hv115 := Option.some.inj (hv115.symm.trans hX115)
    subst hv115; clear hX115 hcc115 hcl115
    have UU115 := mk0 (show Kd.R k46 46 _ w.heap.size oki115 (.slice A324_0 (rd_L2 x3_1 (ji25)).length c324_0) (rd_L2 x3_1 (ji25)) from ge115_0)
    have HH115 := mk0 hH115
    have HN115 := mk0 (Kd.S_reads' HO_3.out).1
    clear hH115 ge115_0
    refine hK.out _ _ ⟨(blk_cell BK302.out 0).trans rfl, (blk_cell BK302.out 1).trans rfl, HS2_⟩ (fun hHeld => ?_)
    clear hK K
    refine norm_ (a' := ?_) ?_ ?_
    rotate_left
    ·show Act.put _ (some 83) _ = _
     simp only [Act.put, List.setIfInBounds_toArray, List.set_cons_zero, List.set_cons_succ, i64_w, i32_w]
     rfl
    refine one_ (i := 8) (N := some 84) y9_28 rfl rfl (one_of HT_.out (by kernel_rfl)) (by decide) (fun K hK => ?_)
    refine Kd.R_append_rows_step k46 (w0 := w) w.heap.size (by rfl) (.tmp 79) (.tmp 83) 29 46 (.agg #[(.int .i64 0), (.int .i64 0)]) 16 rfl Try.underlying29 info46 rfl (by decide) (by omega) (.slice A324_0 (rd_L2 x3_1 (ji25)).length c324_0) (rd_L2 x3_1 (ji25)) t325 _ _ _ (fun k_ => oki115 k_ ∨ ((fun k_ => (w.heap.size ≤ k_) ∧ some k_ ≠ (.slice Ao117 t325.length co117 : Value).ownBlock ∧ k_ ≠ gb301 ∧ k_ ≠ gb302)) k_ ∧ w114.heap.size ≤ k_) (fun _ => False) rfl rfl ?aO ?aR (fun _ _ h => h) (fun _ h => h.elim) ?aF ?aB ?aS ?aL ?_
    (case aR => repeat (first | exact (Kd.R_reads' HO327.out).2.2 | (with_reducible refine Kd.C_alloc ?_ _) | (with_reducible refine Kd.C_drewN ?_ _) | (with_reducible refine Kd.C_drew ?_)))
    (case aB => exact z9_34)
    (case aF => exact (fun k_ hk => .inr ⟨⟨(Nat.le_trans (below_size z9_34) hk), Kd.fresh' (Kd.R_lt (pkR HO327)) k_ hk, Kd.freshB (g := gb301) (o := .cells #[.int .i64 ((rd_T46 (rd_L2 x3_1 (ji25)) 0).f0), .int .i64 ((rd_T46 (rd_L2 x3_1 (ji25)) 0).f1)] 46 (0, 0)) (pkb BK301) k_ hk, Kd.freshB (g := gb302) (o := .cells #[.int .i64 ((rd_T46 (rd_L2 x3_1 (ji25)) (ji29)).f0), .int .i64 ((rd_T46 (rd_L2 x3_1 (ji25)) (ji29)).f1)] 46 (0, 0)) (pkb BK302) k_ hk⟩, hk⟩))
    (case aO => exact (by (with_reducible repeat (first | apply Kd.R_alloc | apply Kd.R_drewN | apply Kd.R_drew)); exact Kd.R_mono UU115.out (fun _ hk => .inl hk)))
    (case aS => exact (below_size z9_34))
    (case aL => have := LMc99.out; omega)
    intro v329 w116 ho hb hg hat
    (first | have HS2_ := cell_grown hg (hHeld.2.2) z9_92 | have HS2_ := cell_grown hg (cell_unalloc (hHeld.2.2) z9_62) z9_92)
    rw [← Ny328.out] at ho
    have n0_ := mk0 (Kd.V_grown (pkV HO_4) hg z9_89)
    have n1_ := mk0 (Kd.V_grown (pkV HO_277001) hg z9_89)
    have n2_ := mk0 (blk_grown (g := gb276) (o := .cells #[.slice (some ad278) l0_0.length c0_0, .slice A0_1 l0_1.length c0_1] 31 (0, 0)) (pkb BK276) hg (Kd.R_ne HL324_0.out BK276.out (by decide)))
    have n3_ := mk0 (Kd.V_grown (pkV HO284) hg z9_89)
    have n4_ := mk0 (Kd.V_grown (pkV HO289) hg z9_89)
    have n5_ := mk0 (blk_grown (g := gb301) (o := .cells #[.int .i64 ((rd_T46 (rd_L2 x3_1 (ji25)) 0).f0), .int .i64 ((rd_T46 (rd_L2 x3_1 (ji25)) 0).f1)] 46 (0, 0)) (pkb BK301) hg (Kd.R_away HL324_0.out (fun _ hk => hk.1.1.2.1)))
    have n6_ := mk0 (blk_grown (g := gb302) (o := .cells #[.int .i64 ((rd_T46 (rd_L2 x3_1 (ji25)) (ji29)).f0), .int .i64 ((rd_T46 (rd_L2 x3_1 (ji25)) (ji29)).f1)] 46 (0, 0)) (pkb BK302) hg (Kd.R_away HL324_0.out (fun _ hk => hk.1.1.2.2)))
    have n7_ := mk0 (Kd.R_grown2 (pkR HO327) rfl hg (fun k_ e_ => (HL324_0.out.1 k_ e_).2))
    have n8_ := mk0 (hb)
    have n9_ := mk0 (Kd.H_grown (Kd.H_widen (by repeat (first | exact HH115.out | refine Kd.H_alloc ?_ _ | refine Kd.H_drewN ?_ _ | refine Kd.H_drew ?_))) hg (fun k_ e_ => .inl (UU115.out.1 k_ e_)))
    have n10_ := mk0 (ho)
    clear HO_4 HO_277001 BK276 HO284 HO289 BK301 BK302 HO327 HB HH115 HO_3 UU115 HL296_0 HL298_0 HL299_0 HL324_0; have HO_4 := n0_; have HO_277001 := n1_; have BK276 := n2_; have HO284 := n3_; have HO289 := n4_; have BK301 := n5_; have BK302 := n6_; have HO327 := n7_; have HB := n8_; have HH115 := n9_; have HO330 := n10_; clear n0_ n1_ n2_ n3_ n4_ n5_ n6_ n7_ n8_ n9_ n10_ ho hb hg hat
    obtain ⟨Ao120, co120, eo120⟩ := Kd.R_slice HO330.out
    (first | subst eo120 | (injection eo120 with f1_ f2_ f3_; have f4_ := f1_.symm; have f5_ := f3_.symm; clear f1_ f2_ f3_; subst f4_; subst f5_))
    obtain ⟨_, _, hraw118, _, _, hcc118, _⟩ := Kd.H_raw HH115.out (of_decide_eq_true (by first | (with_reducible assumption) | assumption)) (by have h_ : ((ji25) : Int) < ((x3_1.length : Int) : Int) := of_decide_eq_true (by first | (with_reducible assumption) | assumption); first | exact h_ | (have e_ := (HN115.out); omega) | simpa using h_)
    obtain ⟨_, hfr118⟩ := Kd.H_at HH115.out (of_decide_eq_true (by first | (with_reducible assumption) | assumption)) (by have h_ : ((ji25) : Int) < ((x3_1.length : Int) : Int) := of_decide_eq_true (by first | (with_reducible assumption) | assumption); first | exact h_ | (have e_ := (HN115.out); omega) | simpa using h_)
    have hx118_0 := hcc118 0 _ rfl
    have hf118_0 := hfr118 0
    (try simp only [Nat.add_zero] at hx118_0 hf118_0)
    (try rw [show ((Kd.slice 46 k46)).sz = 1 from rfl, Nat.mul_one] at hx118_0)
    (try rw [show ((Kd.slice 46 k46)).sz = 1 from rfl, Nat.mul_one] at hf118_0)
    have HP118 := Kd.S_seg0 HH115.out (of_decide_eq_true (by first | (with_reducible assumption) | assumption)) (by have h_ : ((ji25) : Int) < ((x3_1.length : Int) : Int) := of_decide_eq_true (by first | (with_reducible assumption) | assumption); first | exact h_ | (have e_ := (HN115.out); omega) | simpa using h_) (seg := [.slice Ao120 y328.length co120]) (j := 0) (show 1 ≤ 1 from by decide) (x' := y328) (Kd.M_row HO330.out) (fun _ hk => hk)
    (try simp only [show ((Kd.slice 46 k46)).sz = 1 from rfl, Nat.mul_one, Nat.add_zero] at HP118)
    clear hcc118 hfr118
    have HNB276_go115 := mk0 (show gb276 ≠ go115 from by have h_ := Kd.R_ne hraw118 BK276.out (by decide); intro e_; exact h_ (by rw [e_]; rfl))
    have HNB301_go115 := mk0 (show gb301 ≠ go115 from by have h_ := Kd.R_ne hraw118 BK301.out (by decide); intro e_; exact h_ (by rw [e_]; rfl))
    have HNB302_go115 := mk0 (show gb302 ≠ go115 from by have h_ := Kd.R_ne hraw118 BK302.out (by decide); intro e_; exact h_ (by rw [e_]; rfl))
    have HS118 := HP118.1
    rw [← Ny331.out] at HS118
    have HQ118 := mk0 HS118
    obtain ⟨_, hgg118⟩ := Kd.R_typed hraw118 go115 rfl
    have GG118_ := mk0 hgg118
    clear HP118 HS118 hgg118
    refine hK.out _ _ ⟨(blk_cell BK302.out 0).trans rfl, (blk_cell BK302.out 1).trans rfl, HS2_⟩ (fun hHeld => ?_)
    clear hK K
    refine norm_ (a' := ?_) ?_ ?_
    rotate_left
    ·show Act.put _ (some 84) _ = _
     simp only [Act.put, List.setIfInBounds_toArray, List.set_cons_zero, List.set_cons_succ, i64_w, i32_w]
     rfl
    refine pzv (i := 9) (N := 85) (v := ?_) (a' := ?_) y9_30 HT_ ?_ ?_ ?_
    rotate_left
    ·intro w'
     go_simp; with_reducible rfl
    rotate_left
    ·exact x9_put
    refine last_ (i := 10) (N := none) y9_41 rfl rfl (one_of HT_.out (by kernel_rfl)) (by decide) (fun K hK => ?_)
    refine skip_ (w1 := ?_) ?hwx ?hN ?_ ?_; (case hwx => rfl); (case hN => rfl)
    rotate_left
    ·go_simp
     rfl
    refine hK.out _ _ ?_
    clear hK K
    refine done_ (done_of HT_.out (by kernel_rfl)) ?_
    try go_wp2
    go_roundg k1
    case measure => have := HK1.out; omega
    case rel => exact ⟨(y331), (y285), (wrap64 (x20_1 + 1)), rs0, H', ⟨(by have := HK1.out; omega)⟩, ⟨(by (with_reducible repeat (first | apply Kd.S_alloc | apply Kd.S_drewN | apply Kd.S_drew)); exact Kd.S_mono HQ118.out (fun _ hk => hk.1))⟩, ⟨(by (with_reducible repeat (first | apply Kd.V_alloc | apply Kd.V_drewN | apply Kd.V_drew)); exact Kd.V_mono (Kd.V_far (p := ⟨go115, ((ji25) : Int).toNat, none⟩) (Kd.V_mono HO289.out (fun k_ hk => (⟨hk, fun e_ => hk.1.2.1 (by rw [e_]; rfl)⟩ : _ ∧ k_ ≠ go115))) (fun _ hk => hk.2) (.slice Ao120 y328.length co120)) (fun _ hk => ⟨hk.1.1.1, ⟨hk.1.1.2.1, hk.1.1.2.2.1⟩⟩))⟩, ⟨(by (with_reducible repeat (first | apply Kd.V_alloc | apply Kd.V_drewN | apply Kd.V_drew)); exact Kd.V_mono (Kd.V_far (p := ⟨go115, ((ji25) : Int).toNat, none⟩) (Kd.V_mono HO_277001.out (fun k_ hk => (⟨hk, fun e_ => hk.1.2.1 (by rw [e_]; rfl)⟩ : _ ∧ k_ ≠ go115))) (fun _ hk => hk.2) (.slice Ao120 y328.length co120)) (fun _ hk => ⟨hk.1.1.1, ⟨hk.1.1.2.1, hk.1.1.2.2.1⟩⟩))⟩, ⟨(by (with_reducible repeat (first | refine blk_drewN ?_ _ | refine blk_drew ?_ | refine blk_alloc ?_ _)); refine blk_far ?_ HNB276_go115.out _; (with_reducible repeat (first | refine blk_drewN ?_ _ | refine blk_drew ?_ | refine blk_alloc ?_ _)); exact BK276.out)⟩, ⟨(by repeat (first | (with_reducible first | exact HB.out | apply below_alloc | apply pw_below_drewN | apply below_drew1 | refine below_set ?_ GB115.out | refine below_set ?_ GE276.out | refine below_set ?_ GE301.out | refine below_set ?_ GE302.out) | exact HB.out))⟩⟩
   rw [if_pos c32] at H
   have c32b0 : ((rd l0_0 x20_1) == 5) = true := beq_iff_eq.mpr c32
   have c32b1 : ((rd l0_0 x20_1) != 5) = false := bne_eq_false_iff_eq.mpr c32
   clear c32
   by_cases c33 : (!(((rd_T46 (rd_L2 x3_1 (ji25)) 0).f0) == ((rd_T46 (rd_L2 x3_1 (ji25)) (ji29)).f0)) || (!(((rd_T46 (rd_L2 x3_1 (ji25)) 0).f1) == ((rd_T46 (rd_L2 x3_1 (ji25)) (ji29)).f1)))) = true
   rotate_left
   ·rw [if_neg c33] at H
    have c33b0 : (!(((rd_T46 (rd_L2 x3_1 (ji25)) 0).f0) == ((rd_T46 (rd_L2 x3_1 (ji25)) (ji29)).f0)) || (!(((rd_T46 (rd_L2 x3_1 (ji25)) 0).f1) == ((rd_T46 (rd_L2 x3_1 (ji25)) (ji29)).f1)))) = false := by simpa using c33
    clear c33
    replace H := Option.bind_eq_some_iff.mp H
    obtain ⟨t317, A700, H⟩ := H
    try dsimp only at H
    have A70 := mk0 A700
    clear A700
    by_cases c71 : (rd_L2 x3_1 (ji25)).length + t317.length < 8796093022208
    rotate_left
    ·rw [if_neg c71] at H
     exact absurd H (by simp)
    rw [if_pos c71] at H
    have LMc71 := mk0 c71
    clear c71
    obtain ⟨y320, hy_⟩ : ∃ y_ : List (S46), y_ = ((rd_L2 x3_1 (ji25)) ++ t317) := ⟨_, rfl⟩
    replace H : (impl_FlatOf.l0 k1 (x3_1.set ((ji25) : Int).toNat y320) y285 l0_0 (l0_0.length : Int) (wrap64 (x20_1 + 1))) = some r := z9_38
    have Ny320 := mk0 hy_
    clear hy_
    obtain ⟨y323, hy_⟩ : ∃ y_ : List (List (S46)), y_ = (x3_1.set ((ji25) : Int).toNat y320) := ⟨_, rfl⟩
    replace H : (impl_FlatOf.l0 k1 y323 y285 l0_0 (l0_0.length : Int) (wrap64 (x20_1 + 1))) = some r := z9_38
    have Ny323 := mk0 hy_
    clear hy_
    have H' := mk0 H
    clear H
    have p278 : 0 ≤ (x20_1 : Int) := of_decide_eq_true (by first | (with_reducible assumption) | assumption)
    have q278 : x20_1 < (l0_0.length : Int) := of_decide_eq_true (by first | (with_reducible assumption) | assumption)
    obtain ⟨ad278, e278, hx278_0⟩ := Kd.at_int HR0_0.out x20_1 p278 q278
    cases e278
    replace hx278_0 := cell_go HB hx278_0
    replace p278 := eq_true p278
    replace q278 := eq_true q278
    try go_wp2_with (first | ((with_reducible refine gate_callee (f := 28) rfl ?_); refine goesL_ (some 25) rfl rfl Try.func28 (by kernel_rfl) rfl #[.int .i64 (rd l0_0 x20_1)] rfl z9_59 ?_; (with_reducible refine (impl_NeedOf.calls k1 (rd l0_0 x20_1) t279 _ A11.out).mono ?_); rintro e w' ⟨rfl, ⟨nd, rfl⟩⟩; refine ⟨_, rfl, ?_⟩; (try (rw [drewN_self wr]; generalize hq_ : World.drewN wr _ = wr; have n0_ : Aside0 (Kd.V k46 46 wr w.heap.size (fun k_ => ((P0_1_ k_) ∧ k_ < w.heap.size) ∧ some k_ ≠ (u3 : Value).ownBlock ∧ k_ ≠ gb276) (.slice A0_1 l0_1.length c0_1) l0_1) := ⟨(by rw [← hq_]; exact (pkV HO_277001))⟩; have n1_ : Aside0 (Kd.S (Kd.slice 46 k46) 29 wr w.heap.size (fun k_ => (w.heap.size ≤ k_)) u3 x3_1) := ⟨(by rw [← hq_]; exact (pkS HO_3))⟩; have n2_ : Aside0 (Kd.V k46 46 wr w.heap.size (fun k_ => ((P0_1_ k_) ∧ k_ < w.heap.size) ∧ some k_ ≠ (u3 : Value).ownBlock ∧ k_ ≠ gb276) u4 x4_1) := ⟨(by rw [← hq_]; exact (pkV HO_4))⟩; have n3_ : Aside0 (wr.heap[gb276]? = some (.cells #[.slice (some ad278) l0_0.length c0_0, .slice A0_1 l0_1.length c0_1] 31 (0, 0))) := ⟨(by rw [← hq_]; exact (pkb BK276))⟩; have n4_ : Aside0 (Below w.heap.size w wr) := ⟨(by rw [← hq_]; exact z9_35)⟩; clear HO_277001 HO_3 HO_4 BK276 HB hq_; have HO_277001 := n0_; have HO_3 := n1_; have HO_4 := n2_; have BK276 := n3_; have HB := n4_; clear n0_ n1_ n2_ n3_ n4_)); obtain ⟨Ao73, co73, eo73⟩ := Kd.V_slice HO_4.out; subst eo73; have q72 : (t279 : Int) ≤ ((x4_1.length : Int) : Int) := of_decide_eq_true (by first | (with_reducible assumption) | assumption); obtain ⟨i072, hi072, _, hsz72, _⟩ := info_parts info46; have hroom72 : x4_1.length ≤ co73 := (Kd.V_reads' HO_4.out).2.1; have hC72 : Kd.F k46 _ _ Ao73 x4_1.length x4_1 := (Kd.V_at (base := w.heap.size) HO_4.out).2.2; have hcut72 := cut_to (P := Try.prog) 29 46 .i64 Try.underlying29 hi072 Ao73 x4_1.length co73 t279 (of_decide_eq_true (by first | (with_reducible assumption) | assumption)) q72 hroom72; have hr72 := Kd.F_take (m := (t279 : Int).toNat) hC72 (by omega); have hy72 : y280.length = (t279 : Int).toNat := (by rw [Ny280.out, List.length_take]; omega); rw [← Ny280.out] at hr72; rw [← hy72] at hcut72; have HO284 := mk0 (show Kd.V k46 46 _ w.heap.size _ (.slice Ao73 y280.length co73) y280 from Kd.V_mk (by omega) hr72); have HC284 := mk0 (show y280.length ≤ co73 from by omega); clear hr72 hC72 hroom72 hi072 hsz72; have KY72 := mk0 hy72; clear hy72; replace q72 := eq_true q72; have q74 : (t279 : Int) ≤ ((x4_1.length : Int) : Int) := of_decide_eq_true (by first | (with_reducible assumption) | assumption); obtain ⟨i074, hi074, _, hsz74, _⟩ := info_parts info46; have hroom74 : x4_1.length ≤ co73 := (Kd.V_reads' HO_4.out).2.1; have hC74 : Kd.F k46 _ _ Ao73 x4_1.length x4_1 := (Kd.V_at (base := w.heap.size) HO_4.out).2.2; have q074 : (0 : Int) ≤ (t279 : Int) := of_decide_eq_true (by first | (with_reducible assumption) | assumption); have hcut74 := cut_from (P := Try.prog) 29 46 .i64 Try.underlying29 hi074 2 hsz74 Ao73 x4_1.length co73 t279 q074 q74; have hr74 := Kd.F_cut (m := (t279 : Int).toNat) (c := co73) hC74 (by omega) hroom74; obtain ⟨A74, hA74⟩ : ∃ A1, A1 = (if co73 = (t279 : Int).toNat then Ao73 else (Ao73 : Option Addr).map (·.add ((t279 : Int).toNat * 2))) := ⟨_, rfl⟩; obtain ⟨c74, hc74⟩ : ∃ c1, c1 = co73 - (t279 : Int).toNat := ⟨_, rfl⟩; have hy74 : y285.length = x4_1.length - (t279 : Int).toNat := (by rw [Ny285.out, List.length_drop] <;> omega); rw [show (x4_1).drop (t279 : Int).toNat = y285 from Ny285.out.symm] at hr74; replace hr74 : Kd.F k46 _ _ A74 y285.length y285 := (by rw [hA74]; exact hr74); rw [← hy74, ← hA74, ← hc74] at hcut74; have HO289 := mk0 (show Kd.V k46 46 _ w.heap.size _ (.slice A74 y285.length c74) y285 from Kd.V_mk (by rw [hy74, hc74]; exact Nat.sub_le_sub_right hroom74 _) hr74); have HC289 := mk0 (show y285.length ≤ c74 from by rw [hy74, hc74]; exact Nat.sub_le_sub_right hroom74 _); clear hr74 hC74 hroom74 hi074 hsz74 hc74; have KY74 := mk0 hy74; have KA74 := mk0 hA74; clear hy74 hA74; replace q74 := eq_true q74; obtain ⟨Ao75, co75, eo75⟩ := Kd.S_slice HO_3.out; subst eo75))
    have n0_ := mk0 (Kd.S_drew HO_3.out)
    have n1_ := mk0 (Kd.V_drew HO_4.out)
    have n2_ := mk0 (Kd.V_drew HO_277001.out)
    have n3_ := mk0 (Kd.V_drew HO284.out)
    have n4_ := mk0 (Kd.V_drew HO289.out)
    have n5_ := mk0 (blk_drew BK276.out)
    have n6_ := mk0 (below_drew1 HB.out)
    clear HO_3 HO_4 HO_277001 HO284 HO289 BK276 HB; have HO_3 := n0_; have HO_4 := n1_; have HO_277001 := n2_; have HO284 := n3_; have HO289 := n4_; have BK276 := n5_; have HB := n6_; clear n0_ n1_ n2_ n3_ n4_ n5_ n6_
    have p296 : 0 ≤ ((ji25) : Int) := of_decide_eq_true (by first | (with_reducible assumption) | assumption)
    have q296 : (ji25) < (x3_1.length : Int) := of_decide_eq_true (by first | (with_reducible assumption) | assumption)
    obtain ⟨ad296, A296_0, c296_0, e296, hx296_0, hl296_0, hi296_0⟩ := at_L2 (Kd.S_reads' HO_3.out).2.2 (ji25) p296 q296
    cases e296
    obtain ⟨ce296, hce296, hMe296, hcc296⟩ := Kd.S_get HO_3.out [] (ji25) p296 z9_82
    obtain ⟨ve296_0, rfl, ge296_0⟩ := hMe296
    have hv296_0 := hcc296 0 _ rfl
    rw [Nat.add_zero, show ((Kd.slice 46 k46)).sz = 1 from rfl, Nat.mul_one] at hv296_0
    replace hv296_0 := Option.some.inj (hv296_0.symm.trans hx296_0)
    rw [hv296_0] at ge296_0
    have HL296_0 := mk0 (show Kd.R k46 46 _ _ _ _ (rd_L2 x3_1 (ji25)) from ge296_0)
    clear hv296_0 ge296_0
    have HX296_0 := mk0 hx296_0
    clear hcc296 hce296
    have HR296_0 := mk0 hi296_0
    have HC296_0 := mk0 hl296_0
    clear hi296_0 hl296_0
    replace p296 := eq_true p296
    replace q296 := eq_true q296
    have p297 : 0 ≤ (0 : Int) := (by omega)
    have q297 : 0 < ((rd_L2 x3_1 (ji25)).length : Int) := of_decide_eq_true (by first | (with_reducible assumption) | assumption)
    obtain ⟨ad297, e297, hx297_0, hx297_1⟩ := at_T46 z9_36 0 p297 q297
    cases e297
    have qi297 : (0 < (rd_L2 x3_1 (ji25)).length) = True := eq_true (by omega)
    (try rw [show ((0 : Int)).toNat = 0 from rfl] at hx297_0)
    (try rw [show 0 * 2 = 0 from rfl] at hx297_0)
    (try rw [Addr.add_zero'] at hx297_0)
    (try rw [show ((0 : Int)).toNat = 0 from rfl] at hx297_1)
    (try rw [show 0 * 2 = 0 from rfl] at hx297_1)
    (try rw [Addr.add_zero'] at hx297_1)
    replace p297 := eq_true p297
    replace q297 := eq_true q297
    have p298 : 0 ≤ ((ji25) : Int) := of_decide_eq_true (by first | (with_reducible assumption) | assumption)
    have q298 : (ji25) < (x3_1.length : Int) := of_decide_eq_true (by first | (with_reducible assumption) | assumption)
    obtain ⟨ad298, A298_0, c298_0, e298, hx298_0, hl298_0, hi298_0⟩ := at_L2 (Kd.S_reads' HO_3.out).2.2 (ji25) p298 q298
    obtain rfl : ad296 = ad298 := (by injection e298)
    obtain ⟨ce298, hce298, hMe298, hcc298⟩ := Kd.S_get HO_3.out [] (ji25) p298 z9_83
    obtain ⟨ve298_0, rfl, ge298_0⟩ := hMe298
    have hv298_0 := hcc298 0 _ rfl
    rw [Nat.add_zero, show ((Kd.slice 46 k46)).sz = 1 from rfl, Nat.mul_one] at hv298_0
    replace hv298_0 := Option.some.inj (hv298_0.symm.trans hx298_0)
    rw [hv298_0] at ge298_0
    have HL298_0 := mk0 (show Kd.R k46 46 _ _ _ _ (rd_L2 x3_1 (ji25)) from ge298_0)
    clear hv298_0 ge298_0
    have HX298_0 := mk0 hx298_0
    clear hcc298 hce298
    have HR298_0 := mk0 hi298_0
    have HC298_0 := mk0 hl298_0
    clear hi298_0 hl298_0
    replace p298 := eq_true p298
    replace q298 := eq_true q298
    have ea_ := Option.some.inj (hx296_0.symm.trans hx298_0)
    injection ea_ with ea_ en_ ec_
    subst ea_; subst ec_; clear en_
    have p299 : 0 ≤ ((ji25) : Int) := of_decide_eq_true (by first | (with_reducible assumption) | assumption)
    have q299 : (ji25) < (x3_1.length : Int) := of_decide_eq_true (by first | (with_reducible assumption) | assumption)
    obtain ⟨ad299, A299_0, c299_0, e299, hx299_0, hl299_0, hi299_0⟩ := at_L2 (Kd.S_reads' HO_3.out).2.2 (ji25) p299 q299
    obtain rfl : ad296 = ad299 := (by injection e299)
    obtain ⟨ce299, hce299, hMe299, hcc299⟩ := Kd.S_get HO_3.out [] (ji25) p299 z9_84
    obtain ⟨ve299_0, rfl, ge299_0⟩ := hMe299
    have hv299_0 := hcc299 0 _ rfl
    rw [Nat.add_zero, show ((Kd.slice 46 k46)).sz = 1 from rfl, Nat.mul_one] at hv299_0
    replace hv299_0 := Option.some.inj (hv299_0.symm.trans hx299_0)
    rw [hv299_0] at ge299_0
    have HL299_0 := mk0 (show Kd.R k46 46 _ _ _ _ (rd_L2 x3_1 (ji25)) from ge299_0)
    clear hv299_0 ge299_0
    have HX299_0 := mk0 hx299_0
    clear hcc299 hce299
    have HR299_0 := mk0 hi299_0
    have HC299_0 := mk0 hl299_0
    clear hi299_0 hl299_0
    replace p299 := eq_true p299
    replace q299 := eq_true q299
    have ea_ := Option.some.inj (hx296_0.symm.trans hx299_0)
    injection ea_ with ea_ en_ ec_
    subst ea_; subst ec_; clear en_
    have p300 : 0 ≤ ((ji29) : Int) := of_decide_eq_true (by first | (with_reducible assumption) | assumption)
    have q300 : (ji29) < ((rd_L2 x3_1 (ji25)).length : Int) := of_decide_eq_true (by first | (with_reducible assumption) | assumption)
    obtain ⟨ad300, e300, hx300_0, hx300_1⟩ := at_T46 z9_37 (ji29) p300 q300
    cases e300
    replace p300 := eq_true p300
    replace q300 := eq_true q300
    go_wp2
    refine start_ (n := 19) (S := fun w' => w'.cell? (ad296.add ((ji25)).toNat) = some (.slice (some ad297) (rd_L2 x3_1 (ji25)).length c296_0) ∧ w'.cell? ad297 = some (.int .i64 ((rd_T46 (rd_L2 x3_1 (ji25)) 0).f0)) ∧ w'.cell? ⟨ad297.block, ad297.off + 1, none⟩ = some (.int .i64 ((rd_T46 (rd_L2 x3_1 (ji25)) 0).f1)) ∧ w'.cell? (ad296.add ((ji25)).toNat) = some (.slice (some ad297) (rd_L2 x3_1 (ji25)).length c296_0) ∧ w'.cell? (ad296.add ((ji25)).toNat) = some (.slice (some ad297) (rd_L2 x3_1 (ji25)).length c296_0) ∧ w'.cell? (ad297.add (((ji29)).toNat * 2)) = some (.int .i64 ((rd_T46 (rd_L2 x3_1 (ji25)) (ji29)).f0)) ∧ w'.cell? ⟨(ad297.add (((ji29)).toNat * 2)).block, (ad297.add (((ji29)).toNat * 2)).off + 1, none⟩ = some (.int .i64 ((rd_T46 (rd_L2 x3_1 (ji25)) (ji29)).f1))) (ds := []) y9_0 (by kernel_rfl) rfl rfl ⟨hx296_0, hx297_0, hx297_1, hx298_0, hx299_0, hx300_0, hx300_1⟩ (fun hHeld => ?_); refine with_tabW impl_FlatOf.tab14 impl_FlatOf.bits14 (fun HT_ HW_ => ?_)
    generalize wr.drew = w76 at HO_3 HO_4 HO_277001 HO284 HO289 BK276 HB HL296_0 HL298_0 HL299_0 HR296_0 HR298_0 HR299_0 HX296_0 HX298_0 HX299_0 hx296_0 hx297_0 hx297_1 hx298_0 hx299_0 hx300_0 hx300_1 hHeld ⊢
    refine pzv (i := 0) (N := 46) (v := ?_) (a' := ?_) y9_3 HT_ ?_ ?_ ?_
    rotate_left
    ·intro w'
     go_simp; with_reducible rfl
    rotate_left
    ·exact x9_put
    refine pzv (i := 1) (N := 47) (v := ?_) (a' := ?_) y9_6 HT_ ?_ ?_ ?_
    rotate_left
    ·intro w'
     go_simp; with_reducible rfl
    rotate_left
    ·exact x9_put
    refine pzv (i := 5) (N := 51) (v := ?_) (a' := ?_) y9_9 HT_ ?_ ?_ ?_
    rotate_left
    ·intro w'
     go_simp; with_reducible rfl
    rotate_left
    ·exact x9_put
    refine pzv (i := 6) (N := 52) (v := ?_) (a' := ?_) y9_10 HT_ ?_ ?_ ?_
    rotate_left
    ·intro w'
     go_simp; with_reducible rfl
    rotate_left
    ·exact x9_put
    refine pzv (i := 8) (N := 54) (v := ?_) (a' := ?_) y9_11 HT_ ?_ ?_ ?_
    rotate_left
    ·intro w'
     go_simp; with_reducible rfl
    rotate_left
    ·exact x9_put
    refine pzv (i := 9) (N := 55) (v := ?_) (a' := ?_) y9_12 HT_ ?_ ?_ ?_
    rotate_left
    ·intro w'
     go_simp; with_reducible rfl
    rotate_left
    ·exact x9_put
    refine take_ (i := 2) (N := some 48) (v := ?_) (a' := ?_) y9_15 rfl rfl (take_ofW HT_.out HW_.out (by kernel_rfl)) (fun _ _ _ h => h) (Or.inl ⟨by rfl, ?_⟩) hHeld ?_ ?_
    rotate_left
    ·rintro w' ⟨s0, s1, s2, s3, s4, s5, s6⟩
     go_simp; with_reducible rfl
    rotate_left
    ·exact x9_put
    refine pzv (i := 3) (N := 49) (v := ?_) (a' := ?_) y9_19 HT_ ?_ ?_ ?_
    rotate_left
    ·intro w'
     go_simp; with_reducible rfl
    rotate_left
    ·exact x9_put
    refine take_ (i := 4) (N := some 50) (v := ?_) (a' := ?_) y9_25 rfl rfl (take_ofW HT_.out HW_.out (by kernel_rfl)) (fun _ _ _ h => h) (Or.inl ⟨by rfl, ?_⟩) hHeld ?_ ?_
    rotate_left
    ·rintro w' ⟨s0, s1, s2, s3, s4, s5, s6⟩
     go_simp; with_reducible rfl
    rotate_left
    ·exact x9_put
    refine take_ (i := 7) (N := some 53) (v := ?_) (a' := ?_) y9_29 rfl rfl (take_ofW HT_.out HW_.out (by kernel_rfl)) (fun _ _ _ h => h) (Or.inl ⟨by rfl, ?_⟩) hHeld ?_ ?_
    rotate_left
    ·rintro w' ⟨s0, s1, s2, s3, s4, s5, s6⟩
     go_simp; with_reducible rfl
    rotate_left
    ·exact x9_put
    refine take_ (i := 10) (N := some 56) (v := ?_) (a' := ?_) y9_31 rfl rfl (take_ofW HT_.out HW_.out (by kernel_rfl)) (fun _ _ _ h => h) (Or.inl ⟨by rfl, ?_⟩) hHeld ?_ ?_
    rotate_left
    ·rintro w' ⟨s0, s1, s2, s3, s4, s5, s6⟩
     go_simp; with_reducible rfl
    rotate_left
    ·exact x9_put
    refine pzv (i := 11) (N := 57) (v := ?_) (a' := ?_) y9_32 HT_ ?_ ?_ ?_
    rotate_left
    ·intro w'
     go_simp; with_reducible rfl
    rotate_left
    ·exact x9_put
    refine pzv (i := 12) (N := 58) (v := ?_) (a' := ?_) y9_33 HT_ ?_ ?_ ?_
    rotate_left
    ·intro w'
     go_simp; with_reducible rfl
    rotate_left
    ·exact x9_put
    refine pzv (i := 13) (N := 59) (v := ?_) (a' := ?_) y9_34 HT_ ?_ ?_ ?_
    rotate_left
    ·intro w'
     go_simp; with_reducible rfl
    rotate_left
    ·exact x9_put
    refine take_ (i := 14) (N := some 60) (v := ?_) (a' := ?_) y9_35 rfl rfl (take_ofW HT_.out HW_.out (by kernel_rfl)) (fun _ _ _ h => h) (Or.inl ⟨by rfl, ?_⟩) hHeld ?_ ?_
    rotate_left
    ·rintro w' ⟨s0, s1, s2, s3, s4, s5, s6⟩
     go_simp; with_reducible rfl
    rotate_left
    ·exact x9_put
    refine join_ (σ := Nat × Nat) 2 y9_38 (fun s_ => [(10, .pointer (some ⟨s_.1, 0, none⟩)), (11, .pointer (some ⟨s_.2, 0, none⟩))]) (fun s_ w' => (w'.cell? (ad296.add ((ji25)).toNat) = some (.slice (some ad297) (rd_L2 x3_1 (ji25)).length c296_0) ∧ w'.cell? ad297 = some (.int .i64 ((rd_T46 (rd_L2 x3_1 (ji25)) 0).f0)) ∧ w'.cell? ⟨ad297.block, ad297.off + 1, none⟩ = some (.int .i64 ((rd_T46 (rd_L2 x3_1 (ji25)) 0).f1)) ∧ w'.cell? (ad296.add ((ji25)).toNat) = some (.slice (some ad297) (rd_L2 x3_1 (ji25)).length c296_0) ∧ w'.cell? (ad296.add ((ji25)).toNat) = some (.slice (some ad297) (rd_L2 x3_1 (ji25)).length c296_0) ∧ w'.cell? (ad297.add (((ji29)).toNat * 2)) = some (.int .i64 ((rd_T46 (rd_L2 x3_1 (ji25)) (ji29)).f0)) ∧ w'.cell? ⟨(ad297.add (((ji29)).toNat * 2)).block, (ad297.add (((ji29)).toNat * 2)).off + 1, none⟩ = some (.int .i64 ((rd_T46 (rd_L2 x3_1 (ji25)) (ji29)).f1))) ∧ (Kd.R k46 46 w' w.heap.size (fun k_ => (w.heap.size ≤ k_) ∧ some k_ ≠ (.slice (some ad296) x3_1.length co75 : Value).ownBlock ∧ k_ ≠ s_.1 ∧ k_ ≠ s_.2) (.slice (some ad297) (rd_L2 x3_1 (ji25)).length c296_0) (rd_L2 x3_1 (ji25))) ∧ (Kd.R k46 46 w' w.heap.size (fun k_ => (w.heap.size ≤ k_) ∧ some k_ ≠ (.slice (some ad296) x3_1.length co75 : Value).ownBlock ∧ k_ ≠ s_.1 ∧ k_ ≠ s_.2) (.slice (some ad297) (rd_L2 x3_1 (ji25)).length c296_0) (rd_L2 x3_1 (ji25))) ∧ (Kd.R k46 46 w' w.heap.size (fun k_ => (w.heap.size ≤ k_) ∧ some k_ ≠ (.slice (some ad296) x3_1.length co75 : Value).ownBlock ∧ k_ ≠ s_.1 ∧ k_ ≠ s_.2) (.slice (some ad297) (rd_L2 x3_1 (ji25)).length c296_0) (rd_L2 x3_1 (ji25))) ∧ (Kd.V k46 46 w' w.heap.size (fun k_ => ((P0_1_ k_) ∧ k_ < w.heap.size) ∧ some k_ ≠ (.slice (some ad296) x3_1.length co75 : Value).ownBlock ∧ k_ ≠ gb276 ∧ k_ ≠ s_.1 ∧ k_ ≠ s_.2) (.slice Ao73 y280.length co73) y280) ∧ (Kd.V k46 46 w' w.heap.size (fun k_ => ((P0_1_ k_) ∧ k_ < w.heap.size) ∧ some k_ ≠ (.slice (some ad296) x3_1.length co75 : Value).ownBlock ∧ k_ ≠ gb276 ∧ k_ ≠ s_.1 ∧ k_ ≠ s_.2) (.slice A74 y285.length c74) y285) ∧ (Kd.V k46 46 w' w.heap.size (fun k_ => ((P0_1_ k_) ∧ k_ < w.heap.size) ∧ some k_ ≠ (.slice (some ad296) x3_1.length co75 : Value).ownBlock ∧ k_ ≠ gb276 ∧ k_ ≠ s_.1 ∧ k_ ≠ s_.2) (.slice A0_1 l0_1.length c0_1) l0_1) ∧ (Kd.S (Kd.slice 46 k46) 29 w' w.heap.size (fun k_ => (w.heap.size ≤ k_) ∧ k_ ≠ s_.1 ∧ k_ ≠ s_.2) (.slice (some ad296) x3_1.length co75) x3_1) ∧ (Kd.V k46 46 w' w.heap.size (fun k_ => ((P0_1_ k_) ∧ k_ < w.heap.size) ∧ some k_ ≠ (.slice (some ad296) x3_1.length co75 : Value).ownBlock ∧ k_ ≠ gb276 ∧ k_ ≠ s_.1 ∧ k_ ≠ s_.2) (.slice Ao73 x4_1.length co73) x4_1) ∧ (w'.cell? (ad296.add ((ji25)).toNat) = some (.slice (some ad297) (rd_L2 x3_1 (ji25)).length c296_0)) ∧ (w'.cell? (ad296.add ((ji25)).toNat) = some (.slice (some ad297) (rd_L2 x3_1 (ji25)).length c296_0)) ∧ (w'.cell? (ad296.add ((ji25)).toNat) = some (.slice (some ad297) (rd_L2 x3_1 (ji25)).length c296_0)) ∧ (w'.heap[gb276]? = some (.cells #[.slice (some ad278) l0_0.length c0_0, .slice A0_1 l0_1.length c0_1] 31 (0, 0))) ∧ (w'.heap[s_.1]? = some (.cells #[.int .i64 0, .int .i64 0] 46 (0, 0))) ∧ (w'.heap[s_.2]? = some (.cells #[.int .i64 0, .int .i64 0] 46 (0, 0))) ∧ (w.heap.size ≤ s_.1) ∧ (w.heap.size ≤ s_.1) ∧ (gb276 ≠ s_.1) ∧ (s_.1 ≠ gb276) ∧ (s_.2 ≠ s_.1) ∧ (s_.1 ≠ s_.2) ∧ (w.heap.size ≤ s_.2) ∧ (w.heap.size ≤ s_.2) ∧ (gb276 ≠ s_.2) ∧ (s_.2 ≠ gb276) ∧ (Below w.heap.size w w')) ?_ ?_
    rotate_left
    ·intro hCont
     refine two_ (i := 15) (j := 16) (Ni := some 10) (Nj := some 11) y9_37 y9_36 rfl rfl rfl rfl (two_of HT_.out (by kernel_rfl)) (by decide) (by decide) (fun K hK => ?_) (fun K hK => ?_)
     ·skip
      refine box_step ?hg (N := 10) ?hd (cs := #[.int .i64 0, .int .i64 0]) (t := 46) ?hr ?_; (case hd => rfl); (case hg => rfl); (case hr => first | (go_simp; done) | (go_simp; rfl))
      intro gb301 hg w77 hbox hb
      have HS0_ := (hb.cell (World.block_lt_of_cell? _ _ (hHeld.1))).trans (hHeld.1)
      have HS1_ := (hb.cell (World.block_lt_of_cell? _ _ (hHeld.2.1))).trans (hHeld.2.1)
      have HS2_ := (hb.cell (World.block_lt_of_cell? _ _ (hHeld.2.2.1))).trans (hHeld.2.2.1)
      have HS3_ := (hb.cell (World.block_lt_of_cell? _ _ (hHeld.2.2.2.1))).trans (hHeld.2.2.2.1)
      have HS4_ := (hb.cell (World.block_lt_of_cell? _ _ (hHeld.2.2.2.2.1))).trans (hHeld.2.2.2.2.1)
      have HS5_ := (hb.cell (World.block_lt_of_cell? _ _ (hHeld.2.2.2.2.2.1))).trans (hHeld.2.2.2.2.2.1)
      have HS6_ := (hb.cell (World.block_lt_of_cell? _ _ (hHeld.2.2.2.2.2.2))).trans (hHeld.2.2.2.2.2.2)
      have n0_ := mk0 (Kd.S_below (Kd.S_elderB (pkS HO_3) gb301 (Nat.le_of_eq hg.symm)) hb)
      have n1_ := mk0 (Kd.V_below (Kd.V_elderB (pkV HO_4) gb301 (Nat.le_of_eq hg.symm)) hb)
      have n2_ := mk0 (Kd.V_below (Kd.V_elderB (pkV HO_277001) gb301 (Nat.le_of_eq hg.symm)) hb)
      have n3_ := mk0 (Kd.V_below (Kd.V_elderB (pkV HO284) gb301 (Nat.le_of_eq hg.symm)) hb)
      have n4_ := mk0 (Kd.V_below (Kd.V_elderB (pkV HO289) gb301 (Nat.le_of_eq hg.symm)) hb)
      have n5_ := mk0 (Kd.R_below (Kd.R_elderB (pkR HL296_0) gb301 (Nat.le_of_eq hg.symm)) hb)
      have n6_ := mk0 (Kd.R_below (Kd.R_elderB (pkR HL298_0) gb301 (Nat.le_of_eq hg.symm)) hb)
      have n7_ := mk0 (Kd.R_below (Kd.R_elderB (pkR HL299_0) gb301 (Nat.le_of_eq hg.symm)) hb)
      have n8_ := mk0 (blk_belowB BK276 (pkb BK276) hb)
      have n9_ := mk0 (Kd.C_below z9_36 hb)
      have n10_ := mk0 (pw_cell_below hb HX296_0.out)
      have n11_ := mk0 (Kd.C_below z9_37 hb)
      have n12_ := mk0 (pw_cell_below hb HX298_0.out)
      have n13_ := mk0 (Kd.C_below z9_41 hb)
      have n14_ := mk0 (pw_cell_below hb HX299_0.out)
      have n15_ := mk0 (below_step z9_35 hb)
      have n16_ := mk0 (hbox)
      have n17_ := mk0 (ge_go (a := w.heap.size) hg (below_size z9_35))
      have n18_ := mk0 (ge_go (a := w.heap.size) hg (below_size z9_35))
      have n19_ := mk0 (nb_lt hg (blk_ltB BK276 (pkb BK276)))
      have n20_ := mk0 (nb_gt hg (blk_ltB BK276 (pkb BK276)))
      clear HO_3 HO_4 HO_277001 HO284 HO289 HL296_0 HL298_0 HL299_0 BK276 HR296_0 HX296_0 HR298_0 HX298_0 HR299_0 HX299_0 HB; have HO_3 := n0_; have HO_4 := n1_; have HO_277001 := n2_; have HO284 := n3_; have HO289 := n4_; have HL296_0 := n5_; have HL298_0 := n6_; have HL299_0 := n7_; have BK276 := n8_; have HR296_0 := n9_; have HX296_0 := n10_; have HR298_0 := n11_; have HX298_0 := n12_; have HR299_0 := n13_; have HX299_0 := n14_; have HB := n15_; have BK301 := n16_; have GW301 := n17_; have GE301 := n18_; have NB276_301 := n19_; have NB301_276 := n20_; clear n0_ n1_ n2_ n3_ n4_ n5_ n6_ n7_ n8_ n9_ n10_ n11_ n12_ n13_ n14_ n15_ n16_ n17_ n18_ n19_ n20_ hb hbox hg
      refine hK.out _ _ ⟨HS0_, HS1_, HS2_, HS3_, HS4_, HS5_, HS6_⟩ (fun hHeld => ?_)
      clear hK K
      refine norm_ (a' := ?_) ?_ ?_
      rotate_left
      ·show Act.put _ (some 10) _ = _
       simp only [Act.put, List.setIfInBounds_toArray, List.set_cons_zero, List.set_cons_succ, i64_w, i32_w]
       rfl
      refine one_ (i := 16) (N := some 11) y9_38 rfl rfl (one_of HT_.out (by kernel_rfl)) (by decide) (fun K hK => ?_)
      refine box_step ?hg (N := 11) ?hd (cs := #[.int .i64 0, .int .i64 0]) (t := 46) ?hr ?_; (case hd => rfl); (case hg => rfl); (case hr => first | (go_simp; done) | (go_simp; rfl))
      intro gb302 hg w78 hbox hb
      have HS0_ := (hb.cell (World.block_lt_of_cell? _ _ (hHeld.1))).trans (hHeld.1)
      have HS1_ := (hb.cell (World.block_lt_of_cell? _ _ (hHeld.2.1))).trans (hHeld.2.1)
      have HS2_ := (hb.cell (World.block_lt_of_cell? _ _ (hHeld.2.2.1))).trans (hHeld.2.2.1)
      have HS3_ := (hb.cell (World.block_lt_of_cell? _ _ (hHeld.2.2.2.1))).trans (hHeld.2.2.2.1)
      have HS4_ := (hb.cell (World.block_lt_of_cell? _ _ (hHeld.2.2.2.2.1))).trans (hHeld.2.2.2.2.1)
      have HS5_ := (hb.cell (World.block_lt_of_cell? _ _ (hHeld.2.2.2.2.2.1))).trans (hHeld.2.2.2.2.2.1)
      have HS6_ := (hb.cell (World.block_lt_of_cell? _ _ (hHeld.2.2.2.2.2.2))).trans (hHeld.2.2.2.2.2.2)
      have n0_ := mk0 (Kd.S_below (Kd.S_elderB (pkS HO_3) gb302 (Nat.le_of_eq hg.symm)) hb)
      have n1_ := mk0 (Kd.V_below (Kd.V_elderB (pkV HO_4) gb302 (Nat.le_of_eq hg.symm)) hb)
      have n2_ := mk0 (Kd.V_below (Kd.V_elderB (pkV HO_277001) gb302 (Nat.le_of_eq hg.symm)) hb)
      have n3_ := mk0 (Kd.V_below (Kd.V_elderB (pkV HO284) gb302 (Nat.le_of_eq hg.symm)) hb)
      have n4_ := mk0 (Kd.V_below (Kd.V_elderB (pkV HO289) gb302 (Nat.le_of_eq hg.symm)) hb)
      have n5_ := mk0 (Kd.R_below (Kd.R_elderB (pkR HL296_0) gb302 (Nat.le_of_eq hg.symm)) hb)
      have n6_ := mk0 (Kd.R_below (Kd.R_elderB (pkR HL298_0) gb302 (Nat.le_of_eq hg.symm)) hb)
      have n7_ := mk0 (Kd.R_below (Kd.R_elderB (pkR HL299_0) gb302 (Nat.le_of_eq hg.symm)) hb)
      have n8_ := mk0 (blk_belowB BK276 (pkb BK276) hb)
      have n9_ := mk0 (Kd.C_below z9_36 hb)
      have n10_ := mk0 (pw_cell_below hb HX296_0.out)
      have n11_ := mk0 (Kd.C_below z9_37 hb)
      have n12_ := mk0 (pw_cell_below hb HX298_0.out)
      have n13_ := mk0 (Kd.C_below z9_41 hb)
      have n14_ := mk0 (pw_cell_below hb HX299_0.out)
      have n15_ := mk0 (blk_belowB BK301 (pkb BK301) hb)
      have n16_ := mk0 (below_step z9_46 hb)
      have n17_ := mk0 (hbox)
      have n18_ := mk0 (ge_go (a := w.heap.size) hg (below_size z9_46))
      have n19_ := mk0 (ge_go (a := w.heap.size) hg (below_size z9_46))
      have n20_ := mk0 (nb_lt hg (blk_ltB BK276 (pkb BK276)))
      have n21_ := mk0 (nb_gt hg (blk_ltB BK276 (pkb BK276)))
      have n22_ := mk0 (nb_lt hg (blk_ltB BK301 (pkb BK301)))
      have n23_ := mk0 (nb_gt hg (blk_ltB BK301 (pkb BK301)))
      clear HO_3 HO_4 HO_277001 HO284 HO289 HL296_0 HL298_0 HL299_0 BK276 HR296_0 HX296_0 HR298_0 HX298_0 HR299_0 HX299_0 BK301 HB; have HO_3 := n0_; have HO_4 := n1_; have HO_277001 := n2_; have HO284 := n3_; have HO289 := n4_; have HL296_0 := n5_; have HL298_0 := n6_; have HL299_0 := n7_; have BK276 := n8_; have HR296_0 := n9_; have HX296_0 := n10_; have HR298_0 := n11_; have HX298_0 := n12_; have HR299_0 := n13_; have HX299_0 := n14_; have BK301 := n15_; have HB := n16_; have BK302 := n17_; have GW302 := n18_; have GE302 := n19_; have NB276_302 := n20_; have NB302_276 := n21_; have NB301_302 := n22_; have NB302_301 := n23_; clear n0_ n1_ n2_ n3_ n4_ n5_ n6_ n7_ n8_ n9_ n10_ n11_ n12_ n13_ n14_ n15_ n16_ n17_ n18_ n19_ n20_ n21_ n22_ n23_ hb hbox hg
      refine hK.out _ _ ⟨HS0_, HS1_, HS2_, HS3_, HS4_, HS5_, HS6_⟩ (fun hHeld => ?_)
      clear hK K
      refine norm_ (a' := ?_) ?_ ?_
      rotate_left
      ·show Act.put _ (some 11) _ = _
       simp only [Act.put, List.setIfInBounds_toArray, List.set_cons_zero, List.set_cons_succ, i64_w, i32_w]
       rfl
      exact norm_ z9_63 (hCont (gb301, gb302) _ ⟨hHeld, z9_74, z9_75, z9_76, z9_67, z9_68, z9_65, z9_80, z9_71, HX296_0.out, HX298_0.out, HX299_0.out, (pkb BK276), (pkb BK301), (pkb BK302), GW301.out, GE301.out, NB276_301.out, NB301_276.out, NB302_301.out, NB301_302.out, GW302.out, GE302.out, NB276_302.out, NB302_276.out, z9_34⟩)
     skip
     refine box_step ?hg (N := 11) ?hd (cs := #[.int .i64 0, .int .i64 0]) (t := 46) ?hr ?_; (case hd => rfl); (case hg => rfl); (case hr => first | (go_simp; done) | (go_simp; rfl))
     intro gb302 hg w77 hbox hb
     have HS0_ := (hb.cell (World.block_lt_of_cell? _ _ (hHeld.1))).trans (hHeld.1)
     have HS1_ := (hb.cell (World.block_lt_of_cell? _ _ (hHeld.2.1))).trans (hHeld.2.1)
     have HS2_ := (hb.cell (World.block_lt_of_cell? _ _ (hHeld.2.2.1))).trans (hHeld.2.2.1)
     have HS3_ := (hb.cell (World.block_lt_of_cell? _ _ (hHeld.2.2.2.1))).trans (hHeld.2.2.2.1)
     have HS4_ := (hb.cell (World.block_lt_of_cell? _ _ (hHeld.2.2.2.2.1))).trans (hHeld.2.2.2.2.1)
     have HS5_ := (hb.cell (World.block_lt_of_cell? _ _ (hHeld.2.2.2.2.2.1))).trans (hHeld.2.2.2.2.2.1)
     have HS6_ := (hb.cell (World.block_lt_of_cell? _ _ (hHeld.2.2.2.2.2.2))).trans (hHeld.2.2.2.2.2.2)
     have n0_ := mk0 (Kd.S_below (Kd.S_elderB (pkS HO_3) gb302 (Nat.le_of_eq hg.symm)) hb)
     have n1_ := mk0 (Kd.V_below (Kd.V_elderB (pkV HO_4) gb302 (Nat.le_of_eq hg.symm)) hb)
     have n2_ := mk0 (Kd.V_below (Kd.V_elderB (pkV HO_277001) gb302 (Nat.le_of_eq hg.symm)) hb)
     have n3_ := mk0 (Kd.V_below (Kd.V_elderB (pkV HO284) gb302 (Nat.le_of_eq hg.symm)) hb)
     have n4_ := mk0 (Kd.V_below (Kd.V_elderB (pkV HO289) gb302 (Nat.le_of_eq hg.symm)) hb)
     have n5_ := mk0 (Kd.R_below (Kd.R_elderB (pkR HL296_0) gb302 (Nat.le_of_eq hg.symm)) hb)
     have n6_ := mk0 (Kd.R_below (Kd.R_elderB (pkR HL298_0) gb302 (Nat.le_of_eq hg.symm)) hb)
     have n7_ := mk0 (Kd.R_below (Kd.R_elderB (pkR HL299_0) gb302 (Nat.le_of_eq hg.symm)) hb)
     have n8_ := mk0 (blk_belowB BK276 (pkb BK276) hb)
     have n9_ := mk0 (Kd.C_below z9_36 hb)
     have n10_ := mk0 (pw_cell_below hb HX296_0.out)
     have n11_ := mk0 (Kd.C_below z9_37 hb)
     have n12_ := mk0 (pw_cell_below hb HX298_0.out)
     have n13_ := mk0 (Kd.C_below z9_41 hb)
     have n14_ := mk0 (pw_cell_below hb HX299_0.out)
     have n15_ := mk0 (below_step z9_35 hb)
     have n16_ := mk0 (hbox)
     have n17_ := mk0 (ge_go (a := w.heap.size) hg (below_size z9_35))
     have n18_ := mk0 (ge_go (a := w.heap.size) hg (below_size z9_35))
     have n19_ := mk0 (nb_lt hg (blk_ltB BK276 (pkb BK276)))
     have n20_ := mk0 (nb_gt hg (blk_ltB BK276 (pkb BK276)))
     clear HO_3 HO_4 HO_277001 HO284 HO289 HL296_0 HL298_0 HL299_0 BK276 HR296_0 HX296_0 HR298_0 HX298_0 HR299_0 HX299_0 HB; have HO_3 := n0_; have HO_4 := n1_; have HO_277001 := n2_; have HO284 := n3_; have HO289 := n4_; have HL296_0 := n5_; have HL298_0 := n6_; have HL299_0 := n7_; have BK276 := n8_; have HR296_0 := n9_; have HX296_0 := n10_; have HR298_0 := n11_; have HX298_0 := n12_; have HR299_0 := n13_; have HX299_0 := n14_; have HB := n15_; have BK302 := n16_; have GW302 := n17_; have GE302 := n18_; have NB276_302 := n19_; have NB302_276 := n20_; clear n0_ n1_ n2_ n3_ n4_ n5_ n6_ n7_ n8_ n9_ n10_ n11_ n12_ n13_ n14_ n15_ n16_ n17_ n18_ n19_ n20_ hb hbox hg
     refine hK.out _ _ ⟨HS0_, HS1_, HS2_, HS3_, HS4_, HS5_, HS6_⟩ (fun hHeld => ?_)
     clear hK K
     refine norm_ (a' := ?_) ?_ ?_
     rotate_left
     ·show Act.put _ (some 11) _ = _
      simp only [Act.put, List.setIfInBounds_toArray, List.set_cons_zero, List.set_cons_succ, i64_w, i32_w]
      rfl
     refine one_ (i := 15) (N := some 10) y9_38 rfl rfl (one_of HT_.out (by kernel_rfl)) (by decide) (fun K hK => ?_)
     refine box_step ?hg (N := 10) ?hd (cs := #[.int .i64 0, .int .i64 0]) (t := 46) ?hr ?_; (case hd => rfl); (case hg => rfl); (case hr => first | (go_simp; done) | (go_simp; rfl))
     intro gb301 hg w78 hbox hb
     have HS0_ := (hb.cell (World.block_lt_of_cell? _ _ (hHeld.1))).trans (hHeld.1)
     have HS1_ := (hb.cell (World.block_lt_of_cell? _ _ (hHeld.2.1))).trans (hHeld.2.1)
     have HS2_ := (hb.cell (World.block_lt_of_cell? _ _ (hHeld.2.2.1))).trans (hHeld.2.2.1)
     have HS3_ := (hb.cell (World.block_lt_of_cell? _ _ (hHeld.2.2.2.1))).trans (hHeld.2.2.2.1)
     have HS4_ := (hb.cell (World.block_lt_of_cell? _ _ (hHeld.2.2.2.2.1))).trans (hHeld.2.2.2.2.1)
     have HS5_ := (hb.cell (World.block_lt_of_cell? _ _ (hHeld.2.2.2.2.2.1))).trans (hHeld.2.2.2.2.2.1)
     have HS6_ := (hb.cell (World.block_lt_of_cell? _ _ (hHeld.2.2.2.2.2.2))).trans (hHeld.2.2.2.2.2.2)
     have n0_ := mk0 (Kd.S_below (Kd.S_elderB (pkS HO_3) gb301 (Nat.le_of_eq hg.symm)) hb)
     have n1_ := mk0 (Kd.V_below (Kd.V_elderB (pkV HO_4) gb301 (Nat.le_of_eq hg.symm)) hb)
     have n2_ := mk0 (Kd.V_below (Kd.V_elderB (pkV HO_277001) gb301 (Nat.le_of_eq hg.symm)) hb)
     have n3_ := mk0 (Kd.V_below (Kd.V_elderB (pkV HO284) gb301 (Nat.le_of_eq hg.symm)) hb)
     have n4_ := mk0 (Kd.V_below (Kd.V_elderB (pkV HO289) gb301 (Nat.le_of_eq hg.symm)) hb)
     have n5_ := mk0 (Kd.R_below (Kd.R_elderB (pkR HL296_0) gb301 (Nat.le_of_eq hg.symm)) hb)
     have n6_ := mk0 (Kd.R_below (Kd.R_elderB (pkR HL298_0) gb301 (Nat.le_of_eq hg.symm)) hb)
     have n7_ := mk0 (Kd.R_below (Kd.R_elderB (pkR HL299_0) gb301 (Nat.le_of_eq hg.symm)) hb)
     have n8_ := mk0 (blk_belowB BK276 (pkb BK276) hb)
     have n9_ := mk0 (Kd.C_below z9_36 hb)
     have n10_ := mk0 (pw_cell_below hb HX296_0.out)
     have n11_ := mk0 (Kd.C_below z9_37 hb)
     have n12_ := mk0 (pw_cell_below hb HX298_0.out)
     have n13_ := mk0 (Kd.C_below z9_41 hb)
     have n14_ := mk0 (pw_cell_below hb HX299_0.out)
     have n15_ := mk0 (blk_belowB BK302 (pkb BK302) hb)
     have n16_ := mk0 (below_step z9_47 hb)
     have n17_ := mk0 (hbox)
     have n18_ := mk0 (ge_go (a := w.heap.size) hg (below_size z9_47))
     have n19_ := mk0 (ge_go (a := w.heap.size) hg (below_size z9_47))
     have n20_ := mk0 (nb_lt hg (blk_ltB BK276 (pkb BK276)))
     have n21_ := mk0 (nb_gt hg (blk_ltB BK276 (pkb BK276)))
     have n22_ := mk0 (nb_lt hg (blk_ltB BK302 (pkb BK302)))
     have n23_ := mk0 (nb_gt hg (blk_ltB BK302 (pkb BK302)))
     clear HO_3 HO_4 HO_277001 HO284 HO289 HL296_0 HL298_0 HL299_0 BK276 HR296_0 HX296_0 HR298_0 HX298_0 HR299_0 HX299_0 BK302 HB; have HO_3 := n0_; have HO_4 := n1_; have HO_277001 := n2_; have HO284 := n3_; have HO289 := n4_; have HL296_0 := n5_; have HL298_0 := n6_; have HL299_0 := n7_; have BK276 := n8_; have HR296_0 := n9_; have HX296_0 := n10_; have HR298_0 := n11_; have HX298_0 := n12_; have HR299_0 := n13_; have HX299_0 := n14_; have BK302 := n15_; have HB := n16_; have BK301 := n17_; have GW301 := n18_; have GE301 := n19_; have NB276_301 := n20_; have NB301_276 := n21_; have NB302_301 := n22_; have NB301_302 := n23_; clear n0_ n1_ n2_ n3_ n4_ n5_ n6_ n7_ n8_ n9_ n10_ n11_ n12_ n13_ n14_ n15_ n16_ n17_ n18_ n19_ n20_ n21_ n22_ n23_ hb hbox hg
     refine hK.out _ _ ⟨HS0_, HS1_, HS2_, HS3_, HS4_, HS5_, HS6_⟩ (fun hHeld => ?_)
     clear hK K
     refine norm_ (a' := ?_) ?_ ?_
     rotate_left
     ·show Act.put _ (some 10) _ = _
      simp only [Act.put, List.setIfInBounds_toArray, List.set_cons_zero, List.set_cons_succ, i64_w, i32_w]
      rfl
     exact norm_ z9_63 (hCont (gb301, gb302) _ ⟨hHeld, z9_77, z9_78, z9_79, z9_69, z9_70, z9_66, z9_81, z9_72, HX296_0.out, HX298_0.out, HX299_0.out, (pkb BK276), (pkb BK301), (pkb BK302), GW301.out, GE301.out, NB276_301.out, NB301_276.out, NB302_301.out, NB301_302.out, GW302.out, GE302.out, NB276_302.out, NB302_276.out, z9_64⟩)
    rintro ⟨gb301, gb302⟩ w79 ⟨hS_, h0_, h1_, h2_, h3_, h4_, h5_, h6_, h7_, h8_, h9_, h10_, h11_, h12_, h13_, h14_, h15_, h16_, h17_, h18_, h19_, h20_, h21_, h22_, h23_, h24_⟩
    have n0_ : Aside0 (Kd.R k46 46 w79 w.heap.size (fun k_ => (w.heap.size ≤ k_) ∧ some k_ ≠ (.slice (some ad296) x3_1.length co75 : Value).ownBlock ∧ k_ ≠ gb301 ∧ k_ ≠ gb302) (.slice (some ad297) (rd_L2 x3_1 (ji25)).length c296_0) (rd_L2 x3_1 (ji25))) := ⟨h0_⟩
    have n1_ : Aside0 (Kd.R k46 46 w79 w.heap.size (fun k_ => (w.heap.size ≤ k_) ∧ some k_ ≠ (.slice (some ad296) x3_1.length co75 : Value).ownBlock ∧ k_ ≠ gb301 ∧ k_ ≠ gb302) (.slice (some ad297) (rd_L2 x3_1 (ji25)).length c296_0) (rd_L2 x3_1 (ji25))) := ⟨h1_⟩
    have n2_ : Aside0 (Kd.R k46 46 w79 w.heap.size (fun k_ => (w.heap.size ≤ k_) ∧ some k_ ≠ (.slice (some ad296) x3_1.length co75 : Value).ownBlock ∧ k_ ≠ gb301 ∧ k_ ≠ gb302) (.slice (some ad297) (rd_L2 x3_1 (ji25)).length c296_0) (rd_L2 x3_1 (ji25))) := ⟨h2_⟩
    have n3_ : Aside0 (Kd.V k46 46 w79 w.heap.size (fun k_ => ((P0_1_ k_) ∧ k_ < w.heap.size) ∧ some k_ ≠ (.slice (some ad296) x3_1.length co75 : Value).ownBlock ∧ k_ ≠ gb276 ∧ k_ ≠ gb301 ∧ k_ ≠ gb302) (.slice Ao73 y280.length co73) y280) := ⟨h3_⟩
    have n4_ : Aside0 (Kd.V k46 46 w79 w.heap.size (fun k_ => ((P0_1_ k_) ∧ k_ < w.heap.size) ∧ some k_ ≠ (.slice (some ad296) x3_1.length co75 : Value).ownBlock ∧ k_ ≠ gb276 ∧ k_ ≠ gb301 ∧ k_ ≠ gb302) (.slice A74 y285.length c74) y285) := ⟨h4_⟩
    have n5_ : Aside0 (Kd.V k46 46 w79 w.heap.size (fun k_ => ((P0_1_ k_) ∧ k_ < w.heap.size) ∧ some k_ ≠ (.slice (some ad296) x3_1.length co75 : Value).ownBlock ∧ k_ ≠ gb276 ∧ k_ ≠ gb301 ∧ k_ ≠ gb302) (.slice A0_1 l0_1.length c0_1) l0_1) := ⟨h5_⟩
    have n6_ : Aside0 (Kd.S (Kd.slice 46 k46) 29 w79 w.heap.size (fun k_ => (w.heap.size ≤ k_) ∧ k_ ≠ gb301 ∧ k_ ≠ gb302) (.slice (some ad296) x3_1.length co75) x3_1) := ⟨h6_⟩
    have n7_ : Aside0 (Kd.V k46 46 w79 w.heap.size (fun k_ => ((P0_1_ k_) ∧ k_ < w.heap.size) ∧ some k_ ≠ (.slice (some ad296) x3_1.length co75 : Value).ownBlock ∧ k_ ≠ gb276 ∧ k_ ≠ gb301 ∧ k_ ≠ gb302) (.slice Ao73 x4_1.length co73) x4_1) := ⟨h7_⟩
    have n8_ : Aside0 (w79.cell? (ad296.add ((ji25)).toNat) = some (.slice (some ad297) (rd_L2 x3_1 (ji25)).length c296_0)) := ⟨h8_⟩
    have n9_ : Aside0 (w79.cell? (ad296.add ((ji25)).toNat) = some (.slice (some ad297) (rd_L2 x3_1 (ji25)).length c296_0)) := ⟨h9_⟩
    have n10_ : Aside0 (w79.cell? (ad296.add ((ji25)).toNat) = some (.slice (some ad297) (rd_L2 x3_1 (ji25)).length c296_0)) := ⟨h10_⟩
    have n11_ : Aside0 (w79.heap[gb276]? = some (.cells #[.slice (some ad278) l0_0.length c0_0, .slice A0_1 l0_1.length c0_1] 31 (0, 0))) := ⟨h11_⟩
    have n12_ : Aside0 (w79.heap[gb301]? = some (.cells #[.int .i64 0, .int .i64 0] 46 (0, 0))) := ⟨h12_⟩
    have n13_ : Aside0 (w79.heap[gb302]? = some (.cells #[.int .i64 0, .int .i64 0] 46 (0, 0))) := ⟨h13_⟩
    have n14_ : Aside0 (w.heap.size ≤ gb301) := ⟨h14_⟩
    have n15_ : Aside0 (w.heap.size ≤ gb301) := ⟨h15_⟩
    have n16_ : Aside0 (gb276 ≠ gb301) := ⟨h16_⟩
    have n17_ : Aside0 (gb301 ≠ gb276) := ⟨h17_⟩
    have n18_ : Aside0 (gb302 ≠ gb301) := ⟨h18_⟩
    have n19_ : Aside0 (gb301 ≠ gb302) := ⟨h19_⟩
    have n20_ : Aside0 (w.heap.size ≤ gb302) := ⟨h20_⟩
    have n21_ : Aside0 (w.heap.size ≤ gb302) := ⟨h21_⟩
    have n22_ : Aside0 (gb276 ≠ gb302) := ⟨h22_⟩
    have n23_ : Aside0 (gb302 ≠ gb276) := ⟨h23_⟩
    have n24_ : Aside0 (Below w.heap.size w w79) := ⟨h24_⟩
    clear HO_3 HO_4 HO_277001 HO284 HO289 BK276 HB h0_ h1_ h2_ h3_ h4_ h5_ h6_ h7_ h8_ h9_ h10_ h11_ h12_ h13_ h14_ h15_ h16_ h17_ h18_ h19_ h20_ h21_ h22_ h23_ h24_; have HL296_0 := n0_; have HL298_0 := n1_; have HL299_0 := n2_; have HO284 := n3_; have HO289 := n4_; have HO_277001 := n5_; have HO_3 := n6_; have HO_4 := n7_; have HX296_0 := n8_; have HX298_0 := n9_; have HX299_0 := n10_; have BK276 := n11_; have BK301 := n12_; have BK302 := n13_; have GW301 := n14_; have GE301 := n15_; have NB276_301 := n16_; have NB301_276 := n17_; have NB302_301 := n18_; have NB301_302 := n19_; have GW302 := n20_; have GE302 := n21_; have NB276_302 := n22_; have NB302_276 := n23_; have HB := n24_; clear n0_ n1_ n2_ n3_ n4_ n5_ n6_ n7_ n8_ n9_ n10_ n11_ n12_ n13_ n14_ n15_ n16_ n17_ n18_ n19_ n20_ n21_ n22_ n23_ n24_
    have hHeld : w79.cell? (ad296.add ((ji25)).toNat) = some (.slice (some ad297) (rd_L2 x3_1 (ji25)).length c296_0) ∧ w79.cell? ad297 = some (.int .i64 ((rd_T46 (rd_L2 x3_1 (ji25)) 0).f0)) ∧ w79.cell? ⟨ad297.block, ad297.off + 1, none⟩ = some (.int .i64 ((rd_T46 (rd_L2 x3_1 (ji25)) 0).f1)) ∧ w79.cell? (ad296.add ((ji25)).toNat) = some (.slice (some ad297) (rd_L2 x3_1 (ji25)).length c296_0) ∧ w79.cell? (ad296.add ((ji25)).toNat) = some (.slice (some ad297) (rd_L2 x3_1 (ji25)).length c296_0) ∧ w79.cell? (ad297.add (((ji29)).toNat * 2)) = some (.int .i64 ((rd_T46 (rd_L2 x3_1 (ji25)) (ji29)).f0)) ∧ w79.cell? ⟨(ad297.add (((ji29)).toNat * 2)).block, (ad297.add (((ji29)).toNat * 2)).off + 1, none⟩ = some (.int .i64 ((rd_T46 (rd_L2 x3_1 (ji25)) (ji29)).f1)) := hS_
    refine norm_ (a' := ?_) ?_ ?_
    rotate_left
    ·simp only [putAll, Act.put, List.setIfInBounds_toArray, List.set_cons_zero, List.set_cons_succ]
     rfl
    refine one_ (i := 17) (N := none) y9_39 rfl rfl (one_of HT_.out (by kernel_rfl)) (by decide) (fun K hK => ?_)
    have hs80 : w79.cell? ⟨gb301, 0, none⟩ = some (.int .i64 0) := (blk_cell BK301.out 0).trans rfl
    have hfs80 := blk_frozen BK301.out 0
    have hns80_0 := NB276_301.out; have hns80_2 := NB302_301.out; have hms80_0 := NB301_276.out; have hms80_2 := NB301_302.out
    have hs81 : w79.cell? ⟨gb301, 1, none⟩ = some (.int .i64 0) := (blk_cell BK301.out 1).trans rfl
    have hfs81 := blk_frozen BK301.out 1
    have hns81_0 := NB276_301.out; have hns81_2 := NB302_301.out; have hms81_0 := NB301_276.out; have hms81_2 := NB301_302.out
    refine skip_ (w1 := ?_) ?hwx ?hN ?_ ?_; (case hwx => rfl); (case hN => rfl)
    rotate_left
    ·go_simp
     rfl
    refine hK.out _ _ ⟨(by refine (cell_far (p := ⟨gb301, _, none⟩) ?_ _).trans ((cell_far (p := ⟨gb301, _, none⟩) ?_ _).trans (hHeld.1)) <;> ((try dsimp only); exact z9_39)), (by refine (cell_far (p := ⟨gb301, _, none⟩) ?_ _).trans ((cell_far (p := ⟨gb301, _, none⟩) ?_ _).trans (hHeld.2.1)) <;> ((try dsimp only); exact z9_42)), (by refine (cell_far (p := ⟨gb301, _, none⟩) ?_ _).trans ((cell_far (p := ⟨gb301, _, none⟩) ?_ _).trans (hHeld.2.2.1)) <;> ((try dsimp only); exact z9_42)), (by refine (cell_far (p := ⟨gb301, _, none⟩) ?_ _).trans ((cell_far (p := ⟨gb301, _, none⟩) ?_ _).trans (hHeld.2.2.2.1)) <;> ((try dsimp only); exact z9_39)), (by refine (cell_far (p := ⟨gb301, _, none⟩) ?_ _).trans ((cell_far (p := ⟨gb301, _, none⟩) ?_ _).trans (hHeld.2.2.2.2.1)) <;> ((try dsimp only); exact z9_39)), (by refine (cell_far (p := ⟨gb301, _, none⟩) ?_ _).trans ((cell_far (p := ⟨gb301, _, none⟩) ?_ _).trans (hHeld.2.2.2.2.2.1)) <;> ((try dsimp only); exact z9_43)), (by refine (cell_far (p := ⟨gb301, _, none⟩) ?_ _).trans ((cell_far (p := ⟨gb301, _, none⟩) ?_ _).trans (hHeld.2.2.2.2.2.2)) <;> ((try dsimp only); exact z9_43))⟩ (fun hHeld => ?_)
    clear hK K
    refine one_ (i := 18) (N := none) y9_40 rfl rfl (one_of HT_.out (by kernel_rfl)) (by decide) (fun K hK => ?_)
    have hs82 : w79.cell? ⟨gb302, 0, none⟩ = some (.int .i64 0) := (blk_cell BK302.out 0).trans rfl
    have hfs82 := blk_frozen BK302.out 0
    have hns82_0 := NB276_302.out; have hns82_1 := NB301_302.out; have hms82_0 := NB302_276.out; have hms82_1 := NB302_301.out
    have hs83 : w79.cell? ⟨gb302, 1, none⟩ = some (.int .i64 0) := (blk_cell BK302.out 1).trans rfl
    have hfs83 := blk_frozen BK302.out 1
    have hns83_0 := NB276_302.out; have hns83_1 := NB301_302.out; have hms83_0 := NB302_276.out; have hms83_1 := NB302_301.out
    refine skip_ (w1 := ?_) ?hwx ?hN ?_ ?_; (case hwx => rfl); (case hN => rfl)
    rotate_left
    ·go_simp
     rfl
    refine hK.out _ _ ⟨(by refine (cell_far (p := ⟨gb302, _, none⟩) ?_ _).trans ((cell_far (p := ⟨gb302, _, none⟩) ?_ _).trans (hHeld.1)) <;> ((try dsimp only); exact z9_40)), (by refine (cell_far (p := ⟨gb302, _, none⟩) ?_ _).trans ((cell_far (p := ⟨gb302, _, none⟩) ?_ _).trans (hHeld.2.1)) <;> ((try dsimp only); exact z9_44)), (by refine (cell_far (p := ⟨gb302, _, none⟩) ?_ _).trans ((cell_far (p := ⟨gb302, _, none⟩) ?_ _).trans (hHeld.2.2.1)) <;> ((try dsimp only); exact z9_44)), (by refine (cell_far (p := ⟨gb302, _, none⟩) ?_ _).trans ((cell_far (p := ⟨gb302, _, none⟩) ?_ _).trans (hHeld.2.2.2.1)) <;> ((try dsimp only); exact z9_40)), (by refine (cell_far (p := ⟨gb302, _, none⟩) ?_ _).trans ((cell_far (p := ⟨gb302, _, none⟩) ?_ _).trans (hHeld.2.2.2.2.1)) <;> ((try dsimp only); exact z9_40)), (by refine (cell_far (p := ⟨gb302, _, none⟩) ?_ _).trans ((cell_far (p := ⟨gb302, _, none⟩) ?_ _).trans (hHeld.2.2.2.2.2.1)) <;> ((try dsimp only); exact z9_45)), (by refine (cell_far (p := ⟨gb302, _, none⟩) ?_ _).trans ((cell_far (p := ⟨gb302, _, none⟩) ?_ _).trans (hHeld.2.2.2.2.2.2)) <;> ((try dsimp only); exact z9_45))⟩ (fun hHeld => ?_)
    clear hK K
    refine done_ (done_of HT_.out (by kernel_rfl)) ?_
    have hnb84 := NB301_276.out; have hnc84 := NB276_301.out; have hnb85 := NB301_302.out; have hnc85 := NB302_301.out
    obtain ⟨_, _, _, _⟩ := be_2 BK301.out
    have hnb87 := NB302_276.out; have hnc87 := NB276_302.out
    obtain ⟨_, _, _, _⟩ := be_2 BK302.out
    try go_wp2
    obtain ⟨w89, hw_⟩ : ∃ w_ : World, w_ = ((((w79.setCell ⟨gb301, 0, none⟩ (.int .i64 ((rd_T46 (rd_L2 x3_1 (ji25)) 0).f0))).setCell ⟨gb301, 1, none⟩ (.int .i64 ((rd_T46 (rd_L2 x3_1 (ji25)) 0).f1))).setCell ⟨gb302, 0, none⟩ (.int .i64 ((rd_T46 (rd_L2 x3_1 (ji25)) (ji29)).f0))).setCell ⟨gb302, 1, none⟩ (.int .i64 ((rd_T46 (rd_L2 x3_1 (ji25)) (ji29)).f1))) := ⟨_, rfl⟩
    have n0_ : Aside0 (Kd.S (Kd.slice 46 k46) 29 w89 w.heap.size (fun k_ => (w.heap.size ≤ k_) ∧ k_ ≠ gb301 ∧ k_ ≠ gb302) (.slice (some ad296) x3_1.length co75) x3_1) := ⟨z9_57⟩
    have n1_ : Aside0 (Kd.V k46 46 w89 w.heap.size (fun k_ => ((P0_1_ k_) ∧ k_ < w.heap.size) ∧ some k_ ≠ (.slice (some ad296) x3_1.length co75 : Value).ownBlock ∧ k_ ≠ gb276 ∧ k_ ≠ gb301 ∧ k_ ≠ gb302) (.slice Ao73 x4_1.length co73) x4_1) := ⟨z9_53⟩
    have n2_ : Aside0 (Kd.V k46 46 w89 w.heap.size (fun k_ => ((P0_1_ k_) ∧ k_ < w.heap.size) ∧ some k_ ≠ (.slice (some ad296) x3_1.length co75 : Value).ownBlock ∧ k_ ≠ gb276 ∧ k_ ≠ gb301 ∧ k_ ≠ gb302) (.slice A0_1 l0_1.length c0_1) l0_1) := ⟨z9_49⟩
    have n3_ : Aside0 (Kd.V k46 46 w89 w.heap.size (fun k_ => ((P0_1_ k_) ∧ k_ < w.heap.size) ∧ some k_ ≠ (.slice (some ad296) x3_1.length co75 : Value).ownBlock ∧ k_ ≠ gb276 ∧ k_ ≠ gb301 ∧ k_ ≠ gb302) (.slice Ao73 y280.length co73) y280) := ⟨z9_51⟩
    have n4_ : Aside0 (Kd.V k46 46 w89 w.heap.size (fun k_ => ((P0_1_ k_) ∧ k_ < w.heap.size) ∧ some k_ ≠ (.slice (some ad296) x3_1.length co75 : Value).ownBlock ∧ k_ ≠ gb276 ∧ k_ ≠ gb301 ∧ k_ ≠ gb302) (.slice A74 y285.length c74) y285) := ⟨z9_52⟩
    have n5_ : Aside0 (Kd.R k46 46 w89 w.heap.size (fun k_ => (w.heap.size ≤ k_) ∧ some k_ ≠ (.slice (some ad296) x3_1.length co75 : Value).ownBlock ∧ k_ ≠ gb301 ∧ k_ ≠ gb302) (.slice (some ad297) (rd_L2 x3_1 (ji25)).length c296_0) (rd_L2 x3_1 (ji25))) := ⟨z9_54⟩
    have n6_ : Aside0 (Kd.R k46 46 w89 w.heap.size (fun k_ => (w.heap.size ≤ k_) ∧ some k_ ≠ (.slice (some ad296) x3_1.length co75 : Value).ownBlock ∧ k_ ≠ gb301 ∧ k_ ≠ gb302) (.slice (some ad297) (rd_L2 x3_1 (ji25)).length c296_0) (rd_L2 x3_1 (ji25))) := ⟨z9_55⟩
    have n7_ : Aside0 (Kd.R k46 46 w89 w.heap.size (fun k_ => (w.heap.size ≤ k_) ∧ some k_ ≠ (.slice (some ad296) x3_1.length co75 : Value).ownBlock ∧ k_ ≠ gb301 ∧ k_ ≠ gb302) (.slice (some ad297) (rd_L2 x3_1 (ji25)).length c296_0) (rd_L2 x3_1 (ji25))) := ⟨z9_56⟩
    have n8_ : Aside0 (w89.heap[gb276]? = some (.cells #[.slice (some ad278) l0_0.length c0_0, .slice A0_1 l0_1.length c0_1] 31 (0, 0))) := ⟨z9_58⟩
    have n9_ : Aside0 (w89.heap[gb301]? = some (.cells #[.int .i64 ((rd_T46 (rd_L2 x3_1 (ji25)) 0).f0), .int .i64 ((rd_T46 (rd_L2 x3_1 (ji25)) 0).f1)] 46 (0, 0))) := ⟨z9_50⟩
    have n10_ : Aside0 (w89.heap[gb302]? = some (.cells #[.int .i64 ((rd_T46 (rd_L2 x3_1 (ji25)) (ji29)).f0), .int .i64 ((rd_T46 (rd_L2 x3_1 (ji25)) (ji29)).f1)] 46 (0, 0))) := ⟨z9_48⟩
    have n11_ : Aside0 (Below w.heap.size w w89) := ⟨(by rw [hw_]; exact z9_34)⟩
    (try clear HO_3); (try clear HO_4); (try clear HO_277001); (try clear HO284); (try clear HO289); (try clear HL296_0); (try clear HL298_0); (try clear HL299_0); (try clear BK276); (try clear BK301); (try clear BK302); (try clear HB)
    rw [← hw_]; clear hw_; have HO_3 := n0_; have HO_4 := n1_; have HO_277001 := n2_; have HO284 := n3_; have HO289 := n4_; have HL296_0 := n5_; have HL298_0 := n6_; have HL299_0 := n7_; have BK276 := n8_; have BK301 := n9_; have BK302 := n10_; have HB := n11_; clear n0_ n1_ n2_ n3_ n4_ n5_ n6_ n7_ n8_ n9_ n10_ n11_
    have n0_ := mk0 (Kd.S_drew HO_3.out)
    have n1_ := mk0 (Kd.V_drew HO_4.out)
    have n2_ := mk0 (Kd.V_drew HO_277001.out)
    have n3_ := mk0 (Kd.V_drew HO284.out)
    have n4_ := mk0 (Kd.V_drew HO289.out)
    have n5_ := mk0 (Kd.R_drew HL296_0.out)
    have n6_ := mk0 (Kd.R_drew HL298_0.out)
    have n7_ := mk0 (Kd.R_drew HL299_0.out)
    have n8_ := mk0 (blk_drew BK276.out)
    have n9_ := mk0 (blk_drew BK301.out)
    have n10_ := mk0 (blk_drew BK302.out)
    have n11_ := mk0 (below_drew1 HB.out)
    clear HO_3 HO_4 HO_277001 HO284 HO289 HL296_0 HL298_0 HL299_0 BK276 BK301 BK302 HB; have HO_3 := n0_; have HO_4 := n1_; have HO_277001 := n2_; have HO284 := n3_; have HO289 := n4_; have HL296_0 := n5_; have HL298_0 := n6_; have HL299_0 := n7_; have BK276 := n8_; have BK301 := n9_; have BK302 := n10_; have HB := n11_; clear n0_ n1_ n2_ n3_ n4_ n5_ n6_ n7_ n8_ n9_ n10_ n11_
    have p316 : 0 ≤ ((ji25) : Int) := of_decide_eq_true (by first | (with_reducible assumption) | assumption)
    have q316 : (ji25) < (x3_1.length : Int) := of_decide_eq_true (by first | (with_reducible assumption) | assumption)
    obtain ⟨ad316, A316_0, c316_0, e316, hx316_0, hl316_0, hi316_0⟩ := at_L2 (Kd.S_reads' HO_3.out).2.2 (ji25) p316 q316
    obtain rfl : ad296 = ad316 := (by injection e316)
    obtain ⟨ce316, hce316, hMe316, hcc316⟩ := Kd.S_get HO_3.out [] (ji25) p316 (by first | exact q316 | exact of_decide_eq_true (by first | (with_reducible assumption) | assumption) | (have e_ := (Kd.S_reads' HO_3.out).1; omega))
    obtain ⟨ve316_0, rfl, ge316_0⟩ := hMe316
    have hv316_0 := hcc316 0 _ rfl
    rw [Nat.add_zero, show ((Kd.slice 46 k46)).sz = 1 from rfl, Nat.mul_one] at hv316_0
    replace hv316_0 := Option.some.inj (hv316_0.symm.trans hx316_0)
    rw [hv316_0] at ge316_0
    have HL316_0 := mk0 (show Kd.R k46 46 _ _ _ _ (rd_L2 x3_1 (ji25)) from ge316_0)
    clear hv316_0 ge316_0
    have HX316_0 := mk0 hx316_0
    clear hcc316 hce316
    have HR316_0 := mk0 hi316_0
    have HC316_0 := mk0 hl316_0
    clear hi316_0 hl316_0
    replace p316 := eq_true p316
    replace q316 := eq_true q316
    refine start_ (n := 11) (S := fun w' => w'.cell? ⟨gb302, 0, none⟩ = some (.int .i64 ((rd_T46 (rd_L2 x3_1 (ji25)) (ji29)).f0)) ∧ w'.cell? ⟨gb302, 1, none⟩ = some (.int .i64 ((rd_T46 (rd_L2 x3_1 (ji25)) (ji29)).f1)) ∧ w'.cell? (ad296.add ((ji25)).toNat) = some (.slice A316_0 (rd_L2 x3_1 (ji25)).length c316_0)) (ds := [10]) y9_1 (by kernel_rfl) rfl rfl ⟨(blk_cell BK302.out 0).trans rfl, (blk_cell BK302.out 1).trans rfl, hx316_0⟩ (fun hHeld => ?_); refine with_tabW impl_FlatOf.tab17 impl_FlatOf.bits17 (fun HT_ HW_ => ?_)
    generalize w89.drew = w90 at HO_3 HO_4 HO_277001 HO284 HO289 HL296_0 HL298_0 HL299_0 BK276 BK301 BK302 HB HL316_0 HR316_0 HX316_0 hx316_0 hHeld ⊢
    refine pzv (i := 0) (N := 76) (v := ?_) (a' := ?_) y9_4 HT_ ?_ ?_ ?_
    rotate_left
    ·intro w'
     go_simp; with_reducible rfl
    rotate_left
    ·exact x9_put
    refine pzv (i := 1) (N := 77) (v := ?_) (a' := ?_) y9_7 HT_ ?_ ?_ ?_
    rotate_left
    ·intro w'
     go_simp; with_reducible rfl
    rotate_left
    ·exact x9_put
    refine pzv (i := 2) (N := 78) (v := ?_) (a' := ?_) y9_13 HT_ ?_ ?_ ?_
    rotate_left
    ·intro w'
     go_simp; with_reducible rfl
    rotate_left
    ·exact x9_put
    refine pzv (i := 4) (N := 80) (v := ?_) (a' := ?_) y9_16 HT_ ?_ ?_ ?_
    rotate_left
    ·intro w'
     go_simp; with_reducible rfl
    rotate_left
    ·exact x9_put
    refine pzv (i := 6) (N := 82) (v := ?_) (a' := ?_) y9_17 HT_ ?_ ?_ ?_
    rotate_left
    ·intro w'
     go_simp; with_reducible rfl
    rotate_left
    ·exact x9_put
    refine take_ (i := 3) (N := some 79) (v := ?_) (a' := ?_) y9_21 rfl rfl (take_ofW HT_.out HW_.out (by kernel_rfl)) (fun _ _ _ h => h) (Or.inl ⟨by rfl, ?_⟩) hHeld ?_ ?_
    rotate_left
    ·rintro w' ⟨s0, s1, s2⟩
     go_simp; with_reducible rfl
    rotate_left
    ·exact x9_put
    refine take_ (i := 5) (N := some 81) (v := ?_) (a' := ?_) y9_23 rfl rfl (take_ofW HT_.out HW_.out (by kernel_rfl)) (fun _ _ _ h => h) (Or.inl ⟨by rfl, ?_⟩) hHeld ?_ ?_
    rotate_left
    ·rintro w' ⟨s0, s1, s2⟩
     go_simp; with_reducible rfl
    rotate_left
    ·exact x9_put
    refine one_ (i := 7) (N := some 83) y9_26 rfl rfl (one_of HT_.out (by kernel_rfl)) (by decide) (fun K hK => ?_)
    refine goes_ Try.func29 (by kernel_rfl) rfl #[.int .i64 (rd l0_0 x20_1), .agg #[.int .i64 ((rd_T46 (rd_L2 x3_1 (ji25)) (ji29)).f0), .int .i64 ((rd_T46 (rd_L2 x3_1 (ji25)) (ji29)).f1)], .slice Ao73 y280.length co73] (by rfl) rfl rfl z9_73 ?_
    with_reducible refine (impl_flatten.calls k1 (rd l0_0 x20_1) ((rd_T46 (rd_L2 x3_1 (ji25)) (ji29)).f0) ((rd_T46 (rd_L2 x3_1 (ji25)) (ji29)).f1) _ _ y280 t317 _ ?side1 ?side2 A70.out).mono ?_
    (case side1 => exact z9_61)
    (case side2 => exact (Kd.V_reads' HO284.out).2.1)
    rintro e w91 ⟨v318, rfl, ho0, hb⟩
    have HS2_ := (hb.cell (World.block_lt_of_cell? _ _ (hHeld.2.2))).trans (hHeld.2.2)
    refine ⟨_, rfl, ?_⟩
    have n0_ := mk0 (Kd.S_elder' (pkS HO_3) (Kd.R_base ho0) hb)
    have n1_ := mk0 (Kd.V_elder' (pkV HO_4) (Kd.R_base ho0) hb)
    have n2_ := mk0 (Kd.V_elder' (pkV HO_277001) (Kd.R_base ho0) hb)
    have n3_ := mk0 (Kd.V_elder' (pkV HO284) (Kd.R_base ho0) hb)
    have n4_ := mk0 (Kd.V_elder' (pkV HO289) (Kd.R_base ho0) hb)
    have n5_ := mk0 (Kd.R_elder' (pkR HL296_0) (Kd.R_base ho0) hb)
    have n6_ := mk0 (Kd.R_elder' (pkR HL298_0) (Kd.R_base ho0) hb)
    have n7_ := mk0 (Kd.R_elder' (pkR HL299_0) (Kd.R_base ho0) hb)
    have n8_ := mk0 (Kd.R_elder' (pkR HL316_0) (Kd.R_base ho0) hb)
    have n9_ := mk0 (Kd.R_lower (Kd.R_newB (Kd.R_newB (Kd.R_new' (Kd.R_new' (Kd.R_new' (Kd.R_new' (Kd.R_newM (M := fun k_ => (w.heap.size ≤ k_)) ho0 (below_size z9_34) (fun k_ h_ => h_)) (Kd.R_lt (pkR HL296_0))) (Kd.R_lt (pkR HL298_0))) (Kd.R_lt (pkR HL299_0))) (Kd.R_lt (pkR HL316_0))) (g := gb301) (o := .cells #[.int .i64 ((rd_T46 (rd_L2 x3_1 (ji25)) 0).f0), .int .i64 ((rd_T46 (rd_L2 x3_1 (ji25)) 0).f1)] 46 (0, 0)) (pkb BK301)) (g := gb302) (o := .cells #[.int .i64 ((rd_T46 (rd_L2 x3_1 (ji25)) (ji29)).f0), .int .i64 ((rd_T46 (rd_L2 x3_1 (ji25)) (ji29)).f1)] 46 (0, 0)) (pkb BK302)) (below_size z9_34))
    have n10_ := mk0 (blk_belowB BK276 (pkb BK276) hb)
    have n11_ := mk0 (blk_belowB BK301 (pkb BK301) hb)
    have n12_ := mk0 (blk_belowB BK302 (pkb BK302) hb)
    have n13_ := mk0 (Kd.C_below (by repeat (first | (with_reducible exact HR316_0.out) | (with_reducible refine Kd.C_alloc ?_ _) | (with_reducible refine Kd.C_drewN ?_ _) | (with_reducible refine Kd.C_drew ?_) | exact HR316_0.out)) hb)
    have n14_ := mk0 (pw_cell_below hb HX316_0.out)
    have n15_ := mk0 (below_step z9_34 hb)
    clear HO_3 HO_4 HO_277001 HO284 HO289 HL296_0 HL298_0 HL299_0 HL316_0 BK276 BK301 BK302 HR316_0 HX316_0 HB; have HO_3 := n0_; have HO_4 := n1_; have HO_277001 := n2_; have HO284 := n3_; have HO289 := n4_; have HL296_0 := n5_; have HL298_0 := n6_; have HL299_0 := n7_; have HL316_0 := n8_; have HO319 := n9_; have BK276 := n10_; have BK301 := n11_; have BK302 := n12_; have HR316_0 := n13_; have HX316_0 := n14_; have HB := n15_; clear n0_ n1_ n2_ n3_ n4_ n5_ n6_ n7_ n8_ n9_ n10_ n11_ n12_ n13_ n14_ n15_; (try clear hb); (try clear hb2); (try clear hk); (try clear hi); (try clear ho0)
    have n_ := mk0 (Kd.S_mono (ok' := (fun k_ => (w.heap.size ≤ k_) ∧ some k_ ≠ (v318 : Value).ownBlock ∧ k_ ≠ gb301 ∧ k_ ≠ gb302)) HO_3.out (fun k_ hk => ⟨hk.1.1, ⟨hk.2, ⟨hk.1.2.1, hk.1.2.2⟩⟩⟩))
    clear HO_3; have HO_3 := n_; clear n_
    obtain ⟨Ao94, co94, eo94⟩ := Kd.R_slice HO319.out
    (first | subst eo94 | (injection eo94 with f1_ f2_ f3_; have f4_ := f1_.symm; have f5_ := f3_.symm; clear f1_ f2_ f3_; subst f4_; subst f5_))
    obtain ⟨go92, co92, eo92, gb92, gl92, cl92, HG92⟩ := Kd.S_form HO_3.out (by have h_ : ((ji25) : Int) < ((x3_1.length : Int) : Int) := of_decide_eq_true (by first | (with_reducible assumption) | assumption); have h2_ : 0 ≤ ((ji25) : Int) := (of_decide_eq_true (by first | (with_reducible assumption) | assumption)); omega)
    (first | cases eo92 | (injection eo92 with ea_ en_ ec_; (first | subst ea_ | (injection ea_ with ea_; subst ea_)); subst ec_; clear en_))
    have GB92 := mk0 gb92
    have GG92 := mk0 HG92
    clear gb92 gl92 HG92
    (first | simp only [add_plain] at hx296_0 | skip)
    (first | simp only [add_plain] at hx298_0 | skip)
    (first | simp only [add_plain] at hx299_0 | skip)
    (first | simp only [add_plain] at hx316_0 | skip)
    obtain ⟨oki92, ce92, hcl92, hM92, hcc92, _, _, hH92⟩ := Kd.S_elem HO_3.out [] ((ji25) : Int) (of_decide_eq_true (by first | (with_reducible assumption) | assumption)) (by have h_ : ((ji25) : Int) < ((x3_1.length : Int) : Int) := of_decide_eq_true (by first | (with_reducible assumption) | assumption); first | exact h_ | (have e_ := (Kd.S_reads' HO_3.out).1; omega) | simpa using h_)
    obtain ⟨ve92_0, rfl, ge92_0⟩ := hM92
    have hv92 := hcc92 0 _ rfl
    have hX92 := HX316_0.out
    (try simp only [add_plain] at hX92)
    (try simp only [Nat.add_zero] at hv92)
    (try rw [show ((Kd.slice 46 k46)).sz = 1 from rfl, Nat.mul_one] at hv92)
    replace hv92 := Option.some.inj (hv92.symm.trans hX92)
    subst hv92; clear hX92 hcc92 hcl92
    have UU92 := mk0 (show Kd.R k46 46 _ w.heap.size oki92 (.slice A316_0 (rd_L2 x3_1 (ji25)).length c316_0) (rd_L2 x3_1 (ji25)) from ge92_0)
    have HH92 := mk0 hH92
    have HN92 := mk0 (Kd.S_reads' HO_3.out).1
    clear hH92 ge92_0
    refine hK.out _ _ ⟨(blk_cell BK302.out 0).trans rfl, (blk_cell BK302.out 1).trans rfl, HS2_⟩ (fun hHeld => ?_)
    clear hK K
    refine norm_ (a' := ?_) ?_ ?_
    rotate_left
    ·show Act.put _ (some 83) _ = _
     simp only [Act.put, List.setIfInBounds_toArray, List.set_cons_zero, List.set_cons_succ, i64_w, i32_w]
     rfl
    refine one_ (i := 8) (N := some 84) y9_28 rfl rfl (one_of HT_.out (by kernel_rfl)) (by decide) (fun K hK => ?_)
    refine Kd.R_append_rows_step k46 (w0 := w) w.heap.size (by rfl) (.tmp 79) (.tmp 83) 29 46 (.agg #[(.int .i64 0), (.int .i64 0)]) 16 rfl Try.underlying29 info46 rfl (by decide) (by omega) (.slice A316_0 (rd_L2 x3_1 (ji25)).length c316_0) (rd_L2 x3_1 (ji25)) t317 _ _ _ (fun k_ => oki92 k_ ∨ ((fun k_ => (w.heap.size ≤ k_) ∧ some k_ ≠ (.slice Ao94 t317.length co94 : Value).ownBlock ∧ k_ ≠ gb301 ∧ k_ ≠ gb302)) k_ ∧ w91.heap.size ≤ k_) (fun _ => False) rfl rfl ?aO ?aR (fun _ _ h => h) (fun _ h => h.elim) ?aF ?aB ?aS ?aL ?_
    (case aR => repeat (first | exact (Kd.R_reads' HO319.out).2.2 | (with_reducible refine Kd.C_alloc ?_ _) | (with_reducible refine Kd.C_drewN ?_ _) | (with_reducible refine Kd.C_drew ?_)))
    (case aB => exact z9_34)
    (case aF => exact (fun k_ hk => .inr ⟨⟨(Nat.le_trans (below_size z9_34) hk), Kd.fresh' (Kd.R_lt (pkR HO319)) k_ hk, Kd.freshB (g := gb301) (o := .cells #[.int .i64 ((rd_T46 (rd_L2 x3_1 (ji25)) 0).f0), .int .i64 ((rd_T46 (rd_L2 x3_1 (ji25)) 0).f1)] 46 (0, 0)) (pkb BK301) k_ hk, Kd.freshB (g := gb302) (o := .cells #[.int .i64 ((rd_T46 (rd_L2 x3_1 (ji25)) (ji29)).f0), .int .i64 ((rd_T46 (rd_L2 x3_1 (ji25)) (ji29)).f1)] 46 (0, 0)) (pkb BK302) k_ hk⟩, hk⟩))
    (case aO => exact (by (with_reducible repeat (first | apply Kd.R_alloc | apply Kd.R_drewN | apply Kd.R_drew)); exact Kd.R_mono UU92.out (fun _ hk => .inl hk)))
    (case aS => exact (below_size z9_34))
    (case aL => have := LMc71.out; omega)
    intro v321 w93 ho hb hg hat
    (first | have HS2_ := cell_grown hg (hHeld.2.2) z9_91 | have HS2_ := cell_grown hg (cell_unalloc (hHeld.2.2) z9_62) z9_91)
    rw [← Ny320.out] at ho
    have n0_ := mk0 (Kd.V_grown (pkV HO_4) hg z9_88)
    have n1_ := mk0 (Kd.V_grown (pkV HO_277001) hg z9_88)
    have n2_ := mk0 (blk_grown (g := gb276) (o := .cells #[.slice (some ad278) l0_0.length c0_0, .slice A0_1 l0_1.length c0_1] 31 (0, 0)) (pkb BK276) hg (Kd.R_ne HL316_0.out BK276.out (by decide)))
    have n3_ := mk0 (Kd.V_grown (pkV HO284) hg z9_88)
    have n4_ := mk0 (Kd.V_grown (pkV HO289) hg z9_88)
    have n5_ := mk0 (blk_grown (g := gb301) (o := .cells #[.int .i64 ((rd_T46 (rd_L2 x3_1 (ji25)) 0).f0), .int .i64 ((rd_T46 (rd_L2 x3_1 (ji25)) 0).f1)] 46 (0, 0)) (pkb BK301) hg (Kd.R_away HL316_0.out (fun _ hk => hk.1.1.2.1)))
    have n6_ := mk0 (blk_grown (g := gb302) (o := .cells #[.int .i64 ((rd_T46 (rd_L2 x3_1 (ji25)) (ji29)).f0), .int .i64 ((rd_T46 (rd_L2 x3_1 (ji25)) (ji29)).f1)] 46 (0, 0)) (pkb BK302) hg (Kd.R_away HL316_0.out (fun _ hk => hk.1.1.2.2)))
    have n7_ := mk0 (Kd.R_grown2 (pkR HO319) rfl hg (fun k_ e_ => (HL316_0.out.1 k_ e_).2))
    have n8_ := mk0 (hb)
    have n9_ := mk0 (Kd.H_grown (Kd.H_widen (by repeat (first | exact HH92.out | refine Kd.H_alloc ?_ _ | refine Kd.H_drewN ?_ _ | refine Kd.H_drew ?_))) hg (fun k_ e_ => .inl (UU92.out.1 k_ e_)))
    have n10_ := mk0 (ho)
    clear HO_4 HO_277001 BK276 HO284 HO289 BK301 BK302 HO319 HB HH92 HO_3 UU92 HL296_0 HL298_0 HL299_0 HL316_0; have HO_4 := n0_; have HO_277001 := n1_; have BK276 := n2_; have HO284 := n3_; have HO289 := n4_; have BK301 := n5_; have BK302 := n6_; have HO319 := n7_; have HB := n8_; have HH92 := n9_; have HO322 := n10_; clear n0_ n1_ n2_ n3_ n4_ n5_ n6_ n7_ n8_ n9_ n10_ ho hb hg hat
    obtain ⟨Ao97, co97, eo97⟩ := Kd.R_slice HO322.out
    (first | subst eo97 | (injection eo97 with f1_ f2_ f3_; have f4_ := f1_.symm; have f5_ := f3_.symm; clear f1_ f2_ f3_; subst f4_; subst f5_))
    obtain ⟨_, _, hraw95, _, _, hcc95, _⟩ := Kd.H_raw HH92.out (of_decide_eq_true (by first | (with_reducible assumption) | assumption)) (by have h_ : ((ji25) : Int) < ((x3_1.length : Int) : Int) := of_decide_eq_true (by first | (with_reducible assumption) | assumption); first | exact h_ | (have e_ := (HN92.out); omega) | simpa using h_)
    obtain ⟨_, hfr95⟩ := Kd.H_at HH92.out (of_decide_eq_true (by first | (with_reducible assumption) | assumption)) (by have h_ : ((ji25) : Int) < ((x3_1.length : Int) : Int) := of_decide_eq_true (by first | (with_reducible assumption) | assumption); first | exact h_ | (have e_ := (HN92.out); omega) | simpa using h_)
    have hx95_0 := hcc95 0 _ rfl
    have hf95_0 := hfr95 0
    (try simp only [Nat.add_zero] at hx95_0 hf95_0)
    (try rw [show ((Kd.slice 46 k46)).sz = 1 from rfl, Nat.mul_one] at hx95_0)
    (try rw [show ((Kd.slice 46 k46)).sz = 1 from rfl, Nat.mul_one] at hf95_0)
    have HP95 := Kd.S_seg0 HH92.out (of_decide_eq_true (by first | (with_reducible assumption) | assumption)) (by have h_ : ((ji25) : Int) < ((x3_1.length : Int) : Int) := of_decide_eq_true (by first | (with_reducible assumption) | assumption); first | exact h_ | (have e_ := (HN92.out); omega) | simpa using h_) (seg := [.slice Ao97 y320.length co97]) (j := 0) (show 1 ≤ 1 from by decide) (x' := y320) (Kd.M_row HO322.out) (fun _ hk => hk)
    (try simp only [show ((Kd.slice 46 k46)).sz = 1 from rfl, Nat.mul_one, Nat.add_zero] at HP95)
    clear hcc95 hfr95
    have HNB276_go92 := mk0 (show gb276 ≠ go92 from by have h_ := Kd.R_ne hraw95 BK276.out (by decide); intro e_; exact h_ (by rw [e_]; rfl))
    have HNB301_go92 := mk0 (show gb301 ≠ go92 from by have h_ := Kd.R_ne hraw95 BK301.out (by decide); intro e_; exact h_ (by rw [e_]; rfl))
    have HNB302_go92 := mk0 (show gb302 ≠ go92 from by have h_ := Kd.R_ne hraw95 BK302.out (by decide); intro e_; exact h_ (by rw [e_]; rfl))
    have HS95 := HP95.1
    rw [← Ny323.out] at HS95
    have HQ95 := mk0 HS95
    obtain ⟨_, hgg95⟩ := Kd.R_typed hraw95 go92 rfl
    have GG95_ := mk0 hgg95
    clear HP95 HS95 hgg95
    refine hK.out _ _ ⟨(blk_cell BK302.out 0).trans rfl, (blk_cell BK302.out 1).trans rfl, HS2_⟩ (fun hHeld => ?_)
    clear hK K
    refine norm_ (a' := ?_) ?_ ?_
    rotate_left
    ·show Act.put _ (some 84) _ = _
     simp only [Act.put, List.setIfInBounds_toArray, List.set_cons_zero, List.set_cons_succ, i64_w, i32_w]
     rfl
    refine pzv (i := 9) (N := 85) (v := ?_) (a' := ?_) y9_30 HT_ ?_ ?_ ?_
    rotate_left
    ·intro w'
     go_simp; with_reducible rfl
    rotate_left
    ·exact x9_put
    refine last_ (i := 10) (N := none) y9_41 rfl rfl (one_of HT_.out (by kernel_rfl)) (by decide) (fun K hK => ?_)
    refine skip_ (w1 := ?_) ?hwx ?hN ?_ ?_; (case hwx => rfl); (case hN => rfl)
    rotate_left
    ·go_simp
     rfl
    refine hK.out _ _ ?_
    clear hK K
    refine done_ (done_of HT_.out (by kernel_rfl)) ?_
    try go_wp2
    go_roundg k1
    case measure => have := HK1.out; omega
    case rel => exact ⟨(y323), (y285), (wrap64 (x20_1 + 1)), rs0, H', ⟨(by have := HK1.out; omega)⟩, ⟨(by (with_reducible repeat (first | apply Kd.S_alloc | apply Kd.S_drewN | apply Kd.S_drew)); exact Kd.S_mono HQ95.out (fun _ hk => hk.1))⟩, ⟨(by (with_reducible repeat (first | apply Kd.V_alloc | apply Kd.V_drewN | apply Kd.V_drew)); exact Kd.V_mono (Kd.V_far (p := ⟨go92, ((ji25) : Int).toNat, none⟩) (Kd.V_mono HO289.out (fun k_ hk => (⟨hk, fun e_ => hk.1.2.1 (by rw [e_]; rfl)⟩ : _ ∧ k_ ≠ go92))) (fun _ hk => hk.2) (.slice Ao97 y320.length co97)) (fun _ hk => ⟨hk.1.1.1, ⟨hk.1.1.2.1, hk.1.1.2.2.1⟩⟩))⟩, ⟨(by (with_reducible repeat (first | apply Kd.V_alloc | apply Kd.V_drewN | apply Kd.V_drew)); exact Kd.V_mono (Kd.V_far (p := ⟨go92, ((ji25) : Int).toNat, none⟩) (Kd.V_mono HO_277001.out (fun k_ hk => (⟨hk, fun e_ => hk.1.2.1 (by rw [e_]; rfl)⟩ : _ ∧ k_ ≠ go92))) (fun _ hk => hk.2) (.slice Ao97 y320.length co97)) (fun _ hk => ⟨hk.1.1.1, ⟨hk.1.1.2.1, hk.1.1.2.2.1⟩⟩))⟩, ⟨(by (with_reducible repeat (first | refine blk_drewN ?_ _ | refine blk_drew ?_ | refine blk_alloc ?_ _)); refine blk_far ?_ HNB276_go92.out _; (with_reducible repeat (first | refine blk_drewN ?_ _ | refine blk_drew ?_ | refine blk_alloc ?_ _)); exact BK276.out)⟩, ⟨(by repeat (first | (with_reducible first | exact HB.out | apply below_alloc | apply pw_below_drewN | apply below_drew1 | refine below_set ?_ GB92.out | refine below_set ?_ GE276.out | refine below_set ?_ GE301.out | refine below_set ?_ GE302.out) | exact HB.out))⟩⟩
   rw [if_pos c33] at H
   have c33b0 : (!(((rd_T46 (rd_L2 x3_1 (ji25)) 0).f0) == ((rd_T46 (rd_L2 x3_1 (ji25)) (ji29)).f0)) || (!(((rd_T46 (rd_L2 x3_1 (ji25)) 0).f1) == ((rd_T46 (rd_L2 x3_1 (ji25)) (ji29)).f1)))) = true := c33
   clear c33
   by_cases c34 : (rd_L2 x3_1 (ji25)).length < 8796093022208
   rotate_left
   ·rw [if_neg c34] at H
    exact absurd H (by simp)
   rw [if_pos c34] at H
   have LMc34 := mk0 c34
   clear c34
   obtain ⟨y304, hy_⟩ : ∃ y_ : List (S46), y_ = ((rd_L2 x3_1 (ji25)) ++ [(⟨(rd_T46 (rd_L2 x3_1 (ji25)) 0).f0, (rd_T46 (rd_L2 x3_1 (ji25)) 0).f1⟩ : S46)]) := ⟨_, rfl⟩
   replace H : ((some (x3_1.set ((ji25) : Int).toNat y304 : List (List (S46)))).bind fun y307 => ((impl_flatten.f k1 (rd l0_0 x20_1) ((rd_T46 (rd_L2 x3_1 (ji25)) (ji29)).f0) ((rd_T46 (rd_L2 x3_1 (ji25)) (ji29)).f1) y280).bind fun t309 => (if (rd_L2 y307 (ji25)).length + t309.length < 8796093022208 then (impl_FlatOf.l0 k1 (y307.set ((ji25) : Int).toNat ((rd_L2 y307 (ji25)) ++ t309)) y285 l0_0 (l0_0.length : Int) (wrap64 (x20_1 + 1))) else (none)))) = some r := z9_38
   have Ny304 := mk0 hy_
   clear hy_
   obtain ⟨y307, hy_⟩ : ∃ y_ : List (List (S46)), y_ = (x3_1.set ((ji25) : Int).toNat y304) := ⟨_, rfl⟩
   replace H : ((impl_flatten.f k1 (rd l0_0 x20_1) ((rd_T46 (rd_L2 x3_1 (ji25)) (ji29)).f0) ((rd_T46 (rd_L2 x3_1 (ji25)) (ji29)).f1) y280).bind fun t309 => (if (rd_L2 y307 (ji25)).length + t309.length < 8796093022208 then (impl_FlatOf.l0 k1 (y307.set ((ji25) : Int).toNat ((rd_L2 y307 (ji25)) ++ t309)) y285 l0_0 (l0_0.length : Int) (wrap64 (x20_1 + 1))) else (none))) = some r := z9_38
   have Ny307 := mk0 hy_
   clear hy_
   replace H := Option.bind_eq_some_iff.mp H
   obtain ⟨t309, A350, H⟩ := H
   try dsimp only at H
   have A35 := mk0 A350
   clear A350
   by_cases c36 : (rd_L2 y307 (ji25)).length + t309.length < 8796093022208
   rotate_left
   ·rw [if_neg c36] at H
    exact absurd H (by simp)
   rw [if_pos c36] at H
   have LMc36 := mk0 c36
   clear c36
   obtain ⟨y312, hy_⟩ : ∃ y_ : List (S46), y_ = ((rd_L2 y307 (ji25)) ++ t309) := ⟨_, rfl⟩
   replace H : (impl_FlatOf.l0 k1 (y307.set ((ji25) : Int).toNat y312) y285 l0_0 (l0_0.length : Int) (wrap64 (x20_1 + 1))) = some r := z9_38
   have Ny312 := mk0 hy_
   clear hy_
   obtain ⟨y315, hy_⟩ : ∃ y_ : List (List (S46)), y_ = (y307.set ((ji25) : Int).toNat y312) := ⟨_, rfl⟩
   replace H : (impl_FlatOf.l0 k1 y315 y285 l0_0 (l0_0.length : Int) (wrap64 (x20_1 + 1))) = some r := z9_38
   have Ny315 := mk0 hy_
   clear hy_
   have H' := mk0 H
   clear H
   have p278 : 0 ≤ (x20_1 : Int) := of_decide_eq_true (by first | (with_reducible assumption) | assumption)
   have q278 : x20_1 < (l0_0.length : Int) := of_decide_eq_true (by first | (with_reducible assumption) | assumption)
   obtain ⟨ad278, e278, hx278_0⟩ := Kd.at_int HR0_0.out x20_1 p278 q278
   cases e278
   replace hx278_0 := cell_go HB hx278_0
   replace p278 := eq_true p278
   replace q278 := eq_true q278
   try go_wp2_with (first | ((with_reducible refine gate_callee (f := 28) rfl ?_); refine goesL_ (some 25) rfl rfl Try.func28 (by kernel_rfl) rfl #[.int .i64 (rd l0_0 x20_1)] rfl z9_59 ?_; (with_reducible refine (impl_NeedOf.calls k1 (rd l0_0 x20_1) t279 _ A11.out).mono ?_); rintro e w' ⟨rfl, ⟨nd, rfl⟩⟩; refine ⟨_, rfl, ?_⟩; (try (rw [drewN_self wr]; generalize hq_ : World.drewN wr _ = wr; have n0_ : Aside0 (Kd.V k46 46 wr w.heap.size (fun k_ => ((P0_1_ k_) ∧ k_ < w.heap.size) ∧ some k_ ≠ (u3 : Value).ownBlock ∧ k_ ≠ gb276) (.slice A0_1 l0_1.length c0_1) l0_1) := ⟨(by rw [← hq_]; exact (pkV HO_277001))⟩; have n1_ : Aside0 (Kd.S (Kd.slice 46 k46) 29 wr w.heap.size (fun k_ => (w.heap.size ≤ k_)) u3 x3_1) := ⟨(by rw [← hq_]; exact (pkS HO_3))⟩; have n2_ : Aside0 (Kd.V k46 46 wr w.heap.size (fun k_ => ((P0_1_ k_) ∧ k_ < w.heap.size) ∧ some k_ ≠ (u3 : Value).ownBlock ∧ k_ ≠ gb276) u4 x4_1) := ⟨(by rw [← hq_]; exact (pkV HO_4))⟩; have n3_ : Aside0 (wr.heap[gb276]? = some (.cells #[.slice (some ad278) l0_0.length c0_0, .slice A0_1 l0_1.length c0_1] 31 (0, 0))) := ⟨(by rw [← hq_]; exact (pkb BK276))⟩; have n4_ : Aside0 (Below w.heap.size w wr) := ⟨(by rw [← hq_]; exact z9_35)⟩; clear HO_277001 HO_3 HO_4 BK276 HB hq_; have HO_277001 := n0_; have HO_3 := n1_; have HO_4 := n2_; have BK276 := n3_; have HB := n4_; clear n0_ n1_ n2_ n3_ n4_)); obtain ⟨Ao38, co38, eo38⟩ := Kd.V_slice HO_4.out; subst eo38; have q37 : (t279 : Int) ≤ ((x4_1.length : Int) : Int) := of_decide_eq_true (by first | (with_reducible assumption) | assumption); obtain ⟨i037, hi037, _, hsz37, _⟩ := info_parts info46; have hroom37 : x4_1.length ≤ co38 := (Kd.V_reads' HO_4.out).2.1; have hC37 : Kd.F k46 _ _ Ao38 x4_1.length x4_1 := (Kd.V_at (base := w.heap.size) HO_4.out).2.2; have hcut37 := cut_to (P := Try.prog) 29 46 .i64 Try.underlying29 hi037 Ao38 x4_1.length co38 t279 (of_decide_eq_true (by first | (with_reducible assumption) | assumption)) q37 hroom37; have hr37 := Kd.F_take (m := (t279 : Int).toNat) hC37 (by omega); have hy37 : y280.length = (t279 : Int).toNat := (by rw [Ny280.out, List.length_take]; omega); rw [← Ny280.out] at hr37; rw [← hy37] at hcut37; have HO284 := mk0 (show Kd.V k46 46 _ w.heap.size _ (.slice Ao38 y280.length co38) y280 from Kd.V_mk (by omega) hr37); have HC284 := mk0 (show y280.length ≤ co38 from by omega); clear hr37 hC37 hroom37 hi037 hsz37; have KY37 := mk0 hy37; clear hy37; replace q37 := eq_true q37; have q39 : (t279 : Int) ≤ ((x4_1.length : Int) : Int) := of_decide_eq_true (by first | (with_reducible assumption) | assumption); obtain ⟨i039, hi039, _, hsz39, _⟩ := info_parts info46; have hroom39 : x4_1.length ≤ co38 := (Kd.V_reads' HO_4.out).2.1; have hC39 : Kd.F k46 _ _ Ao38 x4_1.length x4_1 := (Kd.V_at (base := w.heap.size) HO_4.out).2.2; have q039 : (0 : Int) ≤ (t279 : Int) := of_decide_eq_true (by first | (with_reducible assumption) | assumption); have hcut39 := cut_from (P := Try.prog) 29 46 .i64 Try.underlying29 hi039 2 hsz39 Ao38 x4_1.length co38 t279 q039 q39; have hr39 := Kd.F_cut (m := (t279 : Int).toNat) (c := co38) hC39 (by omega) hroom39; obtain ⟨A39, hA39⟩ : ∃ A1, A1 = (if co38 = (t279 : Int).toNat then Ao38 else (Ao38 : Option Addr).map (·.add ((t279 : Int).toNat * 2))) := ⟨_, rfl⟩; obtain ⟨c39, hc39⟩ : ∃ c1, c1 = co38 - (t279 : Int).toNat := ⟨_, rfl⟩; have hy39 : y285.length = x4_1.length - (t279 : Int).toNat := (by rw [Ny285.out, List.length_drop] <;> omega); rw [show (x4_1).drop (t279 : Int).toNat = y285 from Ny285.out.symm] at hr39; replace hr39 : Kd.F k46 _ _ A39 y285.length y285 := (by rw [hA39]; exact hr39); rw [← hy39, ← hA39, ← hc39] at hcut39; have HO289 := mk0 (show Kd.V k46 46 _ w.heap.size _ (.slice A39 y285.length c39) y285 from Kd.V_mk (by rw [hy39, hc39]; exact Nat.sub_le_sub_right hroom39 _) hr39); have HC289 := mk0 (show y285.length ≤ c39 from by rw [hy39, hc39]; exact Nat.sub_le_sub_right hroom39 _); clear hr39 hC39 hroom39 hi039 hsz39 hc39; have KY39 := mk0 hy39; have KA39 := mk0 hA39; clear hy39 hA39; replace q39 := eq_true q39; obtain ⟨Ao40, co40, eo40⟩ := Kd.S_slice HO_3.out; subst eo40))
   have n0_ := mk0 (Kd.S_drew HO_3.out)
   have n1_ := mk0 (Kd.V_drew HO_4.out)
   have n2_ := mk0 (Kd.V_drew HO_277001.out)
   have n3_ := mk0 (Kd.V_drew HO284.out)
   have n4_ := mk0 (Kd.V_drew HO289.out)
   have n5_ := mk0 (blk_drew BK276.out)
   have n6_ := mk0 (below_drew1 HB.out)
   clear HO_3 HO_4 HO_277001 HO284 HO289 BK276 HB; have HO_3 := n0_; have HO_4 := n1_; have HO_277001 := n2_; have HO284 := n3_; have HO289 := n4_; have BK276 := n5_; have HB := n6_; clear n0_ n1_ n2_ n3_ n4_ n5_ n6_
   have p296 : 0 ≤ ((ji25) : Int) := of_decide_eq_true (by first | (with_reducible assumption) | assumption)
   have q296 : (ji25) < (x3_1.length : Int) := of_decide_eq_true (by first | (with_reducible assumption) | assumption)
   obtain ⟨ad296, A296_0, c296_0, e296, hx296_0, hl296_0, hi296_0⟩ := at_L2 (Kd.S_reads' HO_3.out).2.2 (ji25) p296 q296
   cases e296
   obtain ⟨ce296, hce296, hMe296, hcc296⟩ := Kd.S_get HO_3.out [] (ji25) p296 z9_82
   obtain ⟨ve296_0, rfl, ge296_0⟩ := hMe296
   have hv296_0 := hcc296 0 _ rfl
   rw [Nat.add_zero, show ((Kd.slice 46 k46)).sz = 1 from rfl, Nat.mul_one] at hv296_0
   replace hv296_0 := Option.some.inj (hv296_0.symm.trans hx296_0)
   rw [hv296_0] at ge296_0
   have HL296_0 := mk0 (show Kd.R k46 46 _ _ _ _ (rd_L2 x3_1 (ji25)) from ge296_0)
   clear hv296_0 ge296_0
   have HX296_0 := mk0 hx296_0
   clear hcc296 hce296
   have HR296_0 := mk0 hi296_0
   have HC296_0 := mk0 hl296_0
   clear hi296_0 hl296_0
   replace p296 := eq_true p296
   replace q296 := eq_true q296
   have p297 : 0 ≤ (0 : Int) := (by omega)
   have q297 : 0 < ((rd_L2 x3_1 (ji25)).length : Int) := of_decide_eq_true (by first | (with_reducible assumption) | assumption)
   obtain ⟨ad297, e297, hx297_0, hx297_1⟩ := at_T46 z9_36 0 p297 q297
   cases e297
   have qi297 : (0 < (rd_L2 x3_1 (ji25)).length) = True := eq_true (by omega)
   (try rw [show ((0 : Int)).toNat = 0 from rfl] at hx297_0)
   (try rw [show 0 * 2 = 0 from rfl] at hx297_0)
   (try rw [Addr.add_zero'] at hx297_0)
   (try rw [show ((0 : Int)).toNat = 0 from rfl] at hx297_1)
   (try rw [show 0 * 2 = 0 from rfl] at hx297_1)
   (try rw [Addr.add_zero'] at hx297_1)
   replace p297 := eq_true p297
   replace q297 := eq_true q297
   have p298 : 0 ≤ ((ji25) : Int) := of_decide_eq_true (by first | (with_reducible assumption) | assumption)
   have q298 : (ji25) < (x3_1.length : Int) := of_decide_eq_true (by first | (with_reducible assumption) | assumption)
   obtain ⟨ad298, A298_0, c298_0, e298, hx298_0, hl298_0, hi298_0⟩ := at_L2 (Kd.S_reads' HO_3.out).2.2 (ji25) p298 q298
   obtain rfl : ad296 = ad298 := (by injection e298)
   obtain ⟨ce298, hce298, hMe298, hcc298⟩ := Kd.S_get HO_3.out [] (ji25) p298 z9_83
   obtain ⟨ve298_0, rfl, ge298_0⟩ := hMe298
   have hv298_0 := hcc298 0 _ rfl
   rw [Nat.add_zero, show ((Kd.slice 46 k46)).sz = 1 from rfl, Nat.mul_one] at hv298_0
   replace hv298_0 := Option.some.inj (hv298_0.symm.trans hx298_0)
   rw [hv298_0] at ge298_0
   have HL298_0 := mk0 (show Kd.R k46 46 _ _ _ _ (rd_L2 x3_1 (ji25)) from ge298_0)
   clear hv298_0 ge298_0
   have HX298_0 := mk0 hx298_0
   clear hcc298 hce298
   have HR298_0 := mk0 hi298_0
   have HC298_0 := mk0 hl298_0
   clear hi298_0 hl298_0
   replace p298 := eq_true p298
   replace q298 := eq_true q298
   have ea_ := Option.some.inj (hx296_0.symm.trans hx298_0)
   injection ea_ with ea_ en_ ec_
   subst ea_; subst ec_; clear en_
   have p299 : 0 ≤ ((ji25) : Int) := of_decide_eq_true (by first | (with_reducible assumption) | assumption)
   have q299 : (ji25) < (x3_1.length : Int) := of_decide_eq_true (by first | (with_reducible assumption) | assumption)
   obtain ⟨ad299, A299_0, c299_0, e299, hx299_0, hl299_0, hi299_0⟩ := at_L2 (Kd.S_reads' HO_3.out).2.2 (ji25) p299 q299
   obtain rfl : ad296 = ad299 := (by injection e299)
   obtain ⟨ce299, hce299, hMe299, hcc299⟩ := Kd.S_get HO_3.out [] (ji25) p299 z9_84
   obtain ⟨ve299_0, rfl, ge299_0⟩ := hMe299
   have hv299_0 := hcc299 0 _ rfl
   rw [Nat.add_zero, show ((Kd.slice 46 k46)).sz = 1 from rfl, Nat.mul_one] at hv299_0
   replace hv299_0 := Option.some.inj (hv299_0.symm.trans hx299_0)
   rw [hv299_0] at ge299_0
   have HL299_0 := mk0 (show Kd.R k46 46 _ _ _ _ (rd_L2 x3_1 (ji25)) from ge299_0)
   clear hv299_0 ge299_0
   have HX299_0 := mk0 hx299_0
   clear hcc299 hce299
   have HR299_0 := mk0 hi299_0
   have HC299_0 := mk0 hl299_0
   clear hi299_0 hl299_0
   replace p299 := eq_true p299
   replace q299 := eq_true q299
   have ea_ := Option.some.inj (hx296_0.symm.trans hx299_0)
   injection ea_ with ea_ en_ ec_
   subst ea_; subst ec_; clear en_
   have p300 : 0 ≤ ((ji29) : Int) := of_decide_eq_true (by first | (with_reducible assumption) | assumption)
   have q300 : (ji29) < ((rd_L2 x3_1 (ji25)).length : Int) := of_decide_eq_true (by first | (with_reducible assumption) | assumption)
   obtain ⟨ad300, e300, hx300_0, hx300_1⟩ := at_T46 z9_37 (ji29) p300 q300
   cases e300
   replace p300 := eq_true p300
   replace q300 := eq_true q300
   go_wp2
   refine start_ (n := 19) (S := fun w' => w'.cell? (ad296.add ((ji25)).toNat) = some (.slice (some ad297) (rd_L2 x3_1 (ji25)).length c296_0) ∧ w'.cell? ad297 = some (.int .i64 ((rd_T46 (rd_L2 x3_1 (ji25)) 0).f0)) ∧ w'.cell? ⟨ad297.block, ad297.off + 1, none⟩ = some (.int .i64 ((rd_T46 (rd_L2 x3_1 (ji25)) 0).f1)) ∧ w'.cell? (ad296.add ((ji25)).toNat) = some (.slice (some ad297) (rd_L2 x3_1 (ji25)).length c296_0) ∧ w'.cell? (ad296.add ((ji25)).toNat) = some (.slice (some ad297) (rd_L2 x3_1 (ji25)).length c296_0) ∧ w'.cell? (ad297.add (((ji29)).toNat * 2)) = some (.int .i64 ((rd_T46 (rd_L2 x3_1 (ji25)) (ji29)).f0)) ∧ w'.cell? ⟨(ad297.add (((ji29)).toNat * 2)).block, (ad297.add (((ji29)).toNat * 2)).off + 1, none⟩ = some (.int .i64 ((rd_T46 (rd_L2 x3_1 (ji25)) (ji29)).f1))) (ds := []) y9_0 (by kernel_rfl) rfl rfl ⟨hx296_0, hx297_0, hx297_1, hx298_0, hx299_0, hx300_0, hx300_1⟩ (fun hHeld => ?_); refine with_tabW impl_FlatOf.tab14 impl_FlatOf.bits14 (fun HT_ HW_ => ?_)
   generalize wr.drew = w41 at HO_3 HO_4 HO_277001 HO284 HO289 BK276 HB HL296_0 HL298_0 HL299_0 HR296_0 HR298_0 HR299_0 HX296_0 HX298_0 HX299_0 hx296_0 hx297_0 hx297_1 hx298_0 hx299_0 hx300_0 hx300_1 hHeld ⊢
   refine pzv (i := 0) (N := 46) (v := ?_) (a' := ?_) y9_3 HT_ ?_ ?_ ?_
   rotate_left
   ·intro w'
    go_simp; with_reducible rfl
   rotate_left
   ·exact x9_put
   refine pzv (i := 1) (N := 47) (v := ?_) (a' := ?_) y9_6 HT_ ?_ ?_ ?_
   rotate_left
   ·intro w'
    go_simp; with_reducible rfl
   rotate_left
   ·exact x9_put
   refine pzv (i := 5) (N := 51) (v := ?_) (a' := ?_) y9_9 HT_ ?_ ?_ ?_
   rotate_left
   ·intro w'
    go_simp; with_reducible rfl
   rotate_left
   ·exact x9_put
   refine pzv (i := 6) (N := 52) (v := ?_) (a' := ?_) y9_10 HT_ ?_ ?_ ?_
   rotate_left
   ·intro w'
    go_simp; with_reducible rfl
   rotate_left
   ·exact x9_put
   refine pzv (i := 8) (N := 54) (v := ?_) (a' := ?_) y9_11 HT_ ?_ ?_ ?_
   rotate_left
   ·intro w'
    go_simp; with_reducible rfl
   rotate_left
   ·exact x9_put
   refine pzv (i := 9) (N := 55) (v := ?_) (a' := ?_) y9_12 HT_ ?_ ?_ ?_
   rotate_left
   ·intro w'
    go_simp; with_reducible rfl
   rotate_left
   ·exact x9_put
   refine take_ (i := 2) (N := some 48) (v := ?_) (a' := ?_) y9_15 rfl rfl (take_ofW HT_.out HW_.out (by kernel_rfl)) (fun _ _ _ h => h) (Or.inl ⟨by rfl, ?_⟩) hHeld ?_ ?_
   rotate_left
   ·rintro w' ⟨s0, s1, s2, s3, s4, s5, s6⟩
    go_simp; with_reducible rfl
   rotate_left
   ·exact x9_put
   refine pzv (i := 3) (N := 49) (v := ?_) (a' := ?_) y9_19 HT_ ?_ ?_ ?_
   rotate_left
   ·intro w'
    go_simp; with_reducible rfl
   rotate_left
   ·exact x9_put
   refine take_ (i := 4) (N := some 50) (v := ?_) (a' := ?_) y9_25 rfl rfl (take_ofW HT_.out HW_.out (by kernel_rfl)) (fun _ _ _ h => h) (Or.inl ⟨by rfl, ?_⟩) hHeld ?_ ?_
   rotate_left
   ·rintro w' ⟨s0, s1, s2, s3, s4, s5, s6⟩
    go_simp; with_reducible rfl
   rotate_left
   ·exact x9_put
   refine take_ (i := 7) (N := some 53) (v := ?_) (a' := ?_) y9_29 rfl rfl (take_ofW HT_.out HW_.out (by kernel_rfl)) (fun _ _ _ h => h) (Or.inl ⟨by rfl, ?_⟩) hHeld ?_ ?_
   rotate_left
   ·rintro w' ⟨s0, s1, s2, s3, s4, s5, s6⟩
    go_simp; with_reducible rfl
   rotate_left
   ·exact x9_put
   refine take_ (i := 10) (N := some 56) (v := ?_) (a' := ?_) y9_31 rfl rfl (take_ofW HT_.out HW_.out (by kernel_rfl)) (fun _ _ _ h => h) (Or.inl ⟨by rfl, ?_⟩) hHeld ?_ ?_
   rotate_left
   ·rintro w' ⟨s0, s1, s2, s3, s4, s5, s6⟩
    go_simp; with_reducible rfl
   rotate_left
   ·exact x9_put
   refine pzv (i := 11) (N := 57) (v := ?_) (a' := ?_) y9_32 HT_ ?_ ?_ ?_
   rotate_left
   ·intro w'
    go_simp; with_reducible rfl
   rotate_left
   ·exact x9_put
   refine pzv (i := 12) (N := 58) (v := ?_) (a' := ?_) y9_33 HT_ ?_ ?_ ?_
   rotate_left
   ·intro w'
    go_simp; with_reducible rfl
   rotate_left
   ·exact x9_put
   refine pzv (i := 13) (N := 59) (v := ?_) (a' := ?_) y9_34 HT_ ?_ ?_ ?_
   rotate_left
   ·intro w'
    go_simp; with_reducible rfl
   rotate_left
   ·exact x9_put
   refine take_ (i := 14) (N := some 60) (v := ?_) (a' := ?_) y9_35 rfl rfl (take_ofW HT_.out HW_.out (by kernel_rfl)) (fun _ _ _ h => h) (Or.inl ⟨by rfl, ?_⟩) hHeld ?_ ?_
   rotate_left
   ·rintro w' ⟨s0, s1, s2, s3, s4, s5, s6⟩
    go_simp; with_reducible rfl
   rotate_left
   ·exact x9_put
   refine join_ (σ := Nat × Nat) 2 y9_38 (fun s_ => [(10, .pointer (some ⟨s_.1, 0, none⟩)), (11, .pointer (some ⟨s_.2, 0, none⟩))]) (fun s_ w' => (w'.cell? (ad296.add ((ji25)).toNat) = some (.slice (some ad297) (rd_L2 x3_1 (ji25)).length c296_0) ∧ w'.cell? ad297 = some (.int .i64 ((rd_T46 (rd_L2 x3_1 (ji25)) 0).f0)) ∧ w'.cell? ⟨ad297.block, ad297.off + 1, none⟩ = some (.int .i64 ((rd_T46 (rd_L2 x3_1 (ji25)) 0).f1)) ∧ w'.cell? (ad296.add ((ji25)).toNat) = some (.slice (some ad297) (rd_L2 x3_1 (ji25)).length c296_0) ∧ w'.cell? (ad296.add ((ji25)).toNat) = some (.slice (some ad297) (rd_L2 x3_1 (ji25)).length c296_0) ∧ w'.cell? (ad297.add (((ji29)).toNat * 2)) = some (.int .i64 ((rd_T46 (rd_L2 x3_1 (ji25)) (ji29)).f0)) ∧ w'.cell? ⟨(ad297.add (((ji29)).toNat * 2)).block, (ad297.add (((ji29)).toNat * 2)).off + 1, none⟩ = some (.int .i64 ((rd_T46 (rd_L2 x3_1 (ji25)) (ji29)).f1))) ∧ (Kd.R k46 46 w' w.heap.size (fun k_ => (w.heap.size ≤ k_) ∧ some k_ ≠ (.slice (some ad296) x3_1.length co40 : Value).ownBlock ∧ k_ ≠ s_.1 ∧ k_ ≠ s_.2) (.slice (some ad297) (rd_L2 x3_1 (ji25)).length c296_0) (rd_L2 x3_1 (ji25))) ∧ (Kd.R k46 46 w' w.heap.size (fun k_ => (w.heap.size ≤ k_) ∧ some k_ ≠ (.slice (some ad296) x3_1.length co40 : Value).ownBlock ∧ k_ ≠ s_.1 ∧ k_ ≠ s_.2) (.slice (some ad297) (rd_L2 x3_1 (ji25)).length c296_0) (rd_L2 x3_1 (ji25))) ∧ (Kd.R k46 46 w' w.heap.size (fun k_ => (w.heap.size ≤ k_) ∧ some k_ ≠ (.slice (some ad296) x3_1.length co40 : Value).ownBlock ∧ k_ ≠ s_.1 ∧ k_ ≠ s_.2) (.slice (some ad297) (rd_L2 x3_1 (ji25)).length c296_0) (rd_L2 x3_1 (ji25))) ∧ (Kd.V k46 46 w' w.heap.size (fun k_ => ((P0_1_ k_) ∧ k_ < w.heap.size) ∧ some k_ ≠ (.slice (some ad296) x3_1.length co40 : Value).ownBlock ∧ k_ ≠ gb276 ∧ k_ ≠ s_.1 ∧ k_ ≠ s_.2) (.slice Ao38 y280.length co38) y280) ∧ (Kd.V k46 46 w' w.heap.size (fun k_ => ((P0_1_ k_) ∧ k_ < w.heap.size) ∧ some k_ ≠ (.slice (some ad296) x3_1.length co40 : Value).ownBlock ∧ k_ ≠ gb276 ∧ k_ ≠ s_.1 ∧ k_ ≠ s_.2) (.slice A39 y285.length c39) y285) ∧ (Kd.V k46 46 w' w.heap.size (fun k_ => ((P0_1_ k_) ∧ k_ < w.heap.size) ∧ some k_ ≠ (.slice (some ad296) x3_1.length co40 : Value).ownBlock ∧ k_ ≠ gb276 ∧ k_ ≠ s_.1 ∧ k_ ≠ s_.2) (.slice A0_1 l0_1.length c0_1) l0_1) ∧ (Kd.S (Kd.slice 46 k46) 29 w' w.heap.size (fun k_ => (w.heap.size ≤ k_) ∧ k_ ≠ s_.1 ∧ k_ ≠ s_.2) (.slice (some ad296) x3_1.length co40) x3_1) ∧ (Kd.V k46 46 w' w.heap.size (fun k_ => ((P0_1_ k_) ∧ k_ < w.heap.size) ∧ some k_ ≠ (.slice (some ad296) x3_1.length co40 : Value).ownBlock ∧ k_ ≠ gb276 ∧ k_ ≠ s_.1 ∧ k_ ≠ s_.2) (.slice Ao38 x4_1.length co38) x4_1) ∧ (w'.cell? (ad296.add ((ji25)).toNat) = some (.slice (some ad297) (rd_L2 x3_1 (ji25)).length c296_0)) ∧ (w'.cell? (ad296.add ((ji25)).toNat) = some (.slice (some ad297) (rd_L2 x3_1 (ji25)).length c296_0)) ∧ (w'.cell? (ad296.add ((ji25)).toNat) = some (.slice (some ad297) (rd_L2 x3_1 (ji25)).length c296_0)) ∧ (w'.heap[gb276]? = some (.cells #[.slice (some ad278) l0_0.length c0_0, .slice A0_1 l0_1.length c0_1] 31 (0, 0))) ∧ (w'.heap[s_.1]? = some (.cells #[.int .i64 0, .int .i64 0] 46 (0, 0))) ∧ (w'.heap[s_.2]? = some (.cells #[.int .i64 0, .int .i64 0] 46 (0, 0))) ∧ (w.heap.size ≤ s_.1) ∧ (w.heap.size ≤ s_.1) ∧ (gb276 ≠ s_.1) ∧ (s_.1 ≠ gb276) ∧ (s_.2 ≠ s_.1) ∧ (s_.1 ≠ s_.2) ∧ (w.heap.size ≤ s_.2) ∧ (w.heap.size ≤ s_.2) ∧ (gb276 ≠ s_.2) ∧ (s_.2 ≠ gb276) ∧ (Below w.heap.size w w')) ?_ ?_
   rotate_left
   ·intro hCont
    refine two_ (i := 15) (j := 16) (Ni := some 10) (Nj := some 11) y9_37 y9_36 rfl rfl rfl rfl (two_of HT_.out (by kernel_rfl)) (by decide) (by decide) (fun K hK => ?_) (fun K hK => ?_)
    ·skip
     refine box_step ?hg (N := 10) ?hd (cs := #[.int .i64 0, .int .i64 0]) (t := 46) ?hr ?_; (case hd => rfl); (case hg => rfl); (case hr => first | (go_simp; done) | (go_simp; rfl))
     intro gb301 hg w42 hbox hb
     have HS0_ := (hb.cell (World.block_lt_of_cell? _ _ (hHeld.1))).trans (hHeld.1)
     have HS1_ := (hb.cell (World.block_lt_of_cell? _ _ (hHeld.2.1))).trans (hHeld.2.1)
     have HS2_ := (hb.cell (World.block_lt_of_cell? _ _ (hHeld.2.2.1))).trans (hHeld.2.2.1)
     have HS3_ := (hb.cell (World.block_lt_of_cell? _ _ (hHeld.2.2.2.1))).trans (hHeld.2.2.2.1)
     have HS4_ := (hb.cell (World.block_lt_of_cell? _ _ (hHeld.2.2.2.2.1))).trans (hHeld.2.2.2.2.1)
     have HS5_ := (hb.cell (World.block_lt_of_cell? _ _ (hHeld.2.2.2.2.2.1))).trans (hHeld.2.2.2.2.2.1)
     have HS6_ := (hb.cell (World.block_lt_of_cell? _ _ (hHeld.2.2.2.2.2.2))).trans (hHeld.2.2.2.2.2.2)
     have n0_ := mk0 (Kd.S_below (Kd.S_elderB (pkS HO_3) gb301 (Nat.le_of_eq hg.symm)) hb)
     have n1_ := mk0 (Kd.V_below (Kd.V_elderB (pkV HO_4) gb301 (Nat.le_of_eq hg.symm)) hb)
     have n2_ := mk0 (Kd.V_below (Kd.V_elderB (pkV HO_277001) gb301 (Nat.le_of_eq hg.symm)) hb)
     have n3_ := mk0 (Kd.V_below (Kd.V_elderB (pkV HO284) gb301 (Nat.le_of_eq hg.symm)) hb)
     have n4_ := mk0 (Kd.V_below (Kd.V_elderB (pkV HO289) gb301 (Nat.le_of_eq hg.symm)) hb)
     have n5_ := mk0 (Kd.R_below (Kd.R_elderB (pkR HL296_0) gb301 (Nat.le_of_eq hg.symm)) hb)
     have n6_ := mk0 (Kd.R_below (Kd.R_elderB (pkR HL298_0) gb301 (Nat.le_of_eq hg.symm)) hb)
     have n7_ := mk0 (Kd.R_below (Kd.R_elderB (pkR HL299_0) gb301 (Nat.le_of_eq hg.symm)) hb)
     have n8_ := mk0 (blk_belowB BK276 (pkb BK276) hb)
     have n9_ := mk0 (Kd.C_below z9_36 hb)
     have n10_ := mk0 (pw_cell_below hb HX296_0.out)
     have n11_ := mk0 (Kd.C_below z9_37 hb)
     have n12_ := mk0 (pw_cell_below hb HX298_0.out)
     have n13_ := mk0 (Kd.C_below z9_41 hb)
     have n14_ := mk0 (pw_cell_below hb HX299_0.out)
     have n15_ := mk0 (below_step z9_35 hb)
     have n16_ := mk0 (hbox)
     have n17_ := mk0 (ge_go (a := w.heap.size) hg (below_size z9_35))
     have n18_ := mk0 (ge_go (a := w.heap.size) hg (below_size z9_35))
     have n19_ := mk0 (nb_lt hg (blk_ltB BK276 (pkb BK276)))
     have n20_ := mk0 (nb_gt hg (blk_ltB BK276 (pkb BK276)))
     clear HO_3 HO_4 HO_277001 HO284 HO289 HL296_0 HL298_0 HL299_0 BK276 HR296_0 HX296_0 HR298_0 HX298_0 HR299_0 HX299_0 HB; have HO_3 := n0_; have HO_4 := n1_; have HO_277001 := n2_; have HO284 := n3_; have HO289 := n4_; have HL296_0 := n5_; have HL298_0 := n6_; have HL299_0 := n7_; have BK276 := n8_; have HR296_0 := n9_; have HX296_0 := n10_; have HR298_0 := n11_; have HX298_0 := n12_; have HR299_0 := n13_; have HX299_0 := n14_; have HB := n15_; have BK301 := n16_; have GW301 := n17_; have GE301 := n18_; have NB276_301 := n19_; have NB301_276 := n20_; clear n0_ n1_ n2_ n3_ n4_ n5_ n6_ n7_ n8_ n9_ n10_ n11_ n12_ n13_ n14_ n15_ n16_ n17_ n18_ n19_ n20_ hb hbox hg
     refine hK.out _ _ ⟨HS0_, HS1_, HS2_, HS3_, HS4_, HS5_, HS6_⟩ (fun hHeld => ?_)
     clear hK K
     refine norm_ (a' := ?_) ?_ ?_
     rotate_left
     ·show Act.put _ (some 10) _ = _
      simp only [Act.put, List.setIfInBounds_toArray, List.set_cons_zero, List.set_cons_succ, i64_w, i32_w]
      rfl
     refine one_ (i := 16) (N := some 11) y9_38 rfl rfl (one_of HT_.out (by kernel_rfl)) (by decide) (fun K hK => ?_)
     refine box_step ?hg (N := 11) ?hd (cs := #[.int .i64 0, .int .i64 0]) (t := 46) ?hr ?_; (case hd => rfl); (case hg => rfl); (case hr => first | (go_simp; done) | (go_simp; rfl))
     intro gb302 hg w43 hbox hb
     have HS0_ := (hb.cell (World.block_lt_of_cell? _ _ (hHeld.1))).trans (hHeld.1)
     have HS1_ := (hb.cell (World.block_lt_of_cell? _ _ (hHeld.2.1))).trans (hHeld.2.1)
     have HS2_ := (hb.cell (World.block_lt_of_cell? _ _ (hHeld.2.2.1))).trans (hHeld.2.2.1)
     have HS3_ := (hb.cell (World.block_lt_of_cell? _ _ (hHeld.2.2.2.1))).trans (hHeld.2.2.2.1)
     have HS4_ := (hb.cell (World.block_lt_of_cell? _ _ (hHeld.2.2.2.2.1))).trans (hHeld.2.2.2.2.1)
     have HS5_ := (hb.cell (World.block_lt_of_cell? _ _ (hHeld.2.2.2.2.2.1))).trans (hHeld.2.2.2.2.2.1)
     have HS6_ := (hb.cell (World.block_lt_of_cell? _ _ (hHeld.2.2.2.2.2.2))).trans (hHeld.2.2.2.2.2.2)
     have n0_ := mk0 (Kd.S_below (Kd.S_elderB (pkS HO_3) gb302 (Nat.le_of_eq hg.symm)) hb)
     have n1_ := mk0 (Kd.V_below (Kd.V_elderB (pkV HO_4) gb302 (Nat.le_of_eq hg.symm)) hb)
     have n2_ := mk0 (Kd.V_below (Kd.V_elderB (pkV HO_277001) gb302 (Nat.le_of_eq hg.symm)) hb)
     have n3_ := mk0 (Kd.V_below (Kd.V_elderB (pkV HO284) gb302 (Nat.le_of_eq hg.symm)) hb)
     have n4_ := mk0 (Kd.V_below (Kd.V_elderB (pkV HO289) gb302 (Nat.le_of_eq hg.symm)) hb)
     have n5_ := mk0 (Kd.R_below (Kd.R_elderB (pkR HL296_0) gb302 (Nat.le_of_eq hg.symm)) hb)
     have n6_ := mk0 (Kd.R_below (Kd.R_elderB (pkR HL298_0) gb302 (Nat.le_of_eq hg.symm)) hb)
     have n7_ := mk0 (Kd.R_below (Kd.R_elderB (pkR HL299_0) gb302 (Nat.le_of_eq hg.symm)) hb)
     have n8_ := mk0 (blk_belowB BK276 (pkb BK276) hb)
     have n9_ := mk0 (Kd.C_below z9_36 hb)
     have n10_ := mk0 (pw_cell_below hb HX296_0.out)
     have n11_ := mk0 (Kd.C_below z9_37 hb)
     have n12_ := mk0 (pw_cell_below hb HX298_0.out)
     have n13_ := mk0 (Kd.C_below z9_41 hb)
     have n14_ := mk0 (pw_cell_below hb HX299_0.out)
     have n15_ := mk0 (blk_belowB BK301 (pkb BK301) hb)
     have n16_ := mk0 (below_step z9_46 hb)
     have n17_ := mk0 (hbox)
     have n18_ := mk0 (ge_go (a := w.heap.size) hg (below_size z9_46))
     have n19_ := mk0 (ge_go (a := w.heap.size) hg (below_size z9_46))
     have n20_ := mk0 (nb_lt hg (blk_ltB BK276 (pkb BK276)))
     have n21_ := mk0 (nb_gt hg (blk_ltB BK276 (pkb BK276)))
     have n22_ := mk0 (nb_lt hg (blk_ltB BK301 (pkb BK301)))
     have n23_ := mk0 (nb_gt hg (blk_ltB BK301 (pkb BK301)))
     clear HO_3 HO_4 HO_277001 HO284 HO289 HL296_0 HL298_0 HL299_0 BK276 HR296_0 HX296_0 HR298_0 HX298_0 HR299_0 HX299_0 BK301 HB; have HO_3 := n0_; have HO_4 := n1_; have HO_277001 := n2_; have HO284 := n3_; have HO289 := n4_; have HL296_0 := n5_; have HL298_0 := n6_; have HL299_0 := n7_; have BK276 := n8_; have HR296_0 := n9_; have HX296_0 := n10_; have HR298_0 := n11_; have HX298_0 := n12_; have HR299_0 := n13_; have HX299_0 := n14_; have BK301 := n15_; have HB := n16_; have BK302 := n17_; have GW302 := n18_; have GE302 := n19_; have NB276_302 := n20_; have NB302_276 := n21_; have NB301_302 := n22_; have NB302_301 := n23_; clear n0_ n1_ n2_ n3_ n4_ n5_ n6_ n7_ n8_ n9_ n10_ n11_ n12_ n13_ n14_ n15_ n16_ n17_ n18_ n19_ n20_ n21_ n22_ n23_ hb hbox hg
     refine hK.out _ _ ⟨HS0_, HS1_, HS2_, HS3_, HS4_, HS5_, HS6_⟩ (fun hHeld => ?_)
     clear hK K
     refine norm_ (a' := ?_) ?_ ?_
     rotate_left
     ·show Act.put _ (some 11) _ = _
      simp only [Act.put, List.setIfInBounds_toArray, List.set_cons_zero, List.set_cons_succ, i64_w, i32_w]
      rfl
     exact norm_ z9_63 (hCont (gb301, gb302) _ ⟨hHeld, z9_74, z9_75, z9_76, z9_67, z9_68, z9_65, z9_80, z9_71, HX296_0.out, HX298_0.out, HX299_0.out, (pkb BK276), (pkb BK301), (pkb BK302), GW301.out, GE301.out, NB276_301.out, NB301_276.out, NB302_301.out, NB301_302.out, GW302.out, GE302.out, NB276_302.out, NB302_276.out, z9_34⟩)
    skip
    refine box_step ?hg (N := 11) ?hd (cs := #[.int .i64 0, .int .i64 0]) (t := 46) ?hr ?_; (case hd => rfl); (case hg => rfl); (case hr => first | (go_simp; done) | (go_simp; rfl))
    intro gb302 hg w42 hbox hb
    have HS0_ := (hb.cell (World.block_lt_of_cell? _ _ (hHeld.1))).trans (hHeld.1)
    have HS1_ := (hb.cell (World.block_lt_of_cell? _ _ (hHeld.2.1))).trans (hHeld.2.1)
    have HS2_ := (hb.cell (World.block_lt_of_cell? _ _ (hHeld.2.2.1))).trans (hHeld.2.2.1)
    have HS3_ := (hb.cell (World.block_lt_of_cell? _ _ (hHeld.2.2.2.1))).trans (hHeld.2.2.2.1)
    have HS4_ := (hb.cell (World.block_lt_of_cell? _ _ (hHeld.2.2.2.2.1))).trans (hHeld.2.2.2.2.1)
    have HS5_ := (hb.cell (World.block_lt_of_cell? _ _ (hHeld.2.2.2.2.2.1))).trans (hHeld.2.2.2.2.2.1)
    have HS6_ := (hb.cell (World.block_lt_of_cell? _ _ (hHeld.2.2.2.2.2.2))).trans (hHeld.2.2.2.2.2.2)
    have n0_ := mk0 (Kd.S_below (Kd.S_elderB (pkS HO_3) gb302 (Nat.le_of_eq hg.symm)) hb)
    have n1_ := mk0 (Kd.V_below (Kd.V_elderB (pkV HO_4) gb302 (Nat.le_of_eq hg.symm)) hb)
    have n2_ := mk0 (Kd.V_below (Kd.V_elderB (pkV HO_277001) gb302 (Nat.le_of_eq hg.symm)) hb)
    have n3_ := mk0 (Kd.V_below (Kd.V_elderB (pkV HO284) gb302 (Nat.le_of_eq hg.symm)) hb)
    have n4_ := mk0 (Kd.V_below (Kd.V_elderB (pkV HO289) gb302 (Nat.le_of_eq hg.symm)) hb)
    have n5_ := mk0 (Kd.R_below (Kd.R_elderB (pkR HL296_0) gb302 (Nat.le_of_eq hg.symm)) hb)
    have n6_ := mk0 (Kd.R_below (Kd.R_elderB (pkR HL298_0) gb302 (Nat.le_of_eq hg.symm)) hb)
    have n7_ := mk0 (Kd.R_below (Kd.R_elderB (pkR HL299_0) gb302 (Nat.le_of_eq hg.symm)) hb)
    have n8_ := mk0 (blk_belowB BK276 (pkb BK276) hb)
    have n9_ := mk0 (Kd.C_below z9_36 hb)
    have n10_ := mk0 (pw_cell_below hb HX296_0.out)
    have n11_ := mk0 (Kd.C_below z9_37 hb)
    have n12_ := mk0 (pw_cell_below hb HX298_0.out)
    have n13_ := mk0 (Kd.C_below z9_41 hb)
    have n14_ := mk0 (pw_cell_below hb HX299_0.out)
    have n15_ := mk0 (below_step z9_35 hb)
    have n16_ := mk0 (hbox)
    have n17_ := mk0 (ge_go (a := w.heap.size) hg (below_size z9_35))
    have n18_ := mk0 (ge_go (a := w.heap.size) hg (below_size z9_35))
    have n19_ := mk0 (nb_lt hg (blk_ltB BK276 (pkb BK276)))
    have n20_ := mk0 (nb_gt hg (blk_ltB BK276 (pkb BK276)))
    clear HO_3 HO_4 HO_277001 HO284 HO289 HL296_0 HL298_0 HL299_0 BK276 HR296_0 HX296_0 HR298_0 HX298_0 HR299_0 HX299_0 HB; have HO_3 := n0_; have HO_4 := n1_; have HO_277001 := n2_; have HO284 := n3_; have HO289 := n4_; have HL296_0 := n5_; have HL298_0 := n6_; have HL299_0 := n7_; have BK276 := n8_; have HR296_0 := n9_; have HX296_0 := n10_; have HR298_0 := n11_; have HX298_0 := n12_; have HR299_0 := n13_; have HX299_0 := n14_; have HB := n15_; have BK302 := n16_; have GW302 := n17_; have GE302 := n18_; have NB276_302 := n19_; have NB302_276 := n20_; clear n0_ n1_ n2_ n3_ n4_ n5_ n6_ n7_ n8_ n9_ n10_ n11_ n12_ n13_ n14_ n15_ n16_ n17_ n18_ n19_ n20_ hb hbox hg
    refine hK.out _ _ ⟨HS0_, HS1_, HS2_, HS3_, HS4_, HS5_, HS6_⟩ (fun hHeld => ?_)
    clear hK K
    refine norm_ (a' := ?_) ?_ ?_
    rotate_left
    ·show Act.put _ (some 11) _ = _
     simp only [Act.put, List.setIfInBounds_toArray, List.set_cons_zero, List.set_cons_succ, i64_w, i32_w]
     rfl
    refine one_ (i := 15) (N := some 10) y9_38 rfl rfl (one_of HT_.out (by kernel_rfl)) (by decide) (fun K hK => ?_)
    refine box_step ?hg (N := 10) ?hd (cs := #[.int .i64 0, .int .i64 0]) (t := 46) ?hr ?_; (case hd => rfl); (case hg => rfl); (case hr => first | (go_simp; done) | (go_simp; rfl))
    intro gb301 hg w43 hbox hb
    have HS0_ := (hb.cell (World.block_lt_of_cell? _ _ (hHeld.1))).trans (hHeld.1)
    have HS1_ := (hb.cell (World.block_lt_of_cell? _ _ (hHeld.2.1))).trans (hHeld.2.1)
    have HS2_ := (hb.cell (World.block_lt_of_cell? _ _ (hHeld.2.2.1))).trans (hHeld.2.2.1)
    have HS3_ := (hb.cell (World.block_lt_of_cell? _ _ (hHeld.2.2.2.1))).trans (hHeld.2.2.2.1)
    have HS4_ := (hb.cell (World.block_lt_of_cell? _ _ (hHeld.2.2.2.2.1))).trans (hHeld.2.2.2.2.1)
    have HS5_ := (hb.cell (World.block_lt_of_cell? _ _ (hHeld.2.2.2.2.2.1))).trans (hHeld.2.2.2.2.2.1)
    have HS6_ := (hb.cell (World.block_lt_of_cell? _ _ (hHeld.2.2.2.2.2.2))).trans (hHeld.2.2.2.2.2.2)
    have n0_ := mk0 (Kd.S_below (Kd.S_elderB (pkS HO_3) gb301 (Nat.le_of_eq hg.symm)) hb)
    have n1_ := mk0 (Kd.V_below (Kd.V_elderB (pkV HO_4) gb301 (Nat.le_of_eq hg.symm)) hb)
    have n2_ := mk0 (Kd.V_below (Kd.V_elderB (pkV HO_277001) gb301 (Nat.le_of_eq hg.symm)) hb)
    have n3_ := mk0 (Kd.V_below (Kd.V_elderB (pkV HO284) gb301 (Nat.le_of_eq hg.symm)) hb)
    have n4_ := mk0 (Kd.V_below (Kd.V_elderB (pkV HO289) gb301 (Nat.le_of_eq hg.symm)) hb)
    have n5_ := mk0 (Kd.R_below (Kd.R_elderB (pkR HL296_0) gb301 (Nat.le_of_eq hg.symm)) hb)
    have n6_ := mk0 (Kd.R_below (Kd.R_elderB (pkR HL298_0) gb301 (Nat.le_of_eq hg.symm)) hb)
    have n7_ := mk0 (Kd.R_below (Kd.R_elderB (pkR HL299_0) gb301 (Nat.le_of_eq hg.symm)) hb)
    have n8_ := mk0 (blk_belowB BK276 (pkb BK276) hb)
    have n9_ := mk0 (Kd.C_below z9_36 hb)
    have n10_ := mk0 (pw_cell_below hb HX296_0.out)
    have n11_ := mk0 (Kd.C_below z9_37 hb)
    have n12_ := mk0 (pw_cell_below hb HX298_0.out)
    have n13_ := mk0 (Kd.C_below z9_41 hb)
    have n14_ := mk0 (pw_cell_below hb HX299_0.out)
    have n15_ := mk0 (blk_belowB BK302 (pkb BK302) hb)
    have n16_ := mk0 (below_step z9_47 hb)
    have n17_ := mk0 (hbox)
    have n18_ := mk0 (ge_go (a := w.heap.size) hg (below_size z9_47))
    have n19_ := mk0 (ge_go (a := w.heap.size) hg (below_size z9_47))
    have n20_ := mk0 (nb_lt hg (blk_ltB BK276 (pkb BK276)))
    have n21_ := mk0 (nb_gt hg (blk_ltB BK276 (pkb BK276)))
    have n22_ := mk0 (nb_lt hg (blk_ltB BK302 (pkb BK302)))
    have n23_ := mk0 (nb_gt hg (blk_ltB BK302 (pkb BK302)))
    clear HO_3 HO_4 HO_277001 HO284 HO289 HL296_0 HL298_0 HL299_0 BK276 HR296_0 HX296_0 HR298_0 HX298_0 HR299_0 HX299_0 BK302 HB; have HO_3 := n0_; have HO_4 := n1_; have HO_277001 := n2_; have HO284 := n3_; have HO289 := n4_; have HL296_0 := n5_; have HL298_0 := n6_; have HL299_0 := n7_; have BK276 := n8_; have HR296_0 := n9_; have HX296_0 := n10_; have HR298_0 := n11_; have HX298_0 := n12_; have HR299_0 := n13_; have HX299_0 := n14_; have BK302 := n15_; have HB := n16_; have BK301 := n17_; have GW301 := n18_; have GE301 := n19_; have NB276_301 := n20_; have NB301_276 := n21_; have NB302_301 := n22_; have NB301_302 := n23_; clear n0_ n1_ n2_ n3_ n4_ n5_ n6_ n7_ n8_ n9_ n10_ n11_ n12_ n13_ n14_ n15_ n16_ n17_ n18_ n19_ n20_ n21_ n22_ n23_ hb hbox hg
    refine hK.out _ _ ⟨HS0_, HS1_, HS2_, HS3_, HS4_, HS5_, HS6_⟩ (fun hHeld => ?_)
    clear hK K
    refine norm_ (a' := ?_) ?_ ?_
    rotate_left
    ·show Act.put _ (some 10) _ = _
     simp only [Act.put, List.setIfInBounds_toArray, List.set_cons_zero, List.set_cons_succ, i64_w, i32_w]
     rfl
    exact norm_ z9_63 (hCont (gb301, gb302) _ ⟨hHeld, z9_77, z9_78, z9_79, z9_69, z9_70, z9_66, z9_81, z9_72, HX296_0.out, HX298_0.out, HX299_0.out, (pkb BK276), (pkb BK301), (pkb BK302), GW301.out, GE301.out, NB276_301.out, NB301_276.out, NB302_301.out, NB301_302.out, GW302.out, GE302.out, NB276_302.out, NB302_276.out, z9_64⟩)
   rintro ⟨gb301, gb302⟩ w44 ⟨hS_, h0_, h1_, h2_, h3_, h4_, h5_, h6_, h7_, h8_, h9_, h10_, h11_, h12_, h13_, h14_, h15_, h16_, h17_, h18_, h19_, h20_, h21_, h22_, h23_, h24_⟩
   have n0_ : Aside0 (Kd.R k46 46 w44 w.heap.size (fun k_ => (w.heap.size ≤ k_) ∧ some k_ ≠ (.slice (some ad296) x3_1.length co40 : Value).ownBlock ∧ k_ ≠ gb301 ∧ k_ ≠ gb302) (.slice (some ad297) (rd_L2 x3_1 (ji25)).length c296_0) (rd_L2 x3_1 (ji25))) := ⟨h0_⟩
   have n1_ : Aside0 (Kd.R k46 46 w44 w.heap.size (fun k_ => (w.heap.size ≤ k_) ∧ some k_ ≠ (.slice (some ad296) x3_1.length co40 : Value).ownBlock ∧ k_ ≠ gb301 ∧ k_ ≠ gb302) (.slice (some ad297) (rd_L2 x3_1 (ji25)).length c296_0) (rd_L2 x3_1 (ji25))) := ⟨h1_⟩
   have n2_ : Aside0 (Kd.R k46 46 w44 w.heap.size (fun k_ => (w.heap.size ≤ k_) ∧ some k_ ≠ (.slice (some ad296) x3_1.length co40 : Value).ownBlock ∧ k_ ≠ gb301 ∧ k_ ≠ gb302) (.slice (some ad297) (rd_L2 x3_1 (ji25)).length c296_0) (rd_L2 x3_1 (ji25))) := ⟨h2_⟩
   have n3_ : Aside0 (Kd.V k46 46 w44 w.heap.size (fun k_ => ((P0_1_ k_) ∧ k_ < w.heap.size) ∧ some k_ ≠ (.slice (some ad296) x3_1.length co40 : Value).ownBlock ∧ k_ ≠ gb276 ∧ k_ ≠ gb301 ∧ k_ ≠ gb302) (.slice Ao38 y280.length co38) y280) := ⟨h3_⟩
   have n4_ : Aside0 (Kd.V k46 46 w44 w.heap.size (fun k_ => ((P0_1_ k_) ∧ k_ < w.heap.size) ∧ some k_ ≠ (.slice (some ad296) x3_1.length co40 : Value).ownBlock ∧ k_ ≠ gb276 ∧ k_ ≠ gb301 ∧ k_ ≠ gb302) (.slice A39 y285.length c39) y285) := ⟨h4_⟩
   have n5_ : Aside0 (Kd.V k46 46 w44 w.heap.size (fun k_ => ((P0_1_ k_) ∧ k_ < w.heap.size) ∧ some k_ ≠ (.slice (some ad296) x3_1.length co40 : Value).ownBlock ∧ k_ ≠ gb276 ∧ k_ ≠ gb301 ∧ k_ ≠ gb302) (.slice A0_1 l0_1.length c0_1) l0_1) := ⟨h5_⟩
   have n6_ : Aside0 (Kd.S (Kd.slice 46 k46) 29 w44 w.heap.size (fun k_ => (w.heap.size ≤ k_) ∧ k_ ≠ gb301 ∧ k_ ≠ gb302) (.slice (some ad296) x3_1.length co40) x3_1) := ⟨h6_⟩
   have n7_ : Aside0 (Kd.V k46 46 w44 w.heap.size (fun k_ => ((P0_1_ k_) ∧ k_ < w.heap.size) ∧ some k_ ≠ (.slice (some ad296) x3_1.length co40 : Value).ownBlock ∧ k_ ≠ gb276 ∧ k_ ≠ gb301 ∧ k_ ≠ gb302) (.slice Ao38 x4_1.length co38) x4_1) := ⟨h7_⟩
   have n8_ : Aside0 (w44.cell? (ad296.add ((ji25)).toNat) = some (.slice (some ad297) (rd_L2 x3_1 (ji25)).length c296_0)) := ⟨h8_⟩
   have n9_ : Aside0 (w44.cell? (ad296.add ((ji25)).toNat) = some (.slice (some ad297) (rd_L2 x3_1 (ji25)).length c296_0)) := ⟨h9_⟩
   have n10_ : Aside0 (w44.cell? (ad296.add ((ji25)).toNat) = some (.slice (some ad297) (rd_L2 x3_1 (ji25)).length c296_0)) := ⟨h10_⟩
   have n11_ : Aside0 (w44.heap[gb276]? = some (.cells #[.slice (some ad278) l0_0.length c0_0, .slice A0_1 l0_1.length c0_1] 31 (0, 0))) := ⟨h11_⟩
   have n12_ : Aside0 (w44.heap[gb301]? = some (.cells #[.int .i64 0, .int .i64 0] 46 (0, 0))) := ⟨h12_⟩
   have n13_ : Aside0 (w44.heap[gb302]? = some (.cells #[.int .i64 0, .int .i64 0] 46 (0, 0))) := ⟨h13_⟩
   have n14_ : Aside0 (w.heap.size ≤ gb301) := ⟨h14_⟩
   have n15_ : Aside0 (w.heap.size ≤ gb301) := ⟨h15_⟩
   have n16_ : Aside0 (gb276 ≠ gb301) := ⟨h16_⟩
   have n17_ : Aside0 (gb301 ≠ gb276) := ⟨h17_⟩
   have n18_ : Aside0 (gb302 ≠ gb301) := ⟨h18_⟩
   have n19_ : Aside0 (gb301 ≠ gb302) := ⟨h19_⟩
   have n20_ : Aside0 (w.heap.size ≤ gb302) := ⟨h20_⟩
   have n21_ : Aside0 (w.heap.size ≤ gb302) := ⟨h21_⟩
   have n22_ : Aside0 (gb276 ≠ gb302) := ⟨h22_⟩
   have n23_ : Aside0 (gb302 ≠ gb276) := ⟨h23_⟩
   have n24_ : Aside0 (Below w.heap.size w w44) := ⟨h24_⟩
   clear HO_3 HO_4 HO_277001 HO284 HO289 BK276 HB h0_ h1_ h2_ h3_ h4_ h5_ h6_ h7_ h8_ h9_ h10_ h11_ h12_ h13_ h14_ h15_ h16_ h17_ h18_ h19_ h20_ h21_ h22_ h23_ h24_; have HL296_0 := n0_; have HL298_0 := n1_; have HL299_0 := n2_; have HO284 := n3_; have HO289 := n4_; have HO_277001 := n5_; have HO_3 := n6_; have HO_4 := n7_; have HX296_0 := n8_; have HX298_0 := n9_; have HX299_0 := n10_; have BK276 := n11_; have BK301 := n12_; have BK302 := n13_; have GW301 := n14_; have GE301 := n15_; have NB276_301 := n16_; have NB301_276 := n17_; have NB302_301 := n18_; have NB301_302 := n19_; have GW302 := n20_; have GE302 := n21_; have NB276_302 := n22_; have NB302_276 := n23_; have HB := n24_; clear n0_ n1_ n2_ n3_ n4_ n5_ n6_ n7_ n8_ n9_ n10_ n11_ n12_ n13_ n14_ n15_ n16_ n17_ n18_ n19_ n20_ n21_ n22_ n23_ n24_
   have hHeld : w44.cell? (ad296.add ((ji25)).toNat) = some (.slice (some ad297) (rd_L2 x3_1 (ji25)).length c296_0) ∧ w44.cell? ad297 = some (.int .i64 ((rd_T46 (rd_L2 x3_1 (ji25)) 0).f0)) ∧ w44.cell? ⟨ad297.block, ad297.off + 1, none⟩ = some (.int .i64 ((rd_T46 (rd_L2 x3_1 (ji25)) 0).f1)) ∧ w44.cell? (ad296.add ((ji25)).toNat) = some (.slice (some ad297) (rd_L2 x3_1 (ji25)).length c296_0) ∧ w44.cell? (ad296.add ((ji25)).toNat) = some (.slice (some ad297) (rd_L2 x3_1 (ji25)).length c296_0) ∧ w44.cell? (ad297.add (((ji29)).toNat * 2)) = some (.int .i64 ((rd_T46 (rd_L2 x3_1 (ji25)) (ji29)).f0)) ∧ w44.cell? ⟨(ad297.add (((ji29)).toNat * 2)).block, (ad297.add (((ji29)).toNat * 2)).off + 1, none⟩ = some (.int .i64 ((rd_T46 (rd_L2 x3_1 (ji25)) (ji29)).f1)) := hS_
   refine norm_ (a' := ?_) ?_ ?_
   rotate_left
   ·simp only [putAll, Act.put, List.setIfInBounds_toArray, List.set_cons_zero, List.set_cons_succ]
    rfl
   refine one_ (i := 17) (N := none) y9_39 rfl rfl (one_of HT_.out (by kernel_rfl)) (by decide) (fun K hK => ?_)
   have hs45 : w44.cell? ⟨gb301, 0, none⟩ = some (.int .i64 0) := (blk_cell BK301.out 0).trans rfl
   have hfs45 := blk_frozen BK301.out 0
   have hns45_0 := NB276_301.out; have hns45_2 := NB302_301.out; have hms45_0 := NB301_276.out; have hms45_2 := NB301_302.out
   have hs46 : w44.cell? ⟨gb301, 1, none⟩ = some (.int .i64 0) := (blk_cell BK301.out 1).trans rfl
   have hfs46 := blk_frozen BK301.out 1
   have hns46_0 := NB276_301.out; have hns46_2 := NB302_301.out; have hms46_0 := NB301_276.out; have hms46_2 := NB301_302.out
   refine skip_ (w1 := ?_) ?hwx ?hN ?_ ?_; (case hwx => rfl); (case hN => rfl)
   rotate_left
   ·go_simp
    rfl
   refine hK.out _ _ ⟨(by refine (cell_far (p := ⟨gb301, _, none⟩) ?_ _).trans ((cell_far (p := ⟨gb301, _, none⟩) ?_ _).trans (hHeld.1)) <;> ((try dsimp only); exact z9_39)), (by refine (cell_far (p := ⟨gb301, _, none⟩) ?_ _).trans ((cell_far (p := ⟨gb301, _, none⟩) ?_ _).trans (hHeld.2.1)) <;> ((try dsimp only); exact z9_42)), (by refine (cell_far (p := ⟨gb301, _, none⟩) ?_ _).trans ((cell_far (p := ⟨gb301, _, none⟩) ?_ _).trans (hHeld.2.2.1)) <;> ((try dsimp only); exact z9_42)), (by refine (cell_far (p := ⟨gb301, _, none⟩) ?_ _).trans ((cell_far (p := ⟨gb301, _, none⟩) ?_ _).trans (hHeld.2.2.2.1)) <;> ((try dsimp only); exact z9_39)), (by refine (cell_far (p := ⟨gb301, _, none⟩) ?_ _).trans ((cell_far (p := ⟨gb301, _, none⟩) ?_ _).trans (hHeld.2.2.2.2.1)) <;> ((try dsimp only); exact z9_39)), (by refine (cell_far (p := ⟨gb301, _, none⟩) ?_ _).trans ((cell_far (p := ⟨gb301, _, none⟩) ?_ _).trans (hHeld.2.2.2.2.2.1)) <;> ((try dsimp only); exact z9_43)), (by refine (cell_far (p := ⟨gb301, _, none⟩) ?_ _).trans ((cell_far (p := ⟨gb301, _, none⟩) ?_ _).trans (hHeld.2.2.2.2.2.2)) <;> ((try dsimp only); exact z9_43))⟩ (fun hHeld => ?_)
   clear hK K
   refine one_ (i := 18) (N := none) y9_40 rfl rfl (one_of HT_.out (by kernel_rfl)) (by decide) (fun K hK => ?_)
   have hs47 : w44.cell? ⟨gb302, 0, none⟩ = some (.int .i64 0) := (blk_cell BK302.out 0).trans rfl
   have hfs47 := blk_frozen BK302.out 0
   have hns47_0 := NB276_302.out; have hns47_1 := NB301_302.out; have hms47_0 := NB302_276.out; have hms47_1 := NB302_301.out
   have hs48 : w44.cell? ⟨gb302, 1, none⟩ = some (.int .i64 0) := (blk_cell BK302.out 1).trans rfl
   have hfs48 := blk_frozen BK302.out 1
   have hns48_0 := NB276_302.out; have hns48_1 := NB301_302.out; have hms48_0 := NB302_276.out; have hms48_1 := NB302_301.out
   refine skip_ (w1 := ?_) ?hwx ?hN ?_ ?_; (case hwx => rfl); (case hN => rfl)
   rotate_left
   ·go_simp
    rfl
   refine hK.out _ _ ⟨(by refine (cell_far (p := ⟨gb302, _, none⟩) ?_ _).trans ((cell_far (p := ⟨gb302, _, none⟩) ?_ _).trans (hHeld.1)) <;> ((try dsimp only); exact z9_40)), (by refine (cell_far (p := ⟨gb302, _, none⟩) ?_ _).trans ((cell_far (p := ⟨gb302, _, none⟩) ?_ _).trans (hHeld.2.1)) <;> ((try dsimp only); exact z9_44)), (by refine (cell_far (p := ⟨gb302, _, none⟩) ?_ _).trans ((cell_far (p := ⟨gb302, _, none⟩) ?_ _).trans (hHeld.2.2.1)) <;> ((try dsimp only); exact z9_44)), (by refine (cell_far (p := ⟨gb302, _, none⟩) ?_ _).trans ((cell_far (p := ⟨gb302, _, none⟩) ?_ _).trans (hHeld.2.2.2.1)) <;> ((try dsimp only); exact z9_40)), (by refine (cell_far (p := ⟨gb302, _, none⟩) ?_ _).trans ((cell_far (p := ⟨gb302, _, none⟩) ?_ _).trans (hHeld.2.2.2.2.1)) <;> ((try dsimp only); exact z9_40)), (by refine (cell_far (p := ⟨gb302, _, none⟩) ?_ _).trans ((cell_far (p := ⟨gb302, _, none⟩) ?_ _).trans (hHeld.2.2.2.2.2.1)) <;> ((try dsimp only); exact z9_45)), (by refine (cell_far (p := ⟨gb302, _, none⟩) ?_ _).trans ((cell_far (p := ⟨gb302, _, none⟩) ?_ _).trans (hHeld.2.2.2.2.2.2)) <;> ((try dsimp only); exact z9_45))⟩ (fun hHeld => ?_)
   clear hK K
   refine done_ (done_of HT_.out (by kernel_rfl)) ?_
   have hnb49 := NB301_276.out; have hnc49 := NB276_301.out; have hnb50 := NB301_302.out; have hnc50 := NB302_301.out
   obtain ⟨_, _, _, _⟩ := be_2 BK301.out
   have hnb52 := NB302_276.out; have hnc52 := NB276_302.out
   obtain ⟨_, _, _, _⟩ := be_2 BK302.out
   try go_wp2
   obtain ⟨w54, hw_⟩ : ∃ w_ : World, w_ = ((((w44.setCell ⟨gb301, 0, none⟩ (.int .i64 ((rd_T46 (rd_L2 x3_1 (ji25)) 0).f0))).setCell ⟨gb301, 1, none⟩ (.int .i64 ((rd_T46 (rd_L2 x3_1 (ji25)) 0).f1))).setCell ⟨gb302, 0, none⟩ (.int .i64 ((rd_T46 (rd_L2 x3_1 (ji25)) (ji29)).f0))).setCell ⟨gb302, 1, none⟩ (.int .i64 ((rd_T46 (rd_L2 x3_1 (ji25)) (ji29)).f1))) := ⟨_, rfl⟩
   have n0_ : Aside0 (Kd.S (Kd.slice 46 k46) 29 w54 w.heap.size (fun k_ => (w.heap.size ≤ k_) ∧ k_ ≠ gb301 ∧ k_ ≠ gb302) (.slice (some ad296) x3_1.length co40) x3_1) := ⟨z9_57⟩
   have n1_ : Aside0 (Kd.V k46 46 w54 w.heap.size (fun k_ => ((P0_1_ k_) ∧ k_ < w.heap.size) ∧ some k_ ≠ (.slice (some ad296) x3_1.length co40 : Value).ownBlock ∧ k_ ≠ gb276 ∧ k_ ≠ gb301 ∧ k_ ≠ gb302) (.slice Ao38 x4_1.length co38) x4_1) := ⟨z9_53⟩
   have n2_ : Aside0 (Kd.V k46 46 w54 w.heap.size (fun k_ => ((P0_1_ k_) ∧ k_ < w.heap.size) ∧ some k_ ≠ (.slice (some ad296) x3_1.length co40 : Value).ownBlock ∧ k_ ≠ gb276 ∧ k_ ≠ gb301 ∧ k_ ≠ gb302) (.slice A0_1 l0_1.length c0_1) l0_1) := ⟨z9_49⟩
   have n3_ : Aside0 (Kd.V k46 46 w54 w.heap.size (fun k_ => ((P0_1_ k_) ∧ k_ < w.heap.size) ∧ some k_ ≠ (.slice (some ad296) x3_1.length co40 : Value).ownBlock ∧ k_ ≠ gb276 ∧ k_ ≠ gb301 ∧ k_ ≠ gb302) (.slice Ao38 y280.length co38) y280) := ⟨z9_51⟩
   have n4_ : Aside0 (Kd.V k46 46 w54 w.heap.size (fun k_ => ((P0_1_ k_) ∧ k_ < w.heap.size) ∧ some k_ ≠ (.slice (some ad296) x3_1.length co40 : Value).ownBlock ∧ k_ ≠ gb276 ∧ k_ ≠ gb301 ∧ k_ ≠ gb302) (.slice A39 y285.length c39) y285) := ⟨z9_52⟩
   have n5_ : Aside0 (Kd.R k46 46 w54 w.heap.size (fun k_ => (w.heap.size ≤ k_) ∧ some k_ ≠ (.slice (some ad296) x3_1.length co40 : Value).ownBlock ∧ k_ ≠ gb301 ∧ k_ ≠ gb302) (.slice (some ad297) (rd_L2 x3_1 (ji25)).length c296_0) (rd_L2 x3_1 (ji25))) := ⟨z9_54⟩
   have n6_ : Aside0 (Kd.R k46 46 w54 w.heap.size (fun k_ => (w.heap.size ≤ k_) ∧ some k_ ≠ (.slice (some ad296) x3_1.length co40 : Value).ownBlock ∧ k_ ≠ gb301 ∧ k_ ≠ gb302) (.slice (some ad297) (rd_L2 x3_1 (ji25)).length c296_0) (rd_L2 x3_1 (ji25))) := ⟨z9_55⟩
   have n7_ : Aside0 (Kd.R k46 46 w54 w.heap.size (fun k_ => (w.heap.size ≤ k_) ∧ some k_ ≠ (.slice (some ad296) x3_1.length co40 : Value).ownBlock ∧ k_ ≠ gb301 ∧ k_ ≠ gb302) (.slice (some ad297) (rd_L2 x3_1 (ji25)).length c296_0) (rd_L2 x3_1 (ji25))) := ⟨z9_56⟩
   have n8_ : Aside0 (w54.heap[gb276]? = some (.cells #[.slice (some ad278) l0_0.length c0_0, .slice A0_1 l0_1.length c0_1] 31 (0, 0))) := ⟨z9_58⟩
   have n9_ : Aside0 (w54.heap[gb301]? = some (.cells #[.int .i64 ((rd_T46 (rd_L2 x3_1 (ji25)) 0).f0), .int .i64 ((rd_T46 (rd_L2 x3_1 (ji25)) 0).f1)] 46 (0, 0))) := ⟨z9_50⟩
   have n10_ : Aside0 (w54.heap[gb302]? = some (.cells #[.int .i64 ((rd_T46 (rd_L2 x3_1 (ji25)) (ji29)).f0), .int .i64 ((rd_T46 (rd_L2 x3_1 (ji25)) (ji29)).f1)] 46 (0, 0))) := ⟨z9_48⟩
   have n11_ : Aside0 (Below w.heap.size w w54) := ⟨(by rw [hw_]; exact z9_34)⟩
   (try clear HO_3); (try clear HO_4); (try clear HO_277001); (try clear HO284); (try clear HO289); (try clear HL296_0); (try clear HL298_0); (try clear HL299_0); (try clear BK276); (try clear BK301); (try clear BK302); (try clear HB)
   rw [← hw_]; clear hw_; have HO_3 := n0_; have HO_4 := n1_; have HO_277001 := n2_; have HO284 := n3_; have HO289 := n4_; have HL296_0 := n5_; have HL298_0 := n6_; have HL299_0 := n7_; have BK276 := n8_; have BK301 := n9_; have BK302 := n10_; have HB := n11_; clear n0_ n1_ n2_ n3_ n4_ n5_ n6_ n7_ n8_ n9_ n10_ n11_
   have n0_ := mk0 (Kd.S_drew HO_3.out)
   have n1_ := mk0 (Kd.V_drew HO_4.out)
   have n2_ := mk0 (Kd.V_drew HO_277001.out)
   have n3_ := mk0 (Kd.V_drew HO284.out)
   have n4_ := mk0 (Kd.V_drew HO289.out)
   have n5_ := mk0 (Kd.R_drew HL296_0.out)
   have n6_ := mk0 (Kd.R_drew HL298_0.out)
   have n7_ := mk0 (Kd.R_drew HL299_0.out)
   have n8_ := mk0 (blk_drew BK276.out)
   have n9_ := mk0 (blk_drew BK301.out)
   have n10_ := mk0 (blk_drew BK302.out)
   have n11_ := mk0 (below_drew1 HB.out)
   clear HO_3 HO_4 HO_277001 HO284 HO289 HL296_0 HL298_0 HL299_0 BK276 BK301 BK302 HB; have HO_3 := n0_; have HO_4 := n1_; have HO_277001 := n2_; have HO284 := n3_; have HO289 := n4_; have HL296_0 := n5_; have HL298_0 := n6_; have HL299_0 := n7_; have BK276 := n8_; have BK301 := n9_; have BK302 := n10_; have HB := n11_; clear n0_ n1_ n2_ n3_ n4_ n5_ n6_ n7_ n8_ n9_ n10_ n11_
   have p303 : 0 ≤ ((ji25) : Int) := of_decide_eq_true (by first | (with_reducible assumption) | assumption)
   have q303 : (ji25) < (x3_1.length : Int) := of_decide_eq_true (by first | (with_reducible assumption) | assumption)
   obtain ⟨ad303, A303_0, c303_0, e303, hx303_0, hl303_0, hi303_0⟩ := at_L2 (Kd.S_reads' HO_3.out).2.2 (ji25) p303 q303
   obtain rfl : ad296 = ad303 := (by injection e303)
   obtain ⟨ce303, hce303, hMe303, hcc303⟩ := Kd.S_get HO_3.out [] (ji25) p303 (by first | exact q303 | exact of_decide_eq_true (by first | (with_reducible assumption) | assumption) | (have e_ := (Kd.S_reads' HO_3.out).1; omega))
   obtain ⟨ve303_0, rfl, ge303_0⟩ := hMe303
   have hv303_0 := hcc303 0 _ rfl
   rw [Nat.add_zero, show ((Kd.slice 46 k46)).sz = 1 from rfl, Nat.mul_one] at hv303_0
   replace hv303_0 := Option.some.inj (hv303_0.symm.trans hx303_0)
   rw [hv303_0] at ge303_0
   have HL303_0 := mk0 (show Kd.R k46 46 _ _ _ _ (rd_L2 x3_1 (ji25)) from ge303_0)
   clear hv303_0 ge303_0
   have HX303_0 := mk0 hx303_0
   clear hcc303 hce303
   have HR303_0 := mk0 hi303_0
   have HC303_0 := mk0 hl303_0
   clear hi303_0 hl303_0
   replace p303 := eq_true p303
   replace q303 := eq_true q303
   obtain ⟨go56, co56, eo56, gb56, gl56, cl56, HG56⟩ := Kd.S_form HO_3.out (by have h_ : ((ji25) : Int) < ((x3_1.length : Int) : Int) := of_decide_eq_true (by first | (with_reducible assumption) | assumption); have h2_ : 0 ≤ ((ji25) : Int) := (of_decide_eq_true (by first | (with_reducible assumption) | assumption)); omega)
   (first | cases eo56 | (injection eo56 with ea_ en_ ec_; (first | subst ea_ | (injection ea_ with ea_; subst ea_)); subst ec_; clear en_))
   have GB56 := mk0 gb56
   have GG56 := mk0 HG56
   clear gb56 gl56 HG56
   (first | simp only [add_plain] at hx296_0 | skip)
   (first | simp only [add_plain] at hx298_0 | skip)
   (first | simp only [add_plain] at hx299_0 | skip)
   (first | simp only [add_plain] at hx303_0 | skip)
   obtain ⟨oki56, ce56, hcl56, hM56, hcc56, _, _, hH56⟩ := Kd.S_elem HO_3.out [] ((ji25) : Int) (of_decide_eq_true (by first | (with_reducible assumption) | assumption)) (by have h_ : ((ji25) : Int) < ((x3_1.length : Int) : Int) := of_decide_eq_true (by first | (with_reducible assumption) | assumption); first | exact h_ | (have e_ := (Kd.S_reads' HO_3.out).1; omega) | simpa using h_)
   obtain ⟨ve56_0, rfl, ge56_0⟩ := hM56
   have hv56 := hcc56 0 _ rfl
   have hX56 := HX303_0.out
   (try simp only [add_plain] at hX56)
   (try simp only [Nat.add_zero] at hv56)
   (try rw [show ((Kd.slice 46 k46)).sz = 1 from rfl, Nat.mul_one] at hv56)
   replace hv56 := Option.some.inj (hv56.symm.trans hX56)
   subst hv56; clear hX56 hcc56 hcl56
   have UU56 := mk0 (show Kd.R k46 46 _ w.heap.size oki56 (.slice A303_0 (rd_L2 x3_1 (ji25)).length c303_0) (rd_L2 x3_1 (ji25)) from ge56_0)
   have HH56 := mk0 hH56
   have HN56 := mk0 (Kd.S_reads' HO_3.out).1
   clear hH56 ge56_0
   refine start_ (n := 9) (S := fun w' => w'.cell? ⟨gb301, 0, none⟩ = some (.int .i64 ((rd_T46 (rd_L2 x3_1 (ji25)) 0).f0)) ∧ w'.cell? ⟨gb301, 1, none⟩ = some (.int .i64 ((rd_T46 (rd_L2 x3_1 (ji25)) 0).f1)) ∧ w'.cell? ⟨go56, ((ji25)).toNat, none⟩ = some (.slice A303_0 (rd_L2 x3_1 (ji25)).length c303_0)) (ds := [8]) #[false, false, false, false, false, false, false, false, false] (by kernel_rfl) rfl rfl ⟨(blk_cell BK301.out 0).trans rfl, (blk_cell BK301.out 1).trans rfl, hx303_0⟩ (fun hHeld => ?_); refine with_tabW impl_FlatOf.tab16 impl_FlatOf.bits16 (fun HT_ HW_ => ?_)
   generalize w54.drew = w55 at HO_3 HO_4 HO_277001 HO284 HO289 HL296_0 HL298_0 HL299_0 BK276 BK301 BK302 HB GG56 HH56 HL303_0 HR303_0 HX303_0 UU56 hx296_0 hx298_0 hx299_0 hx303_0 hHeld ⊢
   refine pzv (i := 0) (N := 68) (v := ?_) (a' := ?_) (bA 9 1) HT_ ?_ ?_ ?_
   rotate_left
   ·intro w'
    go_simp; with_reducible rfl
   rotate_left
   ·exact x9_put
   refine pzv (i := 1) (N := 69) (v := ?_) (a' := ?_) (bA 9 3) HT_ ?_ ?_ ?_
   rotate_left
   ·intro w'
    go_simp; with_reducible rfl
   rotate_left
   ·exact x9_put
   refine pzv (i := 2) (N := 70) (v := ?_) (a' := ?_) (bA 9 7) HT_ ?_ ?_ ?_
   rotate_left
   ·intro w'
    go_simp; with_reducible rfl
   rotate_left
   ·exact x9_put
   refine take_ (i := 3) (N := some 71) (v := ?_) (a' := ?_) (bA 9 15) rfl rfl (take_ofW HT_.out HW_.out (by kernel_rfl)) (fun _ _ _ h => h) (Or.inl ⟨by rfl, ?_⟩) hHeld ?_ ?_
   rotate_left
   ·rintro w' ⟨s0, s1, s2⟩
    go_simp; with_reducible rfl
   rotate_left
   ·exact x9_put
   refine take_ (i := 4) (N := some 72) (v := ?_) (a' := ?_) (bA 9 31) rfl rfl (take_ofW HT_.out HW_.out (by kernel_rfl)) (fun _ _ _ h => h) (Or.inl ⟨by rfl, ?_⟩) hHeld ?_ ?_
   rotate_left
   ·rintro w' ⟨s0, s1, s2⟩
    go_simp; with_reducible rfl
   rotate_left
   ·exact x9_put
   refine one_ (i := 5) (N := some 73) (bA 9 63) rfl rfl (one_of HT_.out (by kernel_rfl)) (by decide) (fun K hK => ?_)
   refine value_ (w1 := ?_) (v := ?_) (by rfl) rfl ?_ ?_
   rotate_left 2
   ·go_simp
    constructor
    ·rfl
    rfl
   refine hK.out _ _ ⟨(blk_cell (blk_alloc BK301.out _) 0).trans rfl, (blk_cell (blk_alloc BK301.out _) 1).trans rfl, (World.cell?_alloc_lt _ _ _ (World.block_lt_of_cell? _ _ (hHeld.2.2))).trans (hHeld.2.2)⟩ (fun hHeld => ?_)
   clear hK K
   refine norm_ (a' := ?_) ?_ ?_
   rotate_left
   ·show Act.put _ (some 73) _ = _
    simp only [Act.put, List.setIfInBounds_toArray, List.set_cons_zero, List.set_cons_succ, i64_w, i32_w]
    rfl
   refine one_ (i := 6) (N := some 74) (bA 9 127) rfl rfl (one_of HT_.out (by kernel_rfl)) (by decide) (fun K hK => ?_)
   refine Kd.R_append_step k46 (w0 := w) w.heap.size (by rfl) (.tmp 71) (.tmp 73) 29 46 (.agg #[(.int .i64 0), (.int .i64 0)]) 16 rfl Try.underlying29 info46 rfl (by decide) (by omega) (.slice A303_0 (rd_L2 x3_1 (ji25)).length c303_0) (rd_L2 x3_1 (ji25)) (⟨(rd_T46 (rd_L2 x3_1 (ji25)) 0).f0, (rd_T46 (rd_L2 x3_1 (ji25)) 0).f1⟩ : S46) [.int .i64 ((rd_T46 (rd_L2 x3_1 (ji25)) 0).f0), .int .i64 ((rd_T46 (rd_L2 x3_1 (ji25)) 0).f1)] (fun k_ => oki56 k_ ∨ ((fun k_ => (w.heap.size ≤ k_) ∧ k_ ≠ gb301 ∧ k_ ≠ gb302)) k_ ∧ w55.heap.size ≤ k_) (fun _ => False) rfl rfl ?aP (fun _ hk => hk.elim) ?aF ?aO ?aB ?aS ?aL ?_
   (case aP => exact k46_mkM _ _ _ (⟨(rd_T46 (rd_L2 x3_1 (ji25)) 0).f0, (rd_T46 (rd_L2 x3_1 (ji25)) 0).f1⟩ : S46))
   (case aB => exact z9_34)
   (case aF => exact (fun k_ hk => .inr ⟨⟨(Nat.le_trans (below_size z9_34) hk), Kd.freshB (g := gb301) (o := .cells #[.int .i64 ((rd_T46 (rd_L2 x3_1 (ji25)) 0).f0), .int .i64 ((rd_T46 (rd_L2 x3_1 (ji25)) 0).f1)] 46 (0, 0)) (pkb BK301) k_ hk, Kd.freshB (g := gb302) (o := .cells #[.int .i64 ((rd_T46 (rd_L2 x3_1 (ji25)) (ji29)).f0), .int .i64 ((rd_T46 (rd_L2 x3_1 (ji25)) (ji29)).f1)] 46 (0, 0)) (pkb BK302) k_ hk⟩, hk⟩))
   (case aO => exact (by (with_reducible repeat (first | apply Kd.R_alloc | apply Kd.R_drewN | apply Kd.R_drew)); exact Kd.R_mono UU56.out (fun _ hk => .inl hk)))
   (case aS => exact (below_size z9_34))
   (case aL => have := LMc34.out; omega)
   intro v305 w57 ho hb hg hat
   (first | have HS2_ := cell_grown hg (hHeld.2.2) z9_94 | have HS2_ := cell_grown hg (cell_unalloc (hHeld.2.2) z9_62) z9_94)
   rw [← Ny304.out] at ho
   have n0_ := mk0 (Kd.V_grown (pkV HO_4) hg z9_93)
   have n1_ := mk0 (Kd.V_grown (pkV HO_277001) hg z9_93)
   have n2_ := mk0 (blk_grown (g := gb276) (o := .cells #[.slice (some ad278) l0_0.length c0_0, .slice A0_1 l0_1.length c0_1] 31 (0, 0)) (pkb BK276) hg (Kd.R_ne HL303_0.out BK276.out (by decide)))
   have n3_ := mk0 (Kd.V_grown (pkV HO284) hg z9_93)
   have n4_ := mk0 (Kd.V_grown (pkV HO289) hg z9_93)
   have n5_ := mk0 (blk_grown (g := gb301) (o := .cells #[.int .i64 ((rd_T46 (rd_L2 x3_1 (ji25)) 0).f0), .int .i64 ((rd_T46 (rd_L2 x3_1 (ji25)) 0).f1)] 46 (0, 0)) (pkb BK301) hg (Kd.R_away HL303_0.out (fun _ hk => hk.1.2.1)))
   have n6_ := mk0 (blk_grown (g := gb302) (o := .cells #[.int .i64 ((rd_T46 (rd_L2 x3_1 (ji25)) (ji29)).f0), .int .i64 ((rd_T46 (rd_L2 x3_1 (ji25)) (ji29)).f1)] 46 (0, 0)) (pkb BK302) hg (Kd.R_away HL303_0.out (fun _ hk => hk.1.2.2)))
   have n7_ := mk0 (hb)
   have n8_ := mk0 (Kd.H_grown (Kd.H_widen (by repeat (first | exact HH56.out | refine Kd.H_alloc ?_ _ | refine Kd.H_drewN ?_ _ | refine Kd.H_drew ?_))) hg (fun k_ e_ => .inl (UU56.out.1 k_ e_)))
   have n9_ := mk0 (ho)
   clear HO_4 HO_277001 BK276 HO284 HO289 BK301 BK302 HB HH56 HO_3 UU56 HL296_0 HL298_0 HL299_0 HL303_0; have HO_4 := n0_; have HO_277001 := n1_; have BK276 := n2_; have HO284 := n3_; have HO289 := n4_; have BK301 := n5_; have BK302 := n6_; have HB := n7_; have HH56 := n8_; have HO306 := n9_; clear n0_ n1_ n2_ n3_ n4_ n5_ n6_ n7_ n8_ n9_ ho hb hg hat
   obtain ⟨Ao60, co60, eo60⟩ := Kd.R_slice HO306.out
   (first | subst eo60 | (injection eo60 with f1_ f2_ f3_; have f4_ := f1_.symm; have f5_ := f3_.symm; clear f1_ f2_ f3_; subst f4_; subst f5_))
   obtain ⟨_, _, hraw58, _, _, hcc58, _⟩ := Kd.H_raw HH56.out (of_decide_eq_true (by first | (with_reducible assumption) | assumption)) (by have h_ : ((ji25) : Int) < ((x3_1.length : Int) : Int) := of_decide_eq_true (by first | (with_reducible assumption) | assumption); first | exact h_ | (have e_ := (HN56.out); omega) | simpa using h_)
   obtain ⟨_, hfr58⟩ := Kd.H_at HH56.out (of_decide_eq_true (by first | (with_reducible assumption) | assumption)) (by have h_ : ((ji25) : Int) < ((x3_1.length : Int) : Int) := of_decide_eq_true (by first | (with_reducible assumption) | assumption); first | exact h_ | (have e_ := (HN56.out); omega) | simpa using h_)
   have hx58_0 := hcc58 0 _ rfl
   have hf58_0 := hfr58 0
   (try simp only [Nat.add_zero] at hx58_0 hf58_0)
   (try rw [show ((Kd.slice 46 k46)).sz = 1 from rfl, Nat.mul_one] at hx58_0)
   (try rw [show ((Kd.slice 46 k46)).sz = 1 from rfl, Nat.mul_one] at hf58_0)
   have HP58 := Kd.S_seg0 HH56.out (of_decide_eq_true (by first | (with_reducible assumption) | assumption)) (by have h_ : ((ji25) : Int) < ((x3_1.length : Int) : Int) := of_decide_eq_true (by first | (with_reducible assumption) | assumption); first | exact h_ | (have e_ := (HN56.out); omega) | simpa using h_) (seg := [.slice Ao60 y304.length co60]) (j := 0) (show 1 ≤ 1 from by decide) (x' := y304) (Kd.M_row HO306.out) (fun _ hk => hk)
   (try simp only [show ((Kd.slice 46 k46)).sz = 1 from rfl, Nat.mul_one, Nat.add_zero] at HP58)
   clear hcc58 hfr58
   have HNB276_go56 := mk0 (show gb276 ≠ go56 from by have h_ := Kd.R_ne hraw58 BK276.out (by decide); intro e_; exact h_ (by rw [e_]; rfl))
   have HNB301_go56 := mk0 (show gb301 ≠ go56 from by have h_ := Kd.R_ne hraw58 BK301.out (by decide); intro e_; exact h_ (by rw [e_]; rfl))
   have HNB302_go56 := mk0 (show gb302 ≠ go56 from by have h_ := Kd.R_ne hraw58 BK302.out (by decide); intro e_; exact h_ (by rw [e_]; rfl))
   have HS58 := HP58.1
   rw [← Ny307.out] at HS58
   have HQ58 := mk0 HS58
   obtain ⟨_, hgg58⟩ := Kd.R_typed hraw58 go56 rfl
   have GG58_ := mk0 hgg58
   clear HP58 HS58 hgg58
   refine hK.out _ _ ⟨(blk_cell BK301.out 0).trans rfl, (blk_cell BK301.out 1).trans rfl, HS2_⟩ (fun hHeld => ?_)
   clear hK K
   refine norm_ (a' := ?_) ?_ ?_
   rotate_left
   ·show Act.put _ (some 74) _ = _
    simp only [Act.put, List.setIfInBounds_toArray, List.set_cons_zero, List.set_cons_succ, i64_w, i32_w]
    rfl
   refine pzv (i := 7) (N := 75) (v := ?_) (a' := ?_) (bA 9 255) HT_ ?_ ?_ ?_
   rotate_left
   ·intro w'
    go_simp; with_reducible rfl
   rotate_left
   ·exact x9_put
   refine last_ (i := 8) (N := none) (bA 9 511) rfl rfl (one_of HT_.out (by kernel_rfl)) (by decide) (fun K hK => ?_)
   refine skip_ (w1 := ?_) ?hwx ?hN ?_ ?_; (case hwx => rfl); (case hN => rfl)
   rotate_left
   ·go_simp
    rfl
   refine hK.out _ _ ?_
   clear hK K
   refine done_ (done_of HT_.out (by kernel_rfl)) ?_
   try go_wp2
   obtain ⟨w61, hw_⟩ : ∃ w_ : World, w_ = (w57.setCell ⟨go56, ((ji25) : Int).toNat, none⟩ (.slice Ao60 y304.length co60)) := ⟨_, rfl⟩
   have n0_ : Aside0 (Kd.V k46 46 w61 w.heap.size (fun k_ => ((P0_1_ k_) ∧ k_ < w.heap.size) ∧ some k_ ≠ (.slice (some ⟨go56, 0, none⟩) x3_1.length co40 : Value).ownBlock ∧ k_ ≠ gb276 ∧ k_ ≠ gb301 ∧ k_ ≠ gb302) (.slice Ao38 x4_1.length co38) x4_1) := ⟨(by rw [hw_]; exact (by (with_reducible repeat (first | apply Kd.V_alloc | apply Kd.V_drewN | apply Kd.V_drew)); exact Kd.V_mono (Kd.V_far (p := ⟨go56, ((ji25) : Int).toNat, none⟩) (Kd.V_mono HO_4.out (fun k_ hk => (⟨hk, fun e_ => hk.2.1 (by rw [e_]; rfl)⟩ : _ ∧ k_ ≠ go56))) (fun _ hk => hk.2) (.slice Ao60 y304.length co60)) (fun _ hk => ⟨hk.1.1, ⟨hk.1.2.1, ⟨hk.1.2.2.1, ⟨hk.1.2.2.2.1, hk.1.2.2.2.2⟩⟩⟩⟩)))⟩
   have n1_ : Aside0 (Kd.V k46 46 w61 w.heap.size (fun k_ => ((P0_1_ k_) ∧ k_ < w.heap.size) ∧ some k_ ≠ (.slice (some ⟨go56, 0, none⟩) x3_1.length co40 : Value).ownBlock ∧ k_ ≠ gb276 ∧ k_ ≠ gb301 ∧ k_ ≠ gb302) (.slice A0_1 l0_1.length c0_1) l0_1) := ⟨(by rw [hw_]; exact (by (with_reducible repeat (first | apply Kd.V_alloc | apply Kd.V_drewN | apply Kd.V_drew)); exact Kd.V_mono (Kd.V_far (p := ⟨go56, ((ji25) : Int).toNat, none⟩) (Kd.V_mono HO_277001.out (fun k_ hk => (⟨hk, fun e_ => hk.2.1 (by rw [e_]; rfl)⟩ : _ ∧ k_ ≠ go56))) (fun _ hk => hk.2) (.slice Ao60 y304.length co60)) (fun _ hk => ⟨hk.1.1, ⟨hk.1.2.1, ⟨hk.1.2.2.1, ⟨hk.1.2.2.2.1, hk.1.2.2.2.2⟩⟩⟩⟩)))⟩
   have n2_ : Aside0 (Kd.V k46 46 w61 w.heap.size (fun k_ => ((P0_1_ k_) ∧ k_ < w.heap.size) ∧ some k_ ≠ (.slice (some ⟨go56, 0, none⟩) x3_1.length co40 : Value).ownBlock ∧ k_ ≠ gb276 ∧ k_ ≠ gb301 ∧ k_ ≠ gb302) (.slice Ao38 y280.length co38) y280) := ⟨(by rw [hw_]; exact (by (with_reducible repeat (first | apply Kd.V_alloc | apply Kd.V_drewN | apply Kd.V_drew)); exact Kd.V_mono (Kd.V_far (p := ⟨go56, ((ji25) : Int).toNat, none⟩) (Kd.V_mono HO284.out (fun k_ hk => (⟨hk, fun e_ => hk.2.1 (by rw [e_]; rfl)⟩ : _ ∧ k_ ≠ go56))) (fun _ hk => hk.2) (.slice Ao60 y304.length co60)) (fun _ hk => ⟨hk.1.1, ⟨hk.1.2.1, ⟨hk.1.2.2.1, ⟨hk.1.2.2.2.1, hk.1.2.2.2.2⟩⟩⟩⟩)))⟩
   have n3_ : Aside0 (Kd.V k46 46 w61 w.heap.size (fun k_ => ((P0_1_ k_) ∧ k_ < w.heap.size) ∧ some k_ ≠ (.slice (some ⟨go56, 0, none⟩) x3_1.length co40 : Value).ownBlock ∧ k_ ≠ gb276 ∧ k_ ≠ gb301 ∧ k_ ≠ gb302) (.slice A39 y285.length c39) y285) := ⟨(by rw [hw_]; exact (by (with_reducible repeat (first | apply Kd.V_alloc | apply Kd.V_drewN | apply Kd.V_drew)); exact Kd.V_mono (Kd.V_far (p := ⟨go56, ((ji25) : Int).toNat, none⟩) (Kd.V_mono HO289.out (fun k_ hk => (⟨hk, fun e_ => hk.2.1 (by rw [e_]; rfl)⟩ : _ ∧ k_ ≠ go56))) (fun _ hk => hk.2) (.slice Ao60 y304.length co60)) (fun _ hk => ⟨hk.1.1, ⟨hk.1.2.1, ⟨hk.1.2.2.1, ⟨hk.1.2.2.2.1, hk.1.2.2.2.2⟩⟩⟩⟩)))⟩
   have n4_ : Aside0 (Kd.S (Kd.slice 46 k46) 29 w61 w.heap.size (fun k_ => (w.heap.size ≤ k_) ∧ k_ ≠ gb301 ∧ k_ ≠ gb302) (.slice (some ⟨go56, 0, none⟩) x3_1.length co40) y307) := ⟨(by rw [hw_]; exact pkS HQ58)⟩
   have n5_ : Aside0 (w61.heap[gb276]? = some (.cells #[.slice (some ad278) l0_0.length c0_0, .slice A0_1 l0_1.length c0_1] 31 (0, 0))) := ⟨(by rw [hw_]; exact z9_86)⟩
   have n6_ : Aside0 (w61.heap[gb301]? = some (.cells #[.int .i64 ((rd_T46 (rd_L2 x3_1 (ji25)) 0).f0), .int .i64 ((rd_T46 (rd_L2 x3_1 (ji25)) 0).f1)] 46 (0, 0))) := ⟨(by rw [hw_]; exact (by (with_reducible repeat (first | refine blk_drewN ?_ _ | refine blk_drew ?_ | refine blk_alloc ?_ _)); refine blk_far ?_ HNB301_go56.out _; (with_reducible repeat (first | refine blk_drewN ?_ _ | refine blk_drew ?_ | refine blk_alloc ?_ _)); exact BK301.out))⟩
   have n7_ : Aside0 (w61.heap[gb302]? = some (.cells #[.int .i64 ((rd_T46 (rd_L2 x3_1 (ji25)) (ji29)).f0), .int .i64 ((rd_T46 (rd_L2 x3_1 (ji25)) (ji29)).f1)] 46 (0, 0))) := ⟨(by rw [hw_]; exact (by (with_reducible repeat (first | refine blk_drewN ?_ _ | refine blk_drew ?_ | refine blk_alloc ?_ _)); refine blk_far ?_ HNB302_go56.out _; (with_reducible repeat (first | refine blk_drewN ?_ _ | refine blk_drew ?_ | refine blk_alloc ?_ _)); exact BK302.out))⟩
   have n8_ : Aside0 (Below w.heap.size w w61) := ⟨(by rw [hw_]; exact z9_85)⟩
   (try clear HO_4); (try clear HO_277001); (try clear HO284); (try clear HO289); (try clear HO_3); (try clear BK276); (try clear BK301); (try clear BK302); (try clear HB)
   rw [← hw_]; clear hw_; have HO_4 := n0_; have HO_277001 := n1_; have HO284 := n2_; have HO289 := n3_; have HO_3 := n4_; have BK276 := n5_; have BK301 := n6_; have BK302 := n7_; have HB := n8_; clear n0_ n1_ n2_ n3_ n4_ n5_ n6_ n7_ n8_
   have n0_ := mk0 (Kd.V_drew HO_4.out)
   have n1_ := mk0 (Kd.V_drew HO_277001.out)
   have n2_ := mk0 (Kd.V_drew HO284.out)
   have n3_ := mk0 (Kd.V_drew HO289.out)
   have n4_ := mk0 (Kd.S_drew HO_3.out)
   have n5_ := mk0 (blk_drew BK276.out)
   have n6_ := mk0 (blk_drew BK301.out)
   have n7_ := mk0 (blk_drew BK302.out)
   have n8_ := mk0 (below_drew1 HB.out)
   clear HO_4 HO_277001 HO284 HO289 HO_3 BK276 BK301 BK302 HB; have HO_4 := n0_; have HO_277001 := n1_; have HO284 := n2_; have HO289 := n3_; have HO_3 := n4_; have BK276 := n5_; have BK301 := n6_; have BK302 := n7_; have HB := n8_; clear n0_ n1_ n2_ n3_ n4_ n5_ n6_ n7_ n8_
   have p308 : 0 ≤ ((ji25) : Int) := of_decide_eq_true (by first | (with_reducible assumption) | assumption)
   have q308 : (ji25) < (y307.length : Int) := (by have h_ : ((ji25) : Int) < ((x3_1.length : Int) : Int) := of_decide_eq_true (by first | (with_reducible assumption) | assumption); first | (have e_ := (Kd.S_reads' HO_3.out).1; omega) | simpa only [Ny307.out, List.length_set] using h_)
   have ql308 : (((ji25) : Int) < ((x3_1.length : Int) : Int)) = True := eq_true (of_decide_eq_true (by first | (with_reducible assumption) | assumption))
   obtain ⟨ad308, A308_0, c308_0, e308, hx308_0, hl308_0, hi308_0⟩ := at_L2 (Kd.S_reads' HO_3.out).2.2 (ji25) p308 q308
   obtain rfl : (⟨go56, 0, none⟩ : Addr) = ad308 := (by injection e308)
   obtain ⟨ce308, hce308, hMe308, hcc308⟩ := Kd.S_get HO_3.out [] (ji25) p308 (by first | exact q308 | exact of_decide_eq_true (by first | (with_reducible assumption) | assumption) | (have e_ := (Kd.S_reads' HO_3.out).1; omega))
   obtain ⟨ve308_0, rfl, ge308_0⟩ := hMe308
   have hv308_0 := hcc308 0 _ rfl
   rw [Nat.add_zero, show ((Kd.slice 46 k46)).sz = 1 from rfl, Nat.mul_one] at hv308_0
   replace hv308_0 := Option.some.inj (hv308_0.symm.trans hx308_0)
   rw [hv308_0] at ge308_0
   have HL308_0 := mk0 (show Kd.R k46 46 _ _ _ _ (rd_L2 y307 (ji25)) from ge308_0)
   clear hv308_0 ge308_0
   have HX308_0 := mk0 hx308_0
   clear hcc308 hce308
   (first | simp only [add_plain] at hx308_0 | simp only [add_at] at hx308_0 | simp only [Addr.add, Nat.zero_add] at hx308_0 | skip)
   have HR308_0 := mk0 hi308_0
   have HC308_0 := mk0 hl308_0
   clear hi308_0 hl308_0
   replace p308 := eq_true p308
   replace q308 := eq_true q308
   refine start_ (n := 11) (S := fun w' => w'.cell? ⟨gb302, 0, none⟩ = some (.int .i64 ((rd_T46 (rd_L2 x3_1 (ji25)) (ji29)).f0)) ∧ w'.cell? ⟨gb302, 1, none⟩ = some (.int .i64 ((rd_T46 (rd_L2 x3_1 (ji25)) (ji29)).f1)) ∧ w'.cell? ⟨go56, ((ji25)).toNat, none⟩ = some (.slice A308_0 (rd_L2 y307 (ji25)).length c308_0)) (ds := [10]) y9_1 (by kernel_rfl) rfl rfl ⟨(blk_cell BK302.out 0).trans rfl, (blk_cell BK302.out 1).trans rfl, hx308_0⟩ (fun hHeld => ?_); refine with_tabW impl_FlatOf.tab17 impl_FlatOf.bits17 (fun HT_ HW_ => ?_)
   generalize w61.drew = w62 at HO_4 HO_277001 HO284 HO289 HO_3 BK276 BK301 BK302 HB HL308_0 HQ58 HR308_0 HX308_0 hx308_0 hHeld ⊢
   refine pzv (i := 0) (N := 76) (v := ?_) (a' := ?_) y9_4 HT_ ?_ ?_ ?_
   rotate_left
   ·intro w'
    go_simp; with_reducible rfl
   rotate_left
   ·exact x9_put
   refine pzv (i := 1) (N := 77) (v := ?_) (a' := ?_) y9_7 HT_ ?_ ?_ ?_
   rotate_left
   ·intro w'
    go_simp; with_reducible rfl
   rotate_left
   ·exact x9_put
   refine pzv (i := 2) (N := 78) (v := ?_) (a' := ?_) y9_13 HT_ ?_ ?_ ?_
   rotate_left
   ·intro w'
    go_simp; with_reducible rfl
   rotate_left
   ·exact x9_put
   refine pzv (i := 4) (N := 80) (v := ?_) (a' := ?_) y9_16 HT_ ?_ ?_ ?_
   rotate_left
   ·intro w'
    go_simp; with_reducible rfl
   rotate_left
   ·exact x9_put
   refine pzv (i := 6) (N := 82) (v := ?_) (a' := ?_) y9_17 HT_ ?_ ?_ ?_
   rotate_left
   ·intro w'
    go_simp; with_reducible rfl
   rotate_left
   ·exact x9_put
   refine take_ (i := 3) (N := some 79) (v := ?_) (a' := ?_) y9_21 rfl rfl (take_ofW HT_.out HW_.out (by kernel_rfl)) (fun _ _ _ h => h) (Or.inl ⟨by rfl, ?_⟩) hHeld ?_ ?_
   rotate_left
   ·rintro w' ⟨s0, s1, s2⟩
    go_simp; with_reducible rfl
   rotate_left
   ·exact x9_put
   refine take_ (i := 5) (N := some 81) (v := ?_) (a' := ?_) y9_23 rfl rfl (take_ofW HT_.out HW_.out (by kernel_rfl)) (fun _ _ _ h => h) (Or.inl ⟨by rfl, ?_⟩) hHeld ?_ ?_
   rotate_left
   ·rintro w' ⟨s0, s1, s2⟩
    go_simp; with_reducible rfl
   rotate_left
   ·exact x9_put
   refine one_ (i := 7) (N := some 83) y9_26 rfl rfl (one_of HT_.out (by kernel_rfl)) (by decide) (fun K hK => ?_)
   refine goes_ Try.func29 (by kernel_rfl) rfl #[.int .i64 (rd l0_0 x20_1), .agg #[.int .i64 ((rd_T46 (rd_L2 x3_1 (ji25)) (ji29)).f0), .int .i64 ((rd_T46 (rd_L2 x3_1 (ji25)) (ji29)).f1)], .slice Ao38 y280.length co38] (by rfl) rfl rfl z9_73 ?_
   with_reducible refine (impl_flatten.calls k1 (rd l0_0 x20_1) ((rd_T46 (rd_L2 x3_1 (ji25)) (ji29)).f0) ((rd_T46 (rd_L2 x3_1 (ji25)) (ji29)).f1) _ _ y280 t309 _ ?side1 ?side2 A35.out).mono ?_
   (case side1 => exact z9_61)
   (case side2 => exact (Kd.V_reads' HO284.out).2.1)
   rintro e w63 ⟨v310, rfl, ho0, hb⟩
   have HS2_ := (hb.cell (World.block_lt_of_cell? _ _ (hHeld.2.2))).trans (hHeld.2.2)
   refine ⟨_, rfl, ?_⟩
   have n0_ := mk0 (Kd.V_elder' (pkV HO_4) (Kd.R_base ho0) hb)
   have n1_ := mk0 (Kd.V_elder' (pkV HO_277001) (Kd.R_base ho0) hb)
   have n2_ := mk0 (Kd.V_elder' (pkV HO284) (Kd.R_base ho0) hb)
   have n3_ := mk0 (Kd.V_elder' (pkV HO289) (Kd.R_base ho0) hb)
   have n4_ := mk0 (Kd.S_elder' (pkS HO_3) (Kd.R_base ho0) hb)
   have n5_ := mk0 (Kd.R_elder' (pkR HL308_0) (Kd.R_base ho0) hb)
   have n6_ := mk0 (Kd.R_lower (Kd.R_newB (Kd.R_newB (Kd.R_new' (Kd.R_newM (M := fun k_ => (w.heap.size ≤ k_)) ho0 (below_size z9_34) (fun k_ h_ => h_)) (Kd.R_lt (pkR HL308_0))) (g := gb301) (o := .cells #[.int .i64 ((rd_T46 (rd_L2 x3_1 (ji25)) 0).f0), .int .i64 ((rd_T46 (rd_L2 x3_1 (ji25)) 0).f1)] 46 (0, 0)) (pkb BK301)) (g := gb302) (o := .cells #[.int .i64 ((rd_T46 (rd_L2 x3_1 (ji25)) (ji29)).f0), .int .i64 ((rd_T46 (rd_L2 x3_1 (ji25)) (ji29)).f1)] 46 (0, 0)) (pkb BK302)) (below_size z9_34))
   have n7_ := mk0 (blk_belowB BK276 (pkb BK276) hb)
   have n8_ := mk0 (blk_belowB BK301 (pkb BK301) hb)
   have n9_ := mk0 (blk_belowB BK302 (pkb BK302) hb)
   have n10_ := mk0 (Kd.C_below (by repeat (first | (with_reducible exact HR308_0.out) | (with_reducible refine Kd.C_alloc ?_ _) | (with_reducible refine Kd.C_drewN ?_ _) | (with_reducible refine Kd.C_drew ?_) | exact HR308_0.out)) hb)
   have n11_ := mk0 (pw_cell_below hb HX308_0.out)
   have n12_ := mk0 (below_step z9_34 hb)
   clear HO_4 HO_277001 HO284 HO289 HO_3 HL308_0 BK276 BK301 BK302 HR308_0 HX308_0 HB; have HO_4 := n0_; have HO_277001 := n1_; have HO284 := n2_; have HO289 := n3_; have HO_3 := n4_; have HL308_0 := n5_; have HO311 := n6_; have BK276 := n7_; have BK301 := n8_; have BK302 := n9_; have HR308_0 := n10_; have HX308_0 := n11_; have HB := n12_; clear n0_ n1_ n2_ n3_ n4_ n5_ n6_ n7_ n8_ n9_ n10_ n11_ n12_; (try clear hb); (try clear hb2); (try clear hk); (try clear hi); (try clear ho0)
   have n_ := mk0 (Kd.S_mono (ok' := (fun k_ => (w.heap.size ≤ k_) ∧ some k_ ≠ (v310 : Value).ownBlock ∧ k_ ≠ gb301 ∧ k_ ≠ gb302)) HO_3.out (fun k_ hk => ⟨hk.1.1, ⟨hk.2, ⟨hk.1.2.1, hk.1.2.2⟩⟩⟩))
   clear HO_3; have HO_3 := n_; clear n_
   obtain ⟨Ao66, co66, eo66⟩ := Kd.R_slice HO311.out
   (first | subst eo66 | (injection eo66 with f1_ f2_ f3_; have f4_ := f1_.symm; have f5_ := f3_.symm; clear f1_ f2_ f3_; subst f4_; subst f5_))
   obtain ⟨oki64, ce64, hcl64, hM64, hcc64, _, _, hH64⟩ := Kd.S_elem HO_3.out [] ((ji25) : Int) (of_decide_eq_true (by first | (with_reducible assumption) | assumption)) (by have h_ : ((ji25) : Int) < ((x3_1.length : Int) : Int) := of_decide_eq_true (by first | (with_reducible assumption) | assumption); first | exact h_ | (have e_ := (Kd.S_reads' HO_3.out).1; omega) | simpa using h_)
   obtain ⟨ve64_0, rfl, ge64_0⟩ := hM64
   have hv64 := hcc64 0 _ rfl
   have hX64 := HX308_0.out
   (try simp only [add_plain] at hX64)
   (try simp only [Nat.add_zero] at hv64)
   (try rw [show ((Kd.slice 46 k46)).sz = 1 from rfl, Nat.mul_one] at hv64)
   replace hv64 := Option.some.inj (hv64.symm.trans hX64)
   subst hv64; clear hX64 hcc64 hcl64
   have UU64 := mk0 (show Kd.R k46 46 _ w.heap.size oki64 (.slice A308_0 (rd_L2 y307 (ji25)).length c308_0) (rd_L2 y307 (ji25)) from ge64_0)
   have HH64 := mk0 hH64
   have HN64 := mk0 (Kd.S_reads' HO_3.out).1
   clear hH64 ge64_0
   refine hK.out _ _ ⟨(blk_cell BK302.out 0).trans rfl, (blk_cell BK302.out 1).trans rfl, HS2_⟩ (fun hHeld => ?_)
   clear hK K
   refine norm_ (a' := ?_) ?_ ?_
   rotate_left
   ·show Act.put _ (some 83) _ = _
    simp only [Act.put, List.setIfInBounds_toArray, List.set_cons_zero, List.set_cons_succ, i64_w, i32_w]
    rfl
   refine one_ (i := 8) (N := some 84) y9_28 rfl rfl (one_of HT_.out (by kernel_rfl)) (by decide) (fun K hK => ?_)
   refine Kd.R_append_rows_step k46 (w0 := w) w.heap.size (by rfl) (.tmp 79) (.tmp 83) 29 46 (.agg #[(.int .i64 0), (.int .i64 0)]) 16 rfl Try.underlying29 info46 rfl (by decide) (by omega) (.slice A308_0 (rd_L2 y307 (ji25)).length c308_0) (rd_L2 y307 (ji25)) t309 _ _ _ (fun k_ => oki64 k_ ∨ ((fun k_ => (w.heap.size ≤ k_) ∧ some k_ ≠ (.slice Ao66 t309.length co66 : Value).ownBlock ∧ k_ ≠ gb301 ∧ k_ ≠ gb302)) k_ ∧ w63.heap.size ≤ k_) (fun _ => False) rfl rfl ?aO ?aR (fun _ _ h => h) (fun _ h => h.elim) ?aF ?aB ?aS ?aL ?_
   (case aR => repeat (first | exact (Kd.R_reads' HO311.out).2.2 | (with_reducible refine Kd.C_alloc ?_ _) | (with_reducible refine Kd.C_drewN ?_ _) | (with_reducible refine Kd.C_drew ?_)))
   (case aB => exact z9_34)
   (case aF => exact (fun k_ hk => .inr ⟨⟨(Nat.le_trans (below_size z9_34) hk), Kd.fresh' (Kd.R_lt (pkR HO311)) k_ hk, Kd.freshB (g := gb301) (o := .cells #[.int .i64 ((rd_T46 (rd_L2 x3_1 (ji25)) 0).f0), .int .i64 ((rd_T46 (rd_L2 x3_1 (ji25)) 0).f1)] 46 (0, 0)) (pkb BK301) k_ hk, Kd.freshB (g := gb302) (o := .cells #[.int .i64 ((rd_T46 (rd_L2 x3_1 (ji25)) (ji29)).f0), .int .i64 ((rd_T46 (rd_L2 x3_1 (ji25)) (ji29)).f1)] 46 (0, 0)) (pkb BK302) k_ hk⟩, hk⟩))
   (case aO => exact (by (with_reducible repeat (first | apply Kd.R_alloc | apply Kd.R_drewN | apply Kd.R_drew)); exact Kd.R_mono UU64.out (fun _ hk => .inl hk)))
   (case aS => exact (below_size z9_34))
   (case aL => have := LMc36.out; omega)
   intro v313 w65 ho hb hg hat
   (first | have HS2_ := cell_grown hg (hHeld.2.2) z9_90 | have HS2_ := cell_grown hg (cell_unalloc (hHeld.2.2) z9_62) z9_90)
   rw [← Ny312.out] at ho
   have n0_ := mk0 (Kd.V_grown (pkV HO_4) hg z9_87)
   have n1_ := mk0 (Kd.V_grown (pkV HO_277001) hg z9_87)
   have n2_ := mk0 (blk_grown (g := gb276) (o := .cells #[.slice (some ad278) l0_0.length c0_0, .slice A0_1 l0_1.length c0_1] 31 (0, 0)) (pkb BK276) hg (Kd.R_ne HL308_0.out BK276.out (by decide)))
   have n3_ := mk0 (Kd.V_grown (pkV HO284) hg z9_87)
   have n4_ := mk0 (Kd.V_grown (pkV HO289) hg z9_87)
   have n5_ := mk0 (blk_grown (g := gb301) (o := .cells #[.int .i64 ((rd_T46 (rd_L2 x3_1 (ji25)) 0).f0), .int .i64 ((rd_T46 (rd_L2 x3_1 (ji25)) 0).f1)] 46 (0, 0)) (pkb BK301) hg (Kd.R_away HL308_0.out (fun _ hk => hk.1.1.2.1)))
   have n6_ := mk0 (blk_grown (g := gb302) (o := .cells #[.int .i64 ((rd_T46 (rd_L2 x3_1 (ji25)) (ji29)).f0), .int .i64 ((rd_T46 (rd_L2 x3_1 (ji25)) (ji29)).f1)] 46 (0, 0)) (pkb BK302) hg (Kd.R_away HL308_0.out (fun _ hk => hk.1.1.2.2)))
   have n7_ := mk0 (Kd.R_grown2 (pkR HO311) rfl hg (fun k_ e_ => (HL308_0.out.1 k_ e_).2))
   have n8_ := mk0 (hb)
   have n9_ := mk0 (Kd.H_grown (Kd.H_widen (by repeat (first | exact HH64.out | refine Kd.H_alloc ?_ _ | refine Kd.H_drewN ?_ _ | refine Kd.H_drew ?_))) hg (fun k_ e_ => .inl (UU64.out.1 k_ e_)))
   have n10_ := mk0 (ho)
   clear HO_4 HO_277001 BK276 HO284 HO289 BK301 BK302 HO311 HB HH64 HO_3 UU64 HL308_0; have HO_4 := n0_; have HO_277001 := n1_; have BK276 := n2_; have HO284 := n3_; have HO289 := n4_; have BK301 := n5_; have BK302 := n6_; have HO311 := n7_; have HB := n8_; have HH64 := n9_; have HO314 := n10_; clear n0_ n1_ n2_ n3_ n4_ n5_ n6_ n7_ n8_ n9_ n10_ ho hb hg hat
   obtain ⟨Ao69, co69, eo69⟩ := Kd.R_slice HO314.out
   (first | subst eo69 | (injection eo69 with f1_ f2_ f3_; have f4_ := f1_.symm; have f5_ := f3_.symm; clear f1_ f2_ f3_; subst f4_; subst f5_))
   obtain ⟨_, _, hraw67, _, _, hcc67, _⟩ := Kd.H_raw HH64.out (of_decide_eq_true (by first | (with_reducible assumption) | assumption)) (by have h_ : ((ji25) : Int) < ((x3_1.length : Int) : Int) := of_decide_eq_true (by first | (with_reducible assumption) | assumption); first | exact h_ | (have e_ := (HN64.out); omega) | simpa using h_)
   obtain ⟨_, hfr67⟩ := Kd.H_at HH64.out (of_decide_eq_true (by first | (with_reducible assumption) | assumption)) (by have h_ : ((ji25) : Int) < ((x3_1.length : Int) : Int) := of_decide_eq_true (by first | (with_reducible assumption) | assumption); first | exact h_ | (have e_ := (HN64.out); omega) | simpa using h_)
   have hx67_0 := hcc67 0 _ rfl
   have hf67_0 := hfr67 0
   (try simp only [Nat.add_zero] at hx67_0 hf67_0)
   (try rw [show ((Kd.slice 46 k46)).sz = 1 from rfl, Nat.mul_one] at hx67_0)
   (try rw [show ((Kd.slice 46 k46)).sz = 1 from rfl, Nat.mul_one] at hf67_0)
   have HP67 := Kd.S_seg0 HH64.out (of_decide_eq_true (by first | (with_reducible assumption) | assumption)) (by have h_ : ((ji25) : Int) < ((x3_1.length : Int) : Int) := of_decide_eq_true (by first | (with_reducible assumption) | assumption); first | exact h_ | (have e_ := (HN64.out); omega) | simpa using h_) (seg := [.slice Ao69 y312.length co69]) (j := 0) (show 1 ≤ 1 from by decide) (x' := y312) (Kd.M_row HO314.out) (fun _ hk => hk)
   (try simp only [show ((Kd.slice 46 k46)).sz = 1 from rfl, Nat.mul_one, Nat.add_zero] at HP67)
   clear hcc67 hfr67
   have HNB276_go56 := mk0 (show gb276 ≠ go56 from by have h_ := Kd.R_ne hraw67 BK276.out (by decide); intro e_; exact h_ (by rw [e_]; rfl))
   have HNB301_go56 := mk0 (show gb301 ≠ go56 from by have h_ := Kd.R_ne hraw67 BK301.out (by decide); intro e_; exact h_ (by rw [e_]; rfl))
   have HNB302_go56 := mk0 (show gb302 ≠ go56 from by have h_ := Kd.R_ne hraw67 BK302.out (by decide); intro e_; exact h_ (by rw [e_]; rfl))
   have HS67 := HP67.1
   rw [← Ny315.out] at HS67
   have HQ67 := mk0 HS67
   obtain ⟨_, hgg67⟩ := Kd.R_typed hraw67 go56 rfl
   have GG67_ := mk0 hgg67
   clear HP67 HS67 hgg67
   refine hK.out _ _ ⟨(blk_cell BK302.out 0).trans rfl, (blk_cell BK302.out 1).trans rfl, HS2_⟩ (fun hHeld => ?_)
   clear hK K
   refine norm_ (a' := ?_) ?_ ?_
   rotate_left
   ·show Act.put _ (some 84) _ = _
    simp only [Act.put, List.setIfInBounds_toArray, List.set_cons_zero, List.set_cons_succ, i64_w, i32_w]
    rfl
   refine pzv (i := 9) (N := 85) (v := ?_) (a' := ?_) y9_30 HT_ ?_ ?_ ?_
   rotate_left
   ·intro w'
    go_simp; with_reducible rfl
   rotate_left
   ·exact x9_put
   refine last_ (i := 10) (N := none) y9_41 rfl rfl (one_of HT_.out (by kernel_rfl)) (by decide) (fun K hK => ?_)
   refine skip_ (w1 := ?_) ?hwx ?hN ?_ ?_; (case hwx => rfl); (case hN => rfl)
   rotate_left
   ·go_simp
    rfl
   refine hK.out _ _ ?_
   clear hK K
   refine done_ (done_of HT_.out (by kernel_rfl)) ?_
   try go_wp2
   go_roundg k1
   case measure => have := HK1.out; omega
   case rel => exact ⟨(y315), (y285), (wrap64 (x20_1 + 1)), rs0, H', ⟨(by have := HK1.out; omega)⟩, ⟨(by (with_reducible repeat (first | apply Kd.S_alloc | apply Kd.S_drewN | apply Kd.S_drew)); exact Kd.S_mono HQ67.out (fun _ hk => hk.1))⟩, ⟨(by (with_reducible repeat (first | apply Kd.V_alloc | apply Kd.V_drewN | apply Kd.V_drew)); exact Kd.V_mono (Kd.V_far (p := ⟨go56, ((ji25) : Int).toNat, none⟩) (Kd.V_mono HO289.out (fun k_ hk => (⟨hk, fun e_ => hk.1.2.1 (by rw [e_]; rfl)⟩ : _ ∧ k_ ≠ go56))) (fun _ hk => hk.2) (.slice Ao69 y312.length co69)) (fun _ hk => ⟨hk.1.1.1, ⟨hk.1.1.2.1, hk.1.1.2.2.1⟩⟩))⟩, ⟨(by (with_reducible repeat (first | apply Kd.V_alloc | apply Kd.V_drewN | apply Kd.V_drew)); exact Kd.V_mono (Kd.V_far (p := ⟨go56, ((ji25) : Int).toNat, none⟩) (Kd.V_mono HO_277001.out (fun k_ hk => (⟨hk, fun e_ => hk.1.2.1 (by rw [e_]; rfl)⟩ : _ ∧ k_ ≠ go56))) (fun _ hk => hk.2) (.slice Ao69 y312.length co69)) (fun _ hk => ⟨hk.1.1.1, ⟨hk.1.1.2.1, hk.1.1.2.2.1⟩⟩))⟩, ⟨z9_86⟩, ⟨z9_85⟩⟩

end Go.Proofs.Ytdpnimngndemiaa.MFnFlats
