/- Functions of the program as Lean functions, and the proof that a call comes to just these: machine text of this session's own program (myprint.py). -/
import Derived.Test.YtdpnimngndemiaaMFnExactFlatOfx0
import Derived.Test.YtdpnimngndemiaaMFnExactFlatOfx1
import Derived.Test.YtdpnimngndemiaaMFnExactFlatOfx6
import Derived.Test.YtdpnimngndemiaaMFnExactFlatOfx7
import Derived.Test.YtdpnimngndemiaaMFnExactFlatOfx8
namespace Go.Proofs.Ytdpnimngndemiaa.MFnExactFlatOf
open Go.RowKit Go.Proofs.YtdpnimngndemiaaW.PrintWords Go.Proofs.YtdpnimngndemiaaW.PrintLast Go.Proofs.YtdpnimngndemiaaW.PrintMore
attribute [local go_sem] max2_int min2_int max_two min_two max_three min_three max_four min_four   -- for this text's walks alone
set_option linter.unusedVariables false
set_option linter.unusedSimpArgs false

attribute [local go_sem high] eqA46
def y9_0 : Array Bool := (bA 19 0)
def y9_1 : Array Bool := (bA 11 0)
def y9_3 : Array Bool := (bA 19 1)
def y9_4 : Array Bool := (bA 11 1)
def y9_6 : Array Bool := (bA 19 3)
def y9_7 : Array Bool := (bA 11 3)
def y9_9 : Array Bool := (bA 19 35)
def y9_10 : Array Bool := (bA 19 99)
def y9_11 : Array Bool := (bA 19 355)
def y9_12 : Array Bool := (bA 19 867)
def y9_13 : Array Bool := (bA 11 7)
def y9_15 : Array Bool := (bA 19 871)
def y9_16 : Array Bool := (bA 11 23)
def y9_17 : Array Bool := (bA 11 87)
def y9_19 : Array Bool := (bA 19 879)
def y9_21 : Array Bool := (bA 11 95)
def y9_23 : Array Bool := (bA 11 127)
def y9_25 : Array Bool := (bA 19 895)
def y9_26 : Array Bool := (bA 11 255)
def y9_28 : Array Bool := (bA 11 511)
def y9_29 : Array Bool := (bA 19 1023)
def y9_30 : Array Bool := (bA 11 1023)
def y9_31 : Array Bool := (bA 19 2047)
def y9_32 : Array Bool := (bA 19 4095)
def y9_33 : Array Bool := (bA 19 8191)
def y9_34 : Array Bool := (bA 19 16383)
def y9_35 : Array Bool := (bA 19 32767)
def y9_36 : Array Bool := (bA 19 98303)
def y9_37 : Array Bool := (bA 19 65535)
def y9_38 : Array Bool := (bA 19 131071)
def y9_39 : Array Bool := (bA 19 262143)
def y9_40 : Array Bool := (bA 19 524287)
def y9_41 : Array Bool := (bA 11 2047)
theorem x9_put {P : Prop} (h : P := by simp only [Act.put, List.setIfInBounds_toArray, List.set_cons_zero, List.set_cons_succ, i64_w, i32_w]; rfl) : P := h
theorem z9_34 {P : Prop} (h : P := by repeat (first | (with_reducible first | exact HB.out | apply below_alloc | apply pw_below_drewN | apply below_drew1 | refine below_set ?_ GE303.out | refine below_set ?_ GE328.out | refine below_set ?_ GE329.out) | exact HB.out)) : P := h
theorem z9_35 {P : Prop} (h : P := by repeat (first | (with_reducible first | exact HB.out | apply below_alloc | apply pw_below_drewN | apply below_drew1 | refine below_set ?_ GE303.out) | exact HB.out)) : P := h
theorem z9_36 {P : Prop} (h : P := by repeat (first | (with_reducible exact HR323_0.out) | (with_reducible refine Kd.C_alloc ?_ _) | (with_reducible refine Kd.C_drewN ?_ _) | (with_reducible refine Kd.C_drew ?_) | exact HR323_0.out)) : P := h
theorem z9_37 {P : Prop} (h : P := by repeat (first | (with_reducible exact HR325_0.out) | (with_reducible refine Kd.C_alloc ?_ _) | (with_reducible refine Kd.C_drewN ?_ _) | (with_reducible refine Kd.C_drew ?_) | exact HR325_0.out)) : P := h
theorem z9_38 {P : Prop} (h : P := by first | (rw [hy_]; with_reducible exact H) | (have H2_ := (Option.bind_some _ _).symm.trans H; rw [hy_]; with_reducible exact H2_) | (have H2_ := (Option.bind_some _ _).symm.trans H; with_reducible exact H2_) | with_reducible exact H | (rw [hy_]; exact H) | exact H) : P := h
theorem z9_39 {P : Prop} (h : P := by first | exact Kd.own_blk (Kd.S_away HO_3.out (fun _ hk => hk.2.1)) | (rw [add_block]; exact Kd.own_blk (Kd.S_away HO_3.out (fun _ hk => hk.2.1))) | (show (Addr.add _ _).block ≠ _; rw [add_block]; exact Kd.own_blk (Kd.S_away HO_3.out (fun _ hk => hk.2.1))) | (dsimp only; exact Kd.own_blk (Kd.S_away HO_3.out (fun _ hk => hk.2.1)))) : P := h
theorem z9_40 {P : Prop} (h : P := by first | exact Kd.own_blk (Kd.S_away HO_3.out (fun _ hk => hk.2.2)) | (rw [add_block]; exact Kd.own_blk (Kd.S_away HO_3.out (fun _ hk => hk.2.2))) | (show (Addr.add _ _).block ≠ _; rw [add_block]; exact Kd.own_blk (Kd.S_away HO_3.out (fun _ hk => hk.2.2))) | (dsimp only; exact Kd.own_blk (Kd.S_away HO_3.out (fun _ hk => hk.2.2)))) : P := h
theorem z9_41 {P : Prop} (h : P := by repeat (first | (with_reducible exact HR326_0.out) | (with_reducible refine Kd.C_alloc ?_ _) | (with_reducible refine Kd.C_drewN ?_ _) | (with_reducible refine Kd.C_drew ?_) | exact HR326_0.out)) : P := h
theorem z9_42 {P : Prop} (h : P := by first | exact Kd.own_blk (Kd.R_away HL323_0.out (fun _ hk => hk.2.2.1)) | (rw [add_block]; exact Kd.own_blk (Kd.R_away HL323_0.out (fun _ hk => hk.2.2.1))) | (show (Addr.add _ _).block ≠ _; rw [add_block]; exact Kd.own_blk (Kd.R_away HL323_0.out (fun _ hk => hk.2.2.1))) | (dsimp only; exact Kd.own_blk (Kd.R_away HL323_0.out (fun _ hk => hk.2.2.1)))) : P := h
theorem z9_43 {P : Prop} (h : P := by first | exact Kd.own_blk (Kd.R_away HL325_0.out (fun _ hk => hk.2.2.1)) | (rw [add_block]; exact Kd.own_blk (Kd.R_away HL325_0.out (fun _ hk => hk.2.2.1))) | (show (Addr.add _ _).block ≠ _; rw [add_block]; exact Kd.own_blk (Kd.R_away HL325_0.out (fun _ hk => hk.2.2.1))) | (dsimp only; exact Kd.own_blk (Kd.R_away HL325_0.out (fun _ hk => hk.2.2.1)))) : P := h
theorem z9_44 {P : Prop} (h : P := by first | exact Kd.own_blk (Kd.R_away HL323_0.out (fun _ hk => hk.2.2.2)) | (rw [add_block]; exact Kd.own_blk (Kd.R_away HL323_0.out (fun _ hk => hk.2.2.2))) | (show (Addr.add _ _).block ≠ _; rw [add_block]; exact Kd.own_blk (Kd.R_away HL323_0.out (fun _ hk => hk.2.2.2))) | (dsimp only; exact Kd.own_blk (Kd.R_away HL323_0.out (fun _ hk => hk.2.2.2)))) : P := h
theorem z9_45 {P : Prop} (h : P := by first | exact Kd.own_blk (Kd.R_away HL325_0.out (fun _ hk => hk.2.2.2)) | (rw [add_block]; exact Kd.own_blk (Kd.R_away HL325_0.out (fun _ hk => hk.2.2.2))) | (show (Addr.add _ _).block ≠ _; rw [add_block]; exact Kd.own_blk (Kd.R_away HL325_0.out (fun _ hk => hk.2.2.2))) | (dsimp only; exact Kd.own_blk (Kd.R_away HL325_0.out (fun _ hk => hk.2.2.2)))) : P := h
theorem z9_46 {P : Prop} (h : P := by repeat (first | (with_reducible first | exact HB.out | apply below_alloc | apply pw_below_drewN | apply below_drew1 | refine below_set ?_ GE303.out | refine below_set ?_ GE328.out) | exact HB.out)) : P := h
theorem z9_47 {P : Prop} (h : P := by repeat (first | (with_reducible first | exact HB.out | apply below_alloc | apply pw_below_drewN | apply below_drew1 | refine below_set ?_ GE303.out | refine below_set ?_ GE329.out) | exact HB.out)) : P := h
theorem z9_48 {P : Prop} (h : P := by rw [hw_]; exact (by (with_reducible repeat (first | refine blk_drewN ?_ _ | refine blk_drew ?_ | refine blk_alloc ?_ _)); refine blk_put (cs := #[.int .i64 ((rd_T46 (rd_L3 x3_1 (ji25)) (ji29)).f0), .int .i64 0]) ?_ 1 _ rfl; (with_reducible repeat (first | refine blk_drewN ?_ _ | refine blk_drew ?_ | refine blk_alloc ?_ _)); refine blk_put (cs := #[.int .i64 0, .int .i64 0]) ?_ 0 _ rfl; (with_reducible repeat (first | refine blk_drewN ?_ _ | refine blk_drew ?_ | refine blk_alloc ?_ _)); refine blk_far ?_ NB329_328.out _; (with_reducible repeat (first | refine blk_drewN ?_ _ | refine blk_drew ?_ | refine blk_alloc ?_ _)); refine blk_far ?_ NB329_328.out _; (with_reducible repeat (first | refine blk_drewN ?_ _ | refine blk_drew ?_ | refine blk_alloc ?_ _)); exact BK329.out)) : P := h
theorem z9_49 {P : Prop} (h : P := by rw [hw_]; exact (by (with_reducible repeat (first | apply Kd.V_alloc | apply Kd.V_drewN | apply Kd.V_drew)); exact Kd.V_mono (Kd.V_far (p := ⟨gb329, 1, none⟩) (Kd.V_far (p := ⟨gb329, 0, none⟩) (Kd.V_far (p := ⟨gb328, 1, none⟩) (Kd.V_far (p := ⟨gb328, 0, none⟩) (Kd.V_mono (Kd.V_mono HO_304001.out (fun k_ hk => (⟨hk, hk.2.2.2.1⟩ : _ ∧ k_ ≠ gb328))) (fun k_ hk => (⟨hk, hk.1.2.2.2.2⟩ : _ ∧ k_ ≠ gb329))) (fun _ hk => hk.1.2) (.int .i64 ((rd_T46 (rd_L3 x3_1 (ji25)) 0).f0))) (fun _ hk => hk.1.2) (.int .i64 ((rd_T46 (rd_L3 x3_1 (ji25)) 0).f1))) (fun _ hk => hk.2) (.int .i64 ((rd_T46 (rd_L3 x3_1 (ji25)) (ji29)).f0))) (fun _ hk => hk.2) (.int .i64 ((rd_T46 (rd_L3 x3_1 (ji25)) (ji29)).f1))) (fun _ hk => ⟨hk.1.1.1, ⟨hk.1.1.2.1, ⟨hk.1.1.2.2.1, ⟨hk.1.1.2.2.2.1, hk.1.1.2.2.2.2⟩⟩⟩⟩))) : P := h
theorem z9_50 {P : Prop} (h : P := by rw [hw_]; exact (by (with_reducible repeat (first | refine blk_drewN ?_ _ | refine blk_drew ?_ | refine blk_alloc ?_ _)); refine blk_far ?_ NB328_329.out _; (with_reducible repeat (first | refine blk_drewN ?_ _ | refine blk_drew ?_ | refine blk_alloc ?_ _)); refine blk_far ?_ NB328_329.out _; (with_reducible repeat (first | refine blk_drewN ?_ _ | refine blk_drew ?_ | refine blk_alloc ?_ _)); refine blk_put (cs := #[.int .i64 ((rd_T46 (rd_L3 x3_1 (ji25)) 0).f0), .int .i64 0]) ?_ 1 _ rfl; (with_reducible repeat (first | refine blk_drewN ?_ _ | refine blk_drew ?_ | refine blk_alloc ?_ _)); refine blk_put (cs := #[.int .i64 0, .int .i64 0]) ?_ 0 _ rfl; (with_reducible repeat (first | refine blk_drewN ?_ _ | refine blk_drew ?_ | refine blk_alloc ?_ _)); exact BK328.out)) : P := h
theorem z9_51 {P : Prop} (h : P := by rw [hw_]; exact (by (with_reducible repeat (first | apply Kd.V_alloc | apply Kd.V_drewN | apply Kd.V_drew)); exact Kd.V_mono (Kd.V_far (p := ⟨gb329, 1, none⟩) (Kd.V_far (p := ⟨gb329, 0, none⟩) (Kd.V_far (p := ⟨gb328, 1, none⟩) (Kd.V_far (p := ⟨gb328, 0, none⟩) (Kd.V_mono (Kd.V_mono HO311.out (fun k_ hk => (⟨hk, hk.2.2.2.1⟩ : _ ∧ k_ ≠ gb328))) (fun k_ hk => (⟨hk, hk.1.2.2.2.2⟩ : _ ∧ k_ ≠ gb329))) (fun _ hk => hk.1.2) (.int .i64 ((rd_T46 (rd_L3 x3_1 (ji25)) 0).f0))) (fun _ hk => hk.1.2) (.int .i64 ((rd_T46 (rd_L3 x3_1 (ji25)) 0).f1))) (fun _ hk => hk.2) (.int .i64 ((rd_T46 (rd_L3 x3_1 (ji25)) (ji29)).f0))) (fun _ hk => hk.2) (.int .i64 ((rd_T46 (rd_L3 x3_1 (ji25)) (ji29)).f1))) (fun _ hk => ⟨hk.1.1.1, ⟨hk.1.1.2.1, ⟨hk.1.1.2.2.1, ⟨hk.1.1.2.2.2.1, hk.1.1.2.2.2.2⟩⟩⟩⟩))) : P := h
theorem z9_52 {P : Prop} (h : P := by rw [hw_]; exact (by (with_reducible repeat (first | apply Kd.V_alloc | apply Kd.V_drewN | apply Kd.V_drew)); exact Kd.V_mono (Kd.V_far (p := ⟨gb329, 1, none⟩) (Kd.V_far (p := ⟨gb329, 0, none⟩) (Kd.V_far (p := ⟨gb328, 1, none⟩) (Kd.V_far (p := ⟨gb328, 0, none⟩) (Kd.V_mono (Kd.V_mono HO316.out (fun k_ hk => (⟨hk, hk.2.2.2.1⟩ : _ ∧ k_ ≠ gb328))) (fun k_ hk => (⟨hk, hk.1.2.2.2.2⟩ : _ ∧ k_ ≠ gb329))) (fun _ hk => hk.1.2) (.int .i64 ((rd_T46 (rd_L3 x3_1 (ji25)) 0).f0))) (fun _ hk => hk.1.2) (.int .i64 ((rd_T46 (rd_L3 x3_1 (ji25)) 0).f1))) (fun _ hk => hk.2) (.int .i64 ((rd_T46 (rd_L3 x3_1 (ji25)) (ji29)).f0))) (fun _ hk => hk.2) (.int .i64 ((rd_T46 (rd_L3 x3_1 (ji25)) (ji29)).f1))) (fun _ hk => ⟨hk.1.1.1, ⟨hk.1.1.2.1, ⟨hk.1.1.2.2.1, ⟨hk.1.1.2.2.2.1, hk.1.1.2.2.2.2⟩⟩⟩⟩))) : P := h
theorem z9_53 {P : Prop} (h : P := by rw [hw_]; exact (by (with_reducible repeat (first | apply Kd.V_alloc | apply Kd.V_drewN | apply Kd.V_drew)); exact Kd.V_mono (Kd.V_far (p := ⟨gb329, 1, none⟩) (Kd.V_far (p := ⟨gb329, 0, none⟩) (Kd.V_far (p := ⟨gb328, 1, none⟩) (Kd.V_far (p := ⟨gb328, 0, none⟩) (Kd.V_mono (Kd.V_mono HO_4.out (fun k_ hk => (⟨hk, hk.2.2.2.1⟩ : _ ∧ k_ ≠ gb328))) (fun k_ hk => (⟨hk, hk.1.2.2.2.2⟩ : _ ∧ k_ ≠ gb329))) (fun _ hk => hk.1.2) (.int .i64 ((rd_T46 (rd_L3 x3_1 (ji25)) 0).f0))) (fun _ hk => hk.1.2) (.int .i64 ((rd_T46 (rd_L3 x3_1 (ji25)) 0).f1))) (fun _ hk => hk.2) (.int .i64 ((rd_T46 (rd_L3 x3_1 (ji25)) (ji29)).f0))) (fun _ hk => hk.2) (.int .i64 ((rd_T46 (rd_L3 x3_1 (ji25)) (ji29)).f1))) (fun _ hk => ⟨hk.1.1.1, ⟨hk.1.1.2.1, ⟨hk.1.1.2.2.1, ⟨hk.1.1.2.2.2.1, hk.1.1.2.2.2.2⟩⟩⟩⟩))) : P := h
theorem z9_54 {P : Prop} (h : P := by rw [hw_]; exact (by (with_reducible repeat (first | apply Kd.R_alloc | apply Kd.R_drewN | apply Kd.R_drew)); exact Kd.R_mono (Kd.R_far (p := ⟨gb329, 1, none⟩) (Kd.R_far (p := ⟨gb329, 0, none⟩) (Kd.R_far (p := ⟨gb328, 1, none⟩) (Kd.R_far (p := ⟨gb328, 0, none⟩) (Kd.R_mono (Kd.R_mono HL323_0.out (fun k_ hk => (⟨hk, hk.2.2.1⟩ : _ ∧ k_ ≠ gb328))) (fun k_ hk => (⟨hk, hk.1.2.2.2⟩ : _ ∧ k_ ≠ gb329))) (fun _ hk => hk.1.2) (.int .i64 ((rd_T46 (rd_L3 x3_1 (ji25)) 0).f0))) (fun _ hk => hk.1.2) (.int .i64 ((rd_T46 (rd_L3 x3_1 (ji25)) 0).f1))) (fun _ hk => hk.2) (.int .i64 ((rd_T46 (rd_L3 x3_1 (ji25)) (ji29)).f0))) (fun _ hk => hk.2) (.int .i64 ((rd_T46 (rd_L3 x3_1 (ji25)) (ji29)).f1))) (fun _ hk => ⟨hk.1.1.1, ⟨hk.1.1.2.1, ⟨hk.1.1.2.2.1, hk.1.1.2.2.2⟩⟩⟩))) : P := h
theorem z9_55 {P : Prop} (h : P := by rw [hw_]; exact (by (with_reducible repeat (first | apply Kd.R_alloc | apply Kd.R_drewN | apply Kd.R_drew)); exact Kd.R_mono (Kd.R_far (p := ⟨gb329, 1, none⟩) (Kd.R_far (p := ⟨gb329, 0, none⟩) (Kd.R_far (p := ⟨gb328, 1, none⟩) (Kd.R_far (p := ⟨gb328, 0, none⟩) (Kd.R_mono (Kd.R_mono HL325_0.out (fun k_ hk => (⟨hk, hk.2.2.1⟩ : _ ∧ k_ ≠ gb328))) (fun k_ hk => (⟨hk, hk.1.2.2.2⟩ : _ ∧ k_ ≠ gb329))) (fun _ hk => hk.1.2) (.int .i64 ((rd_T46 (rd_L3 x3_1 (ji25)) 0).f0))) (fun _ hk => hk.1.2) (.int .i64 ((rd_T46 (rd_L3 x3_1 (ji25)) 0).f1))) (fun _ hk => hk.2) (.int .i64 ((rd_T46 (rd_L3 x3_1 (ji25)) (ji29)).f0))) (fun _ hk => hk.2) (.int .i64 ((rd_T46 (rd_L3 x3_1 (ji25)) (ji29)).f1))) (fun _ hk => ⟨hk.1.1.1, ⟨hk.1.1.2.1, ⟨hk.1.1.2.2.1, hk.1.1.2.2.2⟩⟩⟩))) : P := h
theorem z9_56 {P : Prop} (h : P := by rw [hw_]; exact (by (with_reducible repeat (first | apply Kd.R_alloc | apply Kd.R_drewN | apply Kd.R_drew)); exact Kd.R_mono (Kd.R_far (p := ⟨gb329, 1, none⟩) (Kd.R_far (p := ⟨gb329, 0, none⟩) (Kd.R_far (p := ⟨gb328, 1, none⟩) (Kd.R_far (p := ⟨gb328, 0, none⟩) (Kd.R_mono (Kd.R_mono HL326_0.out (fun k_ hk => (⟨hk, hk.2.2.1⟩ : _ ∧ k_ ≠ gb328))) (fun k_ hk => (⟨hk, hk.1.2.2.2⟩ : _ ∧ k_ ≠ gb329))) (fun _ hk => hk.1.2) (.int .i64 ((rd_T46 (rd_L3 x3_1 (ji25)) 0).f0))) (fun _ hk => hk.1.2) (.int .i64 ((rd_T46 (rd_L3 x3_1 (ji25)) 0).f1))) (fun _ hk => hk.2) (.int .i64 ((rd_T46 (rd_L3 x3_1 (ji25)) (ji29)).f0))) (fun _ hk => hk.2) (.int .i64 ((rd_T46 (rd_L3 x3_1 (ji25)) (ji29)).f1))) (fun _ hk => ⟨hk.1.1.1, ⟨hk.1.1.2.1, ⟨hk.1.1.2.2.1, hk.1.1.2.2.2⟩⟩⟩))) : P := h
theorem z9_57 {P : Prop} (h : P := by rw [hw_]; exact (by (with_reducible repeat (first | apply Kd.S_alloc | apply Kd.S_drewN | apply Kd.S_drew)); exact Kd.S_mono (Kd.S_far (p := ⟨gb329, 1, none⟩) (Kd.S_far (p := ⟨gb329, 0, none⟩) (Kd.S_far (p := ⟨gb328, 1, none⟩) (Kd.S_far (p := ⟨gb328, 0, none⟩) (Kd.S_mono (Kd.S_mono HO_3.out (fun k_ hk => (⟨hk, hk.2.1⟩ : _ ∧ k_ ≠ gb328))) (fun k_ hk => (⟨hk, hk.1.2.2⟩ : _ ∧ k_ ≠ gb329))) (fun _ hk => hk.1.2) (.int .i64 ((rd_T46 (rd_L3 x3_1 (ji25)) 0).f0))) (fun _ hk => hk.1.2) (.int .i64 ((rd_T46 (rd_L3 x3_1 (ji25)) 0).f1))) (fun _ hk => hk.2) (.int .i64 ((rd_T46 (rd_L3 x3_1 (ji25)) (ji29)).f0))) (fun _ hk => hk.2) (.int .i64 ((rd_T46 (rd_L3 x3_1 (ji25)) (ji29)).f1))) (fun _ hk => ⟨hk.1.1.1, ⟨hk.1.1.2.1, hk.1.1.2.2⟩⟩))) : P := h
theorem z9_58 {P : Prop} (h : P := by rw [hw_]; exact (by (with_reducible repeat (first | refine blk_drewN ?_ _ | refine blk_drew ?_ | refine blk_alloc ?_ _)); refine blk_far ?_ NB303_329.out _; (with_reducible repeat (first | refine blk_drewN ?_ _ | refine blk_drew ?_ | refine blk_alloc ?_ _)); refine blk_far ?_ NB303_329.out _; (with_reducible repeat (first | refine blk_drewN ?_ _ | refine blk_drew ?_ | refine blk_alloc ?_ _)); refine blk_far ?_ NB303_328.out _; (with_reducible repeat (first | refine blk_drewN ?_ _ | refine blk_drew ?_ | refine blk_alloc ?_ _)); refine blk_far ?_ NB303_328.out _; (with_reducible repeat (first | refine blk_drewN ?_ _ | refine blk_drew ?_ | refine blk_alloc ?_ _)); exact BK303.out)) : P := h
theorem z9_59 {P : Prop} (h : P := by (try simp only [List.map_toArray, List.map_cons, List.map_nil]); first | done | rfl | (simp only [List.length_drop, List.length_take]; rfl)) : P := h
theorem z9_60 {P : Prop} (h : P := by repeat (first | (with_reducible first | exact HB.out | apply below_alloc | apply pw_below_drewN | apply below_drew1) | exact HB.out)) : P := h
theorem z9_61 {P : Prop} (h : P := by repeat (first | exact (Kd.V_reads' HO311.out).2.2 | (with_reducible refine Kd.C_alloc ?_ _) | (with_reducible refine Kd.C_drewN ?_ _) | (with_reducible refine Kd.C_drew ?_))) : P := h
theorem z9_62 {P : Prop} (h : P := by first | (rw [add_block]; exact Kd.S_lt HO_3.out _ rfl) | (show (Addr.add _ _).block < _; rw [add_block]; exact Kd.S_lt HO_3.out _ rfl) | exact Kd.S_lt HO_3.out _ rfl) : P := h
theorem z9_63 {P : Prop} (h : P := by simp only [putAll, Act.put, List.setIfInBounds_toArray, List.set_cons_zero, List.set_cons_succ]) : P := h
theorem z9_64 {P : Prop} (h : P := by repeat (first | (with_reducible first | exact HB.out | apply below_alloc | apply pw_below_drewN | apply below_drew1 | refine below_set ?_ GE303.out | refine below_set ?_ GE329.out | refine below_set ?_ GE328.out) | exact HB.out)) : P := h
theorem z9_65 {P : Prop} (h : P := by (with_reducible repeat (first | apply Kd.V_alloc | apply Kd.V_drewN | apply Kd.V_drew)); exact Kd.V_mono HO_304001.out (fun _ hk => ⟨hk.1.1.1, ⟨hk.1.1.2.1, ⟨hk.1.1.2.2, ⟨hk.1.2, hk.2⟩⟩⟩⟩)) : P := h
theorem z9_66 {P : Prop} (h : P := by (with_reducible repeat (first | apply Kd.V_alloc | apply Kd.V_drewN | apply Kd.V_drew)); exact Kd.V_mono HO_304001.out (fun _ hk => ⟨hk.1.1.1, ⟨hk.1.1.2.1, ⟨hk.1.1.2.2, ⟨hk.2, hk.1.2⟩⟩⟩⟩)) : P := h
theorem z9_67 {P : Prop} (h : P := by (with_reducible repeat (first | apply Kd.V_alloc | apply Kd.V_drewN | apply Kd.V_drew)); exact Kd.V_mono HO311.out (fun _ hk => ⟨hk.1.1.1, ⟨hk.1.1.2.1, ⟨hk.1.1.2.2, ⟨hk.1.2, hk.2⟩⟩⟩⟩)) : P := h
theorem z9_68 {P : Prop} (h : P := by (with_reducible repeat (first | apply Kd.V_alloc | apply Kd.V_drewN | apply Kd.V_drew)); exact Kd.V_mono HO316.out (fun _ hk => ⟨hk.1.1.1, ⟨hk.1.1.2.1, ⟨hk.1.1.2.2, ⟨hk.1.2, hk.2⟩⟩⟩⟩)) : P := h
theorem z9_69 {P : Prop} (h : P := by (with_reducible repeat (first | apply Kd.V_alloc | apply Kd.V_drewN | apply Kd.V_drew)); exact Kd.V_mono HO311.out (fun _ hk => ⟨hk.1.1.1, ⟨hk.1.1.2.1, ⟨hk.1.1.2.2, ⟨hk.2, hk.1.2⟩⟩⟩⟩)) : P := h
theorem z9_70 {P : Prop} (h : P := by (with_reducible repeat (first | apply Kd.V_alloc | apply Kd.V_drewN | apply Kd.V_drew)); exact Kd.V_mono HO316.out (fun _ hk => ⟨hk.1.1.1, ⟨hk.1.1.2.1, ⟨hk.1.1.2.2, ⟨hk.2, hk.1.2⟩⟩⟩⟩)) : P := h
theorem z9_71 {P : Prop} (h : P := by (with_reducible repeat (first | apply Kd.V_alloc | apply Kd.V_drewN | apply Kd.V_drew)); exact Kd.V_mono HO_4.out (fun _ hk => ⟨hk.1.1.1, ⟨hk.1.1.2.1, ⟨hk.1.1.2.2, ⟨hk.1.2, hk.2⟩⟩⟩⟩)) : P := h
theorem z9_72 {P : Prop} (h : P := by (with_reducible repeat (first | apply Kd.V_alloc | apply Kd.V_drewN | apply Kd.V_drew)); exact Kd.V_mono HO_4.out (fun _ hk => ⟨hk.1.1.1, ⟨hk.1.1.2.1, ⟨hk.1.1.2.2, ⟨hk.2, hk.1.2⟩⟩⟩⟩)) : P := h
theorem z9_73 {P : Prop} (h : P := by (try simp only [List.map_toArray, List.map_cons, List.map_nil]); first | done | (simp only [hji25, hji29]; rfl) | rfl | (simp only [List.length_drop, List.length_take]; rfl)) : P := h
theorem z9_74 {P : Prop} (h : P := by (with_reducible repeat (first | apply Kd.R_alloc | apply Kd.R_drewN | apply Kd.R_drew)); exact Kd.R_mono HL323_0.out (fun _ hk => ⟨hk.1.1.1, ⟨hk.1.1.2, ⟨hk.1.2, hk.2⟩⟩⟩)) : P := h
theorem z9_75 {P : Prop} (h : P := by (with_reducible repeat (first | apply Kd.R_alloc | apply Kd.R_drewN | apply Kd.R_drew)); exact Kd.R_mono HL325_0.out (fun _ hk => ⟨hk.1.1.1, ⟨hk.1.1.2, ⟨hk.1.2, hk.2⟩⟩⟩)) : P := h
theorem z9_76 {P : Prop} (h : P := by (with_reducible repeat (first | apply Kd.R_alloc | apply Kd.R_drewN | apply Kd.R_drew)); exact Kd.R_mono HL326_0.out (fun _ hk => ⟨hk.1.1.1, ⟨hk.1.1.2, ⟨hk.1.2, hk.2⟩⟩⟩)) : P := h
theorem z9_77 {P : Prop} (h : P := by (with_reducible repeat (first | apply Kd.R_alloc | apply Kd.R_drewN | apply Kd.R_drew)); exact Kd.R_mono HL323_0.out (fun _ hk => ⟨hk.1.1.1, ⟨hk.1.1.2, ⟨hk.2, hk.1.2⟩⟩⟩)) : P := h
theorem z9_78 {P : Prop} (h : P := by (with_reducible repeat (first | apply Kd.R_alloc | apply Kd.R_drewN | apply Kd.R_drew)); exact Kd.R_mono HL325_0.out (fun _ hk => ⟨hk.1.1.1, ⟨hk.1.1.2, ⟨hk.2, hk.1.2⟩⟩⟩)) : P := h
theorem z9_79 {P : Prop} (h : P := by (with_reducible repeat (first | apply Kd.R_alloc | apply Kd.R_drewN | apply Kd.R_drew)); exact Kd.R_mono HL326_0.out (fun _ hk => ⟨hk.1.1.1, ⟨hk.1.1.2, ⟨hk.2, hk.1.2⟩⟩⟩)) : P := h
theorem z9_80 {P : Prop} (h : P := by (with_reducible repeat (first | apply Kd.S_alloc | apply Kd.S_drewN | apply Kd.S_drew)); exact Kd.S_mono HO_3.out (fun _ hk => ⟨hk.1.1, ⟨hk.1.2, hk.2⟩⟩)) : P := h
theorem z9_81 {P : Prop} (h : P := by (with_reducible repeat (first | apply Kd.S_alloc | apply Kd.S_drewN | apply Kd.S_drew)); exact Kd.S_mono HO_3.out (fun _ hk => ⟨hk.1.1, ⟨hk.2, hk.1.2⟩⟩)) : P := h
theorem z9_82 {P : Prop} (h : P := by first | exact q323 | exact of_decide_eq_true (by first | (with_reducible assumption) | assumption) | (have e_ := (Kd.S_reads' HO_3.out).1; omega)) : P := h
theorem z9_83 {P : Prop} (h : P := by first | exact q325 | exact of_decide_eq_true (by first | (with_reducible assumption) | assumption) | (have e_ := (Kd.S_reads' HO_3.out).1; omega)) : P := h
theorem z9_84 {P : Prop} (h : P := by first | exact q326 | exact of_decide_eq_true (by first | (with_reducible assumption) | assumption) | (have e_ := (Kd.S_reads' HO_3.out).1; omega)) : P := h
theorem z9_85 {P : Prop} (h : P := by repeat (first | (with_reducible first | exact HB.out | apply below_alloc | apply pw_below_drewN | apply below_drew1 | refine below_set ?_ GB56.out | refine below_set ?_ GE303.out | refine below_set ?_ GE328.out | refine below_set ?_ GE329.out) | exact HB.out)) : P := h
theorem z9_86 {P : Prop} (h : P := by (with_reducible repeat (first | refine blk_drewN ?_ _ | refine blk_drew ?_ | refine blk_alloc ?_ _)); refine blk_far ?_ HNB303_go56.out _; (with_reducible repeat (first | refine blk_drewN ?_ _ | refine blk_drew ?_ | refine blk_alloc ?_ _)); exact BK303.out) : P := h
theorem z9_87 {P : Prop} (h : P := by intro k_ hk_ e_; exact Nat.not_le.2 hk_.1.1.2 (Kd.R_base HL335_0.out k_ e_.symm)) : P := h
theorem z9_88 {P : Prop} (h : P := by intro k_ hk_ e_; exact Nat.not_le.2 hk_.1.1.2 (Kd.R_base HL343_0.out k_ e_.symm)) : P := h
theorem z9_89 {P : Prop} (h : P := by intro k_ hk_ e_; exact Nat.not_le.2 hk_.1.1.2 (Kd.R_base HL351_0.out k_ e_.symm)) : P := h
theorem z9_90 {P : Prop} (h : P := by first | (rw [add_block]; exact (fun e_ => ((HL335_0.out.1 _ e_.symm).1.2) rfl)) | (show some (Addr.add _ _).block ≠ _; rw [add_block]; exact (fun e_ => ((HL335_0.out.1 _ e_.symm).1.2) rfl)) | exact (fun e_ => ((HL335_0.out.1 _ e_.symm).1.2) rfl)) : P := h
theorem z9_91 {P : Prop} (h : P := by first | (rw [add_block]; exact (fun e_ => ((HL343_0.out.1 _ e_.symm).1.2) rfl)) | (show some (Addr.add _ _).block ≠ _; rw [add_block]; exact (fun e_ => ((HL343_0.out.1 _ e_.symm).1.2) rfl)) | exact (fun e_ => ((HL343_0.out.1 _ e_.symm).1.2) rfl)) : P := h
theorem z9_92 {P : Prop} (h : P := by first | (rw [add_block]; exact (fun e_ => ((HL351_0.out.1 _ e_.symm).1.2) rfl)) | (show some (Addr.add _ _).block ≠ _; rw [add_block]; exact (fun e_ => ((HL351_0.out.1 _ e_.symm).1.2) rfl)) | exact (fun e_ => ((HL351_0.out.1 _ e_.symm).1.2) rfl)) : P := h
theorem z9_93 {P : Prop} (h : P := by intro k_ hk_ e_; exact Nat.not_le.2 hk_.1.2 (Kd.R_base HL330_0.out k_ e_.symm)) : P := h
theorem z9_94 {P : Prop} (h : P := by first | (rw [add_block]; exact (fun e_ => ((HL330_0.out.1 _ e_.symm).2) rfl)) | (show some (Addr.add _ _).block ≠ _; rw [add_block]; exact (fun e_ => ((HL330_0.out.1 _ e_.symm).2) rfl)) | exact (fun e_ => ((HL330_0.out.1 _ e_.symm).2) rfl)) : P := h
theorem z9_95 {P : Prop} (h : P := by repeat (first | exact (Kd.C_below HR0_0.out HB.out) | (with_reducible refine Kd.C_alloc ?_ _) | (with_reducible refine Kd.C_drewN ?_ _) | (with_reducible refine Kd.C_drew ?_))) : P := h
theorem z9_96 {P : Prop} (h : P := by (with_reducible repeat (first | apply Kd.V_alloc | apply Kd.V_drewN | apply Kd.V_drew)); exact Kd.V_mono HO0_1.out (fun _ hk => ⟨hk.1, ⟨(by simp [Value.ownBlock]), hk.2⟩⟩)) : P := h
theorem z9_97 {P : Prop} (h : P := by repeat (first | exact (Kd.V_reads' HO0_1.out).2.2 | (with_reducible refine Kd.C_alloc ?_ _) | (with_reducible refine Kd.C_drewN ?_ _) | (with_reducible refine Kd.C_drew ?_))) : P := h
theorem z9_98 {P : Prop} (h : P := by first | exact Kd.S_nil _ _ _ _ _ | exact Kd.N_nil _ _ _ _ _ | exact Kd.V_nil _ _ _ _ _ | exact Kd.Q_nil _ _ _ _ _ | exact Kd.R_nil _ _ _ _ _) : P := h
/-! ### impl_FlatOf: function 8 -/
def impl_FlatOf.l0 : Nat → List (List (S46)) → List (S46) → List Int → Int → Int → Option ((List (List (S46))))
 | 0, _, _, _, _, _ => none
 | k + 1, x3, x4, x18, x19, x20 => if x20 < x19 then (if 0 ≤ x20 then (if x20 < (x18.length : Int) then ((impl_NeedOf.f k (rd x18 x20)).bind fun t306 => (if 0 ≤ t306 then (if t306 ≤ (x4.length : Int) then ((some (x4.take (t306 : Int).toNat : List (S46))).bind fun y307 => ((some (x4.drop (t306 : Int).toNat : List (S46))).bind fun y312 => (if (rd x18 x20) = 1 then ((impl_flatten.f k (rd x18 x20) 0 0 y307).bind fun t317 => (if x3.length < 5864062014805 then (impl_FlatOf.l0 k (x3 ++ [t317]) y312 x18 x19 (wrap64 (x20 + 1))) else (none))) else (if 0 ≤ (wrap64 ((x3.length : Int) - 1)) then (if (wrap64 ((x3.length : Int) - 1)) < (x3.length : Int) then (if 0 < ((rd_L3 x3 (wrap64 ((x3.length : Int) - 1))).length : Int) then (if 0 ≤ (wrap64 (((rd_L3 x3 (wrap64 ((x3.length : Int) - 1))).length : Int) - 1)) then (if (wrap64 (((rd_L3 x3 (wrap64 ((x3.length : Int) - 1))).length : Int) - 1)) < ((rd_L3 x3 (wrap64 ((x3.length : Int) - 1))).length : Int) then (if (rd x18 x20) = 5 then (if (!(((rd_T46 (rd_L3 x3 (wrap64 ((x3.length : Int) - 1))) 0).f0) == ((rd_T46 (rd_L3 x3 (wrap64 ((x3.length : Int) - 1))) (wrap64 (((rd_L3 x3 (wrap64 ((x3.length : Int) - 1))).length : Int) - 1))).f0)) || (!(((rd_T46 (rd_L3 x3 (wrap64 ((x3.length : Int) - 1))) 0).f1) == ((rd_T46 (rd_L3 x3 (wrap64 ((x3.length : Int) - 1))) (wrap64 (((rd_L3 x3 (wrap64 ((x3.length : Int) - 1))).length : Int) - 1))).f1)))) = true then (if (rd_L3 x3 (wrap64 ((x3.length : Int) - 1))).length < 8796093022208 then ((some (x3.set ((wrap64 ((x3.length : Int) - 1)) : Int).toNat ((rd_L3 x3 (wrap64 ((x3.length : Int) - 1))) ++ [(⟨(rd_T46 (rd_L3 x3 (wrap64 ((x3.length : Int) - 1))) 0).f0, (rd_T46 (rd_L3 x3 (wrap64 ((x3.length : Int) - 1))) 0).f1⟩ : S46)]) : List (List (S46)))).bind fun y334 => ((impl_flatten.f k (rd x18 x20) ((rd_T46 (rd_L3 x3 (wrap64 ((x3.length : Int) - 1))) (wrap64 (((rd_L3 x3 (wrap64 ((x3.length : Int) - 1))).length : Int) - 1))).f0) ((rd_T46 (rd_L3 x3 (wrap64 ((x3.length : Int) - 1))) (wrap64 (((rd_L3 x3 (wrap64 ((x3.length : Int) - 1))).length : Int) - 1))).f1) y307).bind fun t336 => (if (rd_L3 y334 (wrap64 ((x3.length : Int) - 1))).length + t336.length < 8796093022208 then (impl_FlatOf.l0 k (y334.set ((wrap64 ((x3.length : Int) - 1)) : Int).toNat ((rd_L3 y334 (wrap64 ((x3.length : Int) - 1))) ++ t336)) y312 x18 x19 (wrap64 (x20 + 1))) else (none)))) else (none)) else ((impl_flatten.f k (rd x18 x20) ((rd_T46 (rd_L3 x3 (wrap64 ((x3.length : Int) - 1))) (wrap64 (((rd_L3 x3 (wrap64 ((x3.length : Int) - 1))).length : Int) - 1))).f0) ((rd_T46 (rd_L3 x3 (wrap64 ((x3.length : Int) - 1))) (wrap64 (((rd_L3 x3 (wrap64 ((x3.length : Int) - 1))).length : Int) - 1))).f1) y307).bind fun t344 => (if (rd_L3 x3 (wrap64 ((x3.length : Int) - 1))).length + t344.length < 8796093022208 then (impl_FlatOf.l0 k (x3.set ((wrap64 ((x3.length : Int) - 1)) : Int).toNat ((rd_L3 x3 (wrap64 ((x3.length : Int) - 1))) ++ t344)) y312 x18 x19 (wrap64 (x20 + 1))) else (none)))) else ((impl_flatten.f k (rd x18 x20) ((rd_T46 (rd_L3 x3 (wrap64 ((x3.length : Int) - 1))) (wrap64 (((rd_L3 x3 (wrap64 ((x3.length : Int) - 1))).length : Int) - 1))).f0) ((rd_T46 (rd_L3 x3 (wrap64 ((x3.length : Int) - 1))) (wrap64 (((rd_L3 x3 (wrap64 ((x3.length : Int) - 1))).length : Int) - 1))).f1) y307).bind fun t352 => (if (rd_L3 x3 (wrap64 ((x3.length : Int) - 1))).length + t352.length < 8796093022208 then (impl_FlatOf.l0 k (x3.set ((wrap64 ((x3.length : Int) - 1)) : Int).toNat ((rd_L3 x3 (wrap64 ((x3.length : Int) - 1))) ++ t352)) y312 x18 x19 (wrap64 (x20 + 1))) else (none)))) else (none)) else (none)) else (none)) else (none)) else (none))))) else (none)) else (none))) else (none)) else (none)) else (some x3)
def impl_FlatOf.f (k : Nat) (l0_0 : List Int) (l0_1 : List (S46)) : Option ((List (List (S46)))) := (impl_PathOk.f k l0_0 l0_1).bind fun t304 => (if t304 = true then (impl_FlatOf.l0 k ([] : List (List (S46))) l0_1 l0_0 (l0_0.length : Int) 0) else (some ([] : List (List (S46)))))
theorem impl_FlatOf.mono_l : ∀ k, (∀ y0 y1 y2 y3 y4, LeO (impl_FlatOf.l0 k y0 y1 y2 y3 y4) (impl_FlatOf.l0 (k + 1) y0 y1 y2 y3 y4))
 | 0 => fun _ _ _ _ _ r h => by simp [impl_FlatOf.l0] at h
 | k + 1 => by
  have ih0 := impl_FlatOf.mono_l k
  ·intro y0 y1 y2 y3 y4
   unfold impl_FlatOf.l0
   repeat' first
   | (with_reducible exact ih0 _ _ _ _ _)
   | (with_reducible exact impl_NeedOf.mono _ _)
   | (with_reducible exact impl_PathOk.mono _ _ _)
   | (with_reducible exact impl_flatten.mono _ _ _ _ _)
   | (with_reducible exact LeO.refl _)
   | (with_reducible exact LeO.none _)
   | (with_reducible refine LeO.ite ?_ ?_)
   | (with_reducible refine LeO.bind ?_ (fun _ => ?_))
theorem impl_FlatOf.mono : ∀ a0 a1 k, LeO (impl_FlatOf.f k a0 a1) (impl_FlatOf.f (k + 1) a0 a1) := by
 intro a0 a1 k
 have ih0 := impl_FlatOf.mono_l k
 unfold impl_FlatOf.f
 repeat' first
   | (with_reducible exact ih0 _ _ _ _ _)
   | (with_reducible exact impl_NeedOf.mono _ _)
   | (with_reducible exact impl_PathOk.mono _ _ _)
   | (with_reducible exact impl_flatten.mono _ _ _ _ _)
   | (with_reducible exact LeO.refl _)
   | (with_reducible exact LeO.none _)
   | (with_reducible refine LeO.ite ?_ ?_)
   | (with_reducible refine LeO.bind ?_ (fun _ => ?_))
def impl_FlatOf.T14 : Bool × List (List Nat × List Nat) := (true, [([], []), ([0], [0]), ([1], [1]), ([2], [2]), ([3], [3]), ([], []), ([5], [5]), ([6], [6]), ([], []), ([8], [8]), ([9], [9]), ([10], [10]), ([11], [11]), ([7, 12], [7, 12]), ([13], [13]), ([], []), ([], []), ([15, 4, 0, 1, 2, 3, 4, 15, 16], [4, 15]), ([16, 14, 17, 0, 1, 2, 3, 4, 5, 6, 7, 8, 9, 10, 11, 12, 13, 14, 15, 16, 17], [14, 16])])
def impl_FlatOf.B14 : List Nat := [0, 1, 3, 7, 15, 0, 32, 96, 0, 256, 768, 1792, 3840, 8160, 16352, 0, 0, 98335, 262143]
theorem impl_FlatOf.tab14 : rtab .any (opsOf Try.f8 14) = impl_FlatOf.T14 := by kernel_rfl
theorem impl_FlatOf.bits14 : waitsOk impl_FlatOf.T14.2 impl_FlatOf.B14 = true := by kernel_rfl
def impl_FlatOf.T16 : Bool × List (List Nat × List Nat) := (true, [([], []), ([], []), ([1], [1]), ([2], [2]), ([], []), ([4], [4]), ([3, 5], [3, 5]), ([0, 0, 1, 2, 3, 4, 5, 6], [0]), ([7, 6, 6, 0, 1, 2, 3, 4, 5, 6], [6, 7])])
def impl_FlatOf.B16 : List Nat := [0, 0, 2, 6, 0, 16, 62, 127, 255]
theorem impl_FlatOf.tab16 : rtab .any (opsOf Try.f8 16) = impl_FlatOf.T16 := by kernel_rfl
theorem impl_FlatOf.bits16 : waitsOk impl_FlatOf.T16.2 impl_FlatOf.B16 = true := by kernel_rfl
def impl_FlatOf.T17 : Bool × List (List Nat × List Nat) := (true, [([], []), ([], []), ([1], [1]), ([2], [2]), ([], []), ([], []), ([], []), ([4, 5, 6], [4, 5, 6]), ([3, 7, 7], [3, 7]), ([0, 0, 1, 2, 3, 4, 5, 6, 7, 8], [0]), ([9, 8, 8, 0, 1, 2, 3, 4, 5, 6, 7, 8], [8, 9])])
def impl_FlatOf.B17 : List Nat := [0, 0, 2, 6, 0, 0, 0, 112, 254, 511, 1023]
theorem impl_FlatOf.tab17 : rtab .any (opsOf Try.f8 17) = impl_FlatOf.T17 := by kernel_rfl
theorem impl_FlatOf.bits17 : waitsOk impl_FlatOf.T17.2 impl_FlatOf.B17 = true := by kernel_rfl
set_option maxHeartbeats 8000000 in
set_option maxRecDepth 100000 in
theorem impl_FlatOf.calls (k : Nat) (A0_0 : Option Addr) (c0_0 : Nat) (l0_0 : List Int) (P0_1_ : Nat → Prop) (A0_1 : Option Addr) (c0_1 : Nat) (l0_1 : List (S46)) (r : List (List (S46))) (w : World) (hr0_0 : Kd.C (Kd.int .i64) w A0_0 l0_0.length l0_0) (hc0_0 : l0_0.length ≤ c0_0) (hs0_1 : Kd.V k46 46 w w.heap.size (fun k_ => P0_1_ k_) (.slice A0_1 l0_1.length c0_1) l0_1) (h : impl_FlatOf.f k l0_0 l0_1 = some r) :
  Calls Try.prog 8 #[.agg #[.slice A0_0 l0_0.length c0_0, .slice A0_1 l0_1.length c0_1]] w fun e w' => ∃ v0_ : Value, e = .returned (v0_) ∧ Kd.S (Kd.slice 46 k46) 29 w' w.heap.size (fun k_ => (w.heap.size ≤ k_)) v0_ r ∧ Below w.heap.size w w' := by
 have hu31 := Try.underlying31
 have hu46 := Try.underlying46
 have HR0_0 := mk0 hr0_0
 have HC0_0 := mk0 hc0_0
 clear hr0_0 hc0_0
 have HO0_1 := mk0 (show Kd.V k46 46 w w.heap.size (fun k_ => ((P0_1_ k_) ∧ k_ < w.heap.size)) (.slice A0_1 l0_1.length c0_1) l0_1 from Kd.V_mono (Kd.V_bound hs0_1) (fun k_ hk => hk))
 have HB := mk0 (Below.refl w.heap.size w)
 have H : ((impl_PathOk.f k l0_0 l0_1).bind fun t304 => (if t304 = true then (impl_FlatOf.l0 k ([] : List (List (S46))) l0_1 l0_0 (l0_0.length : Int) 0) else (some ([] : List (List (S46)))))) = some r := h
 clear h
 replace H := Option.bind_eq_some_iff.mp H
 obtain ⟨t304, A20, H⟩ := H
 try dsimp only at H
 have A2 := mk0 A20
 clear A20
 by_cases c3 : t304 = true
 rotate_left
 ·replace c3 := Bool.eq_false_iff.mpr c3
  subst c3
  rw [if_neg (show ¬ (false = true) by decide)] at H
  obtain rfl := Option.some.inj H
  simp only [Option.some.injEq, Prod.mk.injEq] at H
  obtain ⟨rfl⟩ := H
  go_enter Try.func8, Try.ntmps8
  go_wp2_with (first | ((with_reducible refine gate_dst (N := 1) rfl ?_); refine boxz (cs := #[.slice A0_0 l0_0.length c0_0, .slice A0_1 l0_1.length c0_1]) (t := 31) rfl ?_; intro gb303 hg w121 hbox hb; have n0_ := mk0 (Kd.V_below (Kd.V_elderB (pkV HO0_1) gb303 (Nat.le_of_eq hg.symm)) hb); have n1_ := mk0 (below_step z9_60 hb); have n2_ := mk0 (hbox); have GW303 := mk0 (ge_go (a := w.heap.size) hg (below_size z9_60)); have GE303 := GW303; clear HO0_1 HB; have HO0_1 := n0_; have HB := n1_; have BK303 := n2_; clear n0_ n1_ n2_ ; clear hb hbox hg; obtain ⟨_, _, _, _⟩ := be_2 BK303.out) | ((with_reducible refine gate_callee (f := 27) rfl ?_); refine goesL_ (some 13) rfl rfl Try.func27 (by kernel_rfl) rfl #[.agg #[.slice A0_0 l0_0.length c0_0, .slice A0_1 l0_1.length c0_1]] rfl z9_59 ?_; (with_reducible refine (impl_PathOk.calls k _ _ l0_0 _ _ l0_1 false _ ?side1 ?side2 ?side3 ?side4 A2.out).mono ?_); (case side1 => exact z9_95); (case side2 => exact HC0_0.out); (case side3 => exact z9_97); (case side4 => exact (Kd.V_reads' HO0_1.out).2.1); rintro e w123 ⟨rfl, hb⟩; refine ⟨_, rfl, ?_⟩; have n0_ := mk0 (Kd.V_below (pkV HO0_1) hb); have n1_ := mk0 (blk_belowB BK303 (pkb BK303) hb); have n2_ := mk0 (below_step z9_35 hb); clear HO0_1 BK303 HB; have HO0_1 := n0_; have BK303 := n1_; have HB := n2_; clear n0_ n1_ n2_; (try clear hb)))
  go_ret
  exact ⟨_, (by first | rfl | (simp [errW_none, errW_some] <;> rfl) | (simp [*, errW_none, errW_some] <;> rfl)), z9_98, z9_35⟩
 subst c3
 rw [if_pos rfl] at H
 have H' := mk0 H
 clear H
 go_enter Try.func8, Try.ntmps8
 go_wp2_with (first | ((with_reducible refine gate_dst (N := 1) rfl ?_); refine boxz (cs := #[.slice A0_0 l0_0.length c0_0, .slice A0_1 l0_1.length c0_1]) (t := 31) rfl ?_; intro gb303 hg w4 hbox hb; have n0_ := mk0 (Kd.V_below (Kd.V_elderB (pkV HO0_1) gb303 (Nat.le_of_eq hg.symm)) hb); have n1_ := mk0 (below_step z9_60 hb); have n2_ := mk0 (hbox); have GW303 := mk0 (ge_go (a := w.heap.size) hg (below_size z9_60)); have GE303 := GW303; clear HO0_1 HB; have HO0_1 := n0_; have HB := n1_; have BK303 := n2_; clear n0_ n1_ n2_ ; clear hb hbox hg; obtain ⟨_, _, _, _⟩ := be_2 BK303.out) | ((with_reducible refine gate_callee (f := 27) rfl ?_); refine goesL_ (some 13) rfl rfl Try.func27 (by kernel_rfl) rfl #[.agg #[.slice A0_0 l0_0.length c0_0, .slice A0_1 l0_1.length c0_1]] rfl z9_59 ?_; (with_reducible refine (impl_PathOk.calls k _ _ l0_0 _ _ l0_1 true _ ?side1 ?side2 ?side3 ?side4 A2.out).mono ?_); (case side1 => exact z9_95); (case side2 => exact HC0_0.out); (case side3 => exact z9_97); (case side4 => exact (Kd.V_reads' HO0_1.out).2.1); rintro e w6 ⟨rfl, hb⟩; refine ⟨_, rfl, ?_⟩; have n0_ := mk0 (Kd.V_below (pkV HO0_1) hb); have n1_ := mk0 (blk_belowB BK303 (pkb BK303) hb); have n2_ := mk0 (below_step z9_35 hb); clear HO0_1 BK303 HB; have HO0_1 := n0_; have BK303 := n1_; have HB := n2_; clear n0_ n1_ n2_; (try clear hb); obtain ⟨_, _, _, _⟩ := be_2 BK303.out))
 go_loopg [3, 4, 20] k (fun kq v3 v4 v20 w' => ∃ (x3_1 : List (List (S46))) (x4_1 : List (S46)) (x20_1 : Int), v20 = .int .i64 x20_1 ∧ Aside0 (impl_FlatOf.l0 kq x3_1 x4_1 l0_0 (l0_0.length : Int) x20_1 = some r) ∧ Aside0 (kq ≤ k) ∧ Aside0 (Kd.S (Kd.slice 46 k46) 29 w' w.heap.size (fun k_ => (w.heap.size ≤ k_)) v3 x3_1) ∧ Aside0 (Kd.V k46 46 w' w.heap.size (fun k_ => ((P0_1_ k_) ∧ k_ < w.heap.size) ∧ some k_ ≠ (v3 : Value).ownBlock ∧ k_ ≠ gb303) v4 x4_1) ∧ Aside0 (Kd.V k46 46 w' w.heap.size (fun k_ => ((P0_1_ k_) ∧ k_ < w.heap.size) ∧ some k_ ≠ (v3 : Value).ownBlock ∧ k_ ≠ gb303) (.slice A0_1 l0_1.length c0_1) l0_1) ∧ Aside0 (w'.heap[gb303]? = some (.cells #[(.slice A0_0 l0_0.length c0_0), (.slice A0_1 l0_1.length c0_1)] 31 (0, 0))) ∧ Aside0 (Below w.heap.size w w'))
 case atStart => exact ⟨(([] : List (List (S46)))), (l0_1), (0), rs0, H', ⟨Nat.le_refl _⟩, ⟨z9_98⟩, ⟨z9_96⟩, ⟨z9_96⟩, ⟨pkb BK303⟩, ⟨z9_35⟩⟩
 case round =>
  clear H'
  try clear c2
  try clear p2
  try clear c3
  try clear hcz5_0
  try clear hcz5_1
  try clear hcz7_0
  try clear hcz7_1
  try clear hfz5_0
  try clear hfz5_1
  try clear hfz7_0
  try clear hfz7_1
  obtain ⟨x3_1, x4_1, x20_1, rfl, HA, HK1, HO_3, HO_4, HO_304001, BK303, HB⟩ := hrel
  cases gk with
  | zero => exact absurd HA.out (by simp [impl_FlatOf.l0])
  | succ k1 =>
   have H := HA.out; clear HA
   simp only [impl_FlatOf.l0] at H
   by_cases c8 : x20_1 < (l0_0.length : Int)
   rotate_left
   ·rw [if_neg c8] at H
    have c8b0 := decide_eq_false c8
    clear c8
    obtain rfl := Option.some.inj H
    simp only [Option.some.injEq, Prod.mk.injEq] at H
    obtain ⟨rfl⟩ := H
    go_wp2
    go_ret
    exact ⟨_, (by first | rfl | (simp [errW_none, errW_some] <;> rfl) | (simp [*, errW_none, errW_some] <;> rfl)), (pkS HO_3), z9_35⟩
   rw [if_pos c8] at H
   have c8b0 := decide_eq_true c8
   clear c8
   by_cases c9 : 0 ≤ x20_1
   rotate_left
   ·rw [if_neg c9] at H
    exact absurd H (by simp)
   rw [if_pos c9] at H
   have c9b0 := decide_eq_true c9
   clear c9
   by_cases c10 : x20_1 < (l0_0.length : Int)
   rotate_left
   ·rw [if_neg c10] at H
    exact absurd H (by simp)
   rw [if_pos c10] at H
   have c10b0 := decide_eq_true c10
   clear c10
   replace H := Option.bind_eq_some_iff.mp H
   obtain ⟨t306, A110, H⟩ := H
   try dsimp only at H
   have A11 := mk0 A110
   clear A110
   by_cases c12 : 0 ≤ t306
   rotate_left
   ·rw [if_neg c12] at H
    exact absurd H (by simp)
   rw [if_pos c12] at H
   have c12b0 := eq_true c12
   have c12b1 := decide_eq_true c12
   clear c12
   by_cases c13 : t306 ≤ (x4_1.length : Int)
   rotate_left
   ·rw [if_neg c13] at H
    exact absurd H (by simp)
   rw [if_pos c13] at H
   have c13b0 := eq_true c13
   have c13b1 := decide_eq_true c13
   clear c13
   obtain ⟨y307, hy_⟩ : ∃ y_ : List (S46), y_ = (x4_1.take (t306 : Int).toNat) := ⟨_, rfl⟩
   replace H : ((some (x4_1.drop (t306 : Int).toNat : List (S46))).bind fun y312 => (if (rd l0_0 x20_1) = 1 then ((impl_flatten.f k1 (rd l0_0 x20_1) 0 0 y307).bind fun t317 => (if x3_1.length < 5864062014805 then (impl_FlatOf.l0 k1 (x3_1 ++ [t317]) y312 l0_0 (l0_0.length : Int) (wrap64 (x20_1 + 1))) else (none))) else (if 0 ≤ (wrap64 ((x3_1.length : Int) - 1)) then (if (wrap64 ((x3_1.length : Int) - 1)) < (x3_1.length : Int) then (if 0 < ((rd_L3 x3_1 (wrap64 ((x3_1.length : Int) - 1))).length : Int) then (if 0 ≤ (wrap64 (((rd_L3 x3_1 (wrap64 ((x3_1.length : Int) - 1))).length : Int) - 1)) then (if (wrap64 (((rd_L3 x3_1 (wrap64 ((x3_1.length : Int) - 1))).length : Int) - 1)) < ((rd_L3 x3_1 (wrap64 ((x3_1.length : Int) - 1))).length : Int) then (if (rd l0_0 x20_1) = 5 then (if (!(((rd_T46 (rd_L3 x3_1 (wrap64 ((x3_1.length : Int) - 1))) 0).f0) == ((rd_T46 (rd_L3 x3_1 (wrap64 ((x3_1.length : Int) - 1))) (wrap64 (((rd_L3 x3_1 (wrap64 ((x3_1.length : Int) - 1))).length : Int) - 1))).f0)) || (!(((rd_T46 (rd_L3 x3_1 (wrap64 ((x3_1.length : Int) - 1))) 0).f1) == ((rd_T46 (rd_L3 x3_1 (wrap64 ((x3_1.length : Int) - 1))) (wrap64 (((rd_L3 x3_1 (wrap64 ((x3_1.length : Int) - 1))).length : Int) - 1))).f1)))) = true then (if (rd_L3 x3_1 (wrap64 ((x3_1.length : Int) - 1))).length < 8796093022208 then ((some (x3_1.set ((wrap64 ((x3_1.length : Int) - 1)) : Int).toNat ((rd_L3 x3_1 (wrap64 ((x3_1.length : Int) - 1))) ++ [(⟨(rd_T46 (rd_L3 x3_1 (wrap64 ((x3_1.length : Int) - 1))) 0).f0, (rd_T46 (rd_L3 x3_1 (wrap64 ((x3_1.length : Int) - 1))) 0).f1⟩ : S46)]) : List (List (S46)))).bind fun y334 => ((impl_flatten.f k1 (rd l0_0 x20_1) ((rd_T46 (rd_L3 x3_1 (wrap64 ((x3_1.length : Int) - 1))) (wrap64 (((rd_L3 x3_1 (wrap64 ((x3_1.length : Int) - 1))).length : Int) - 1))).f0) ((rd_T46 (rd_L3 x3_1 (wrap64 ((x3_1.length : Int) - 1))) (wrap64 (((rd_L3 x3_1 (wrap64 ((x3_1.length : Int) - 1))).length : Int) - 1))).f1) y307).bind fun t336 => (if (rd_L3 y334 (wrap64 ((x3_1.length : Int) - 1))).length + t336.length < 8796093022208 then (impl_FlatOf.l0 k1 (y334.set ((wrap64 ((x3_1.length : Int) - 1)) : Int).toNat ((rd_L3 y334 (wrap64 ((x3_1.length : Int) - 1))) ++ t336)) y312 l0_0 (l0_0.length : Int) (wrap64 (x20_1 + 1))) else (none)))) else (none)) else ((impl_flatten.f k1 (rd l0_0 x20_1) ((rd_T46 (rd_L3 x3_1 (wrap64 ((x3_1.length : Int) - 1))) (wrap64 (((rd_L3 x3_1 (wrap64 ((x3_1.length : Int) - 1))).length : Int) - 1))).f0) ((rd_T46 (rd_L3 x3_1 (wrap64 ((x3_1.length : Int) - 1))) (wrap64 (((rd_L3 x3_1 (wrap64 ((x3_1.length : Int) - 1))).length : Int) - 1))).f1) y307).bind fun t344 => (if (rd_L3 x3_1 (wrap64 ((x3_1.length : Int) - 1))).length + t344.length < 8796093022208 then (impl_FlatOf.l0 k1 (x3_1.set ((wrap64 ((x3_1.length : Int) - 1)) : Int).toNat ((rd_L3 x3_1 (wrap64 ((x3_1.length : Int) - 1))) ++ t344)) y312 l0_0 (l0_0.length : Int) (wrap64 (x20_1 + 1))) else (none)))) else ((impl_flatten.f k1 (rd l0_0 x20_1) ((rd_T46 (rd_L3 x3_1 (wrap64 ((x3_1.length : Int) - 1))) (wrap64 (((rd_L3 x3_1 (wrap64 ((x3_1.length : Int) - 1))).length : Int) - 1))).f0) ((rd_T46 (rd_L3 x3_1 (wrap64 ((x3_1.length : Int) - 1))) (wrap64 (((rd_L3 x3_1 (wrap64 ((x3_1.length : Int) - 1))).length : Int) - 1))).f1) y307).bind fun t352 => (if (rd_L3 x3_1 (wrap64 ((x3_1.length : Int) - 1))).length + t352.length < 8796093022208 then (impl_FlatOf.l0 k1 (x3_1.set ((wrap64 ((x3_1.length : Int) - 1)) : Int).toNat ((rd_L3 x3_1 (wrap64 ((x3_1.length : Int) - 1))) ++ t352)) y312 l0_0 (l0_0.length : Int) (wrap64 (x20_1 + 1))) else (none)))) else (none)) else (none)) else (none)) else (none)) else (none)))) = some r := z9_38
   have Ny307 := mk0 hy_
   clear hy_
   have c14b0 := eq_true (of_decide_eq_true (by first | (with_reducible assumption) | assumption) : 0 ≤ t306)
   have c15b0 := eq_true (of_decide_eq_true (by first | (with_reducible assumption) | assumption) : t306 ≤ (x4_1.length : Int))
   obtain ⟨y312, hy_⟩ : ∃ y_ : List (S46), y_ = (x4_1.drop (t306 : Int).toNat) := ⟨_, rfl⟩
   replace H : (if (rd l0_0 x20_1) = 1 then ((impl_flatten.f k1 (rd l0_0 x20_1) 0 0 y307).bind fun t317 => (if x3_1.length < 5864062014805 then (impl_FlatOf.l0 k1 (x3_1 ++ [t317]) y312 l0_0 (l0_0.length : Int) (wrap64 (x20_1 + 1))) else (none))) else (if 0 ≤ (wrap64 ((x3_1.length : Int) - 1)) then (if (wrap64 ((x3_1.length : Int) - 1)) < (x3_1.length : Int) then (if 0 < ((rd_L3 x3_1 (wrap64 ((x3_1.length : Int) - 1))).length : Int) then (if 0 ≤ (wrap64 (((rd_L3 x3_1 (wrap64 ((x3_1.length : Int) - 1))).length : Int) - 1)) then (if (wrap64 (((rd_L3 x3_1 (wrap64 ((x3_1.length : Int) - 1))).length : Int) - 1)) < ((rd_L3 x3_1 (wrap64 ((x3_1.length : Int) - 1))).length : Int) then (if (rd l0_0 x20_1) = 5 then (if (!(((rd_T46 (rd_L3 x3_1 (wrap64 ((x3_1.length : Int) - 1))) 0).f0) == ((rd_T46 (rd_L3 x3_1 (wrap64 ((x3_1.length : Int) - 1))) (wrap64 (((rd_L3 x3_1 (wrap64 ((x3_1.length : Int) - 1))).length : Int) - 1))).f0)) || (!(((rd_T46 (rd_L3 x3_1 (wrap64 ((x3_1.length : Int) - 1))) 0).f1) == ((rd_T46 (rd_L3 x3_1 (wrap64 ((x3_1.length : Int) - 1))) (wrap64 (((rd_L3 x3_1 (wrap64 ((x3_1.length : Int) - 1))).length : Int) - 1))).f1)))) = true then (if (rd_L3 x3_1 (wrap64 ((x3_1.length : Int) - 1))).length < 8796093022208 then ((some (x3_1.set ((wrap64 ((x3_1.length : Int) - 1)) : Int).toNat ((rd_L3 x3_1 (wrap64 ((x3_1.length : Int) - 1))) ++ [(⟨(rd_T46 (rd_L3 x3_1 (wrap64 ((x3_1.length : Int) - 1))) 0).f0, (rd_T46 (rd_L3 x3_1 (wrap64 ((x3_1.length : Int) - 1))) 0).f1⟩ : S46)]) : List (List (S46)))).bind fun y334 => ((impl_flatten.f k1 (rd l0_0 x20_1) ((rd_T46 (rd_L3 x3_1 (wrap64 ((x3_1.length : Int) - 1))) (wrap64 (((rd_L3 x3_1 (wrap64 ((x3_1.length : Int) - 1))).length : Int) - 1))).f0) ((rd_T46 (rd_L3 x3_1 (wrap64 ((x3_1.length : Int) - 1))) (wrap64 (((rd_L3 x3_1 (wrap64 ((x3_1.length : Int) - 1))).length : Int) - 1))).f1) y307).bind fun t336 => (if (rd_L3 y334 (wrap64 ((x3_1.length : Int) - 1))).length + t336.length < 8796093022208 then (impl_FlatOf.l0 k1 (y334.set ((wrap64 ((x3_1.length : Int) - 1)) : Int).toNat ((rd_L3 y334 (wrap64 ((x3_1.length : Int) - 1))) ++ t336)) y312 l0_0 (l0_0.length : Int) (wrap64 (x20_1 + 1))) else (none)))) else (none)) else ((impl_flatten.f k1 (rd l0_0 x20_1) ((rd_T46 (rd_L3 x3_1 (wrap64 ((x3_1.length : Int) - 1))) (wrap64 (((rd_L3 x3_1 (wrap64 ((x3_1.length : Int) - 1))).length : Int) - 1))).f0) ((rd_T46 (rd_L3 x3_1 (wrap64 ((x3_1.length : Int) - 1))) (wrap64 (((rd_L3 x3_1 (wrap64 ((x3_1.length : Int) - 1))).length : Int) - 1))).f1) y307).bind fun t344 => (if (rd_L3 x3_1 (wrap64 ((x3_1.length : Int) - 1))).length + t344.length < 8796093022208 then (impl_FlatOf.l0 k1 (x3_1.set ((wrap64 ((x3_1.length : Int) - 1)) : Int).toNat ((rd_L3 x3_1 (wrap64 ((x3_1.length : Int) - 1))) ++ t344)) y312 l0_0 (l0_0.length : Int) (wrap64 (x20_1 + 1))) else (none)))) else ((impl_flatten.f k1 (rd l0_0 x20_1) ((rd_T46 (rd_L3 x3_1 (wrap64 ((x3_1.length : Int) - 1))) (wrap64 (((rd_L3 x3_1 (wrap64 ((x3_1.length : Int) - 1))).length : Int) - 1))).f0) ((rd_T46 (rd_L3 x3_1 (wrap64 ((x3_1.length : Int) - 1))) (wrap64 (((rd_L3 x3_1 (wrap64 ((x3_1.length : Int) - 1))).length : Int) - 1))).f1) y307).bind fun t352 => (if (rd_L3 x3_1 (wrap64 ((x3_1.length : Int) - 1))).length + t352.length < 8796093022208 then (impl_FlatOf.l0 k1 (x3_1.set ((wrap64 ((x3_1.length : Int) - 1)) : Int).toNat ((rd_L3 x3_1 (wrap64 ((x3_1.length : Int) - 1))) ++ t352)) y312 l0_0 (l0_0.length : Int) (wrap64 (x20_1 + 1))) else (none)))) else (none)) else (none)) else (none)) else (none)) else (none))) = some r := z9_38
   have Ny312 := mk0 hy_
   clear hy_
   by_cases c16 : (rd l0_0 x20_1) = 1
   ·rw [if_pos c16] at H
    have c16b0 : ((rd l0_0 x20_1) == 1) = true := beq_iff_eq.mpr c16
    have c16b1 : ((rd l0_0 x20_1) != 1) = false := bne_eq_false_iff_eq.mpr c16
    clear c16
    replace H := Option.bind_eq_some_iff.mp H
    obtain ⟨t317, A170, H⟩ := H
    try dsimp only at H
    have A17 := mk0 A170
    clear A170
    by_cases c18 : x3_1.length < 5864062014805
    rotate_left
    ·rw [if_neg c18] at H
     exact absurd H (by simp)
    rw [if_pos c18] at H
    have LMc18 := mk0 c18
    clear c18
    obtain ⟨y320, hy_⟩ : ∃ y_ : List (List (S46)), y_ = (x3_1 ++ [t317]) := ⟨_, rfl⟩
    replace H : (impl_FlatOf.l0 k1 y320 y312 l0_0 (l0_0.length : Int) (wrap64 (x20_1 + 1))) = some r := z9_38
    have Ny320 := mk0 hy_
    clear hy_
    have H' := mk0 H
    clear H
    have p305 : 0 ≤ (x20_1 : Int) := of_decide_eq_true (by first | (with_reducible assumption) | assumption)
    have q305 : x20_1 < (l0_0.length : Int) := of_decide_eq_true (by first | (with_reducible assumption) | assumption)
    obtain ⟨ad305, e305, hx305_0⟩ := Kd.at_int HR0_0.out x20_1 p305 q305
    cases e305
    replace hx305_0 := cell_go HB hx305_0
    replace p305 := eq_true p305
    replace q305 := eq_true q305
    go_wp2_with (first | ((with_reducible refine gate_callee (f := 28) rfl ?_); refine goesL_ (some 25) rfl rfl Try.func28 (by kernel_rfl) rfl #[.int .i64 (rd l0_0 x20_1)] rfl z9_59 ?_; (with_reducible refine (impl_NeedOf.calls k1 (rd l0_0 x20_1) t306 _ A11.out).mono ?_); rintro e w' ⟨rfl, ⟨nd, rfl⟩⟩; refine ⟨_, rfl, ?_⟩; obtain ⟨Ao20, co20, eo20⟩ := Kd.V_slice HO_4.out; subst eo20; have q19 : (t306 : Int) ≤ ((x4_1.length : Int) : Int) := of_decide_eq_true (by first | (with_reducible assumption) | assumption); obtain ⟨i019, hi019, _, hsz19, _⟩ := info_parts info46; have hroom19 : x4_1.length ≤ co20 := (Kd.V_reads' HO_4.out).2.1; have hC19 : Kd.F k46 _ _ Ao20 x4_1.length x4_1 := (Kd.V_at (base := w.heap.size) HO_4.out).2.2; have hcut19 := cut_to (P := Try.prog) 29 46 .i64 Try.underlying29 hi019 Ao20 x4_1.length co20 t306 (of_decide_eq_true (by first | (with_reducible assumption) | assumption)) q19 hroom19; have hr19 := Kd.F_take (m := (t306 : Int).toNat) hC19 (by omega); have hy19 : y307.length = (t306 : Int).toNat := (by rw [Ny307.out, List.length_take]; omega); rw [← Ny307.out] at hr19; rw [← hy19] at hcut19; have HO311 := mk0 (show Kd.V k46 46 _ w.heap.size _ (.slice Ao20 y307.length co20) y307 from Kd.V_mk (by omega) hr19); have HC311 := mk0 (show y307.length ≤ co20 from by omega); clear hr19 hC19 hroom19 hi019 hsz19; have KY19 := mk0 hy19; clear hy19; replace q19 := eq_true q19; have q21 : (t306 : Int) ≤ ((x4_1.length : Int) : Int) := of_decide_eq_true (by first | (with_reducible assumption) | assumption); obtain ⟨i021, hi021, _, hsz21, _⟩ := info_parts info46; have hroom21 : x4_1.length ≤ co20 := (Kd.V_reads' HO_4.out).2.1; have hC21 : Kd.F k46 _ _ Ao20 x4_1.length x4_1 := (Kd.V_at (base := w.heap.size) HO_4.out).2.2; have q021 : (0 : Int) ≤ (t306 : Int) := of_decide_eq_true (by first | (with_reducible assumption) | assumption); have hcut21 := cut_from (P := Try.prog) 29 46 .i64 Try.underlying29 hi021 2 hsz21 Ao20 x4_1.length co20 t306 q021 q21; have hr21 := Kd.F_cut (m := (t306 : Int).toNat) (c := co20) hC21 (by omega) hroom21; obtain ⟨A21, hA21⟩ : ∃ A1, A1 = (if co20 = (t306 : Int).toNat then Ao20 else (Ao20 : Option Addr).map (·.add ((t306 : Int).toNat * 2))) := ⟨_, rfl⟩; obtain ⟨c21, hc21⟩ : ∃ c1, c1 = co20 - (t306 : Int).toNat := ⟨_, rfl⟩; have hy21 : y312.length = x4_1.length - (t306 : Int).toNat := (by rw [Ny312.out, List.length_drop] <;> omega); rw [show (x4_1).drop (t306 : Int).toNat = y312 from Ny312.out.symm] at hr21; replace hr21 : Kd.F k46 _ _ A21 y312.length y312 := (by rw [hA21]; exact hr21); rw [← hy21, ← hA21, ← hc21] at hcut21; have HO316 := mk0 (show Kd.V k46 46 _ w.heap.size _ (.slice A21 y312.length c21) y312 from Kd.V_mk (by rw [hy21, hc21]; exact Nat.sub_le_sub_right hroom21 _) hr21); have HC316 := mk0 (show y312.length ≤ c21 from by rw [hy21, hc21]; exact Nat.sub_le_sub_right hroom21 _); clear hr21 hC21 hroom21 hi021 hsz21 hc21; have KY21 := mk0 hy21; have KA21 := mk0 hA21; clear hy21 hA21; replace q21 := eq_true q21) | ((with_reducible refine gate_callee (f := 29) rfl ?_); refine goesL_ (some 38) rfl rfl Try.func29 (by kernel_rfl) rfl #[.int .i64 (rd l0_0 x20_1), .agg #[.int .i64 0, .int .i64 0], .slice Ao20 y307.length co20] rfl z9_59 ?_; (with_reducible refine (impl_flatten.calls k1 (rd l0_0 x20_1) 0 0 _ _ y307 t317 _ ?side1 ?side2 A17.out).mono ?_); (case side1 => exact z9_61); (case side2 => exact (Kd.V_reads' HO311.out).2.1); rintro e w22 ⟨v318, rfl, ho0, hb⟩; refine ⟨_, rfl, ?_⟩; have n0_ := mk0 (Kd.S_elder' (pkS HO_3) (Kd.R_base ho0) hb); have n1_ := mk0 (Kd.V_elder' (pkV HO_4) (Kd.R_base ho0) hb); have n2_ := mk0 (Kd.V_elder' (pkV HO_304001) (Kd.R_base ho0) hb); have n3_ := mk0 (Kd.V_elder' (pkV HO311) (Kd.R_base ho0) hb); have n4_ := mk0 (Kd.V_elder' (pkV HO316) (Kd.R_base ho0) hb); have n5_ := mk0 (Kd.R_lower (Kd.R_newM (M := fun k_ => (w.heap.size ≤ k_)) ho0 (below_size z9_35) (fun k_ h_ => h_)) (below_size z9_35)); have n6_ := mk0 (blk_belowB BK303 (pkb BK303) hb); have n7_ := mk0 (below_step z9_35 hb); clear HO_3 HO_4 HO_304001 HO311 HO316 BK303 HB; have HO_3 := n0_; have HO_4 := n1_; have HO_304001 := n2_; have HO311 := n3_; have HO316 := n4_; have HO319 := n5_; have BK303 := n6_; have HB := n7_; clear n0_ n1_ n2_ n3_ n4_ n5_ n6_ n7_; (try clear hb); (try clear hk); (try clear ho0); obtain ⟨Ao24, co24, eo24⟩ := Kd.R_slice HO319.out; subst eo24) | ((with_reducible refine gate_builtin (b := .append) (xs := #[.tmp 34, .tmp 39]) rfl ?_); at_builtin; refine Kd.S_append (Kd.slice 46 k46) (w0 := w) w.heap.size rfl (.tmp 34) (.tmp 39) 27 29 (.slice none 0 0) 24 rfl Try.underlying27 info29 rfl (by decide) (by omega) u3 x3_1 t317 [.slice Ao24 t317.length co24] (fun k_ => (w.heap.size ≤ k_)) (fun k_ => some k_ = (.slice Ao24 t317.length co24 : Value).ownBlock) rfl rfl ?aP (fun k_ hk_ => ((Kd.R_mono (ok' := fun k_ => ((fun k_ => (w.heap.size ≤ k_))) k_ ∧ some k_ ≠ (u3 : Value).ownBlock) (Kd.R_apart' (HO319.out) (Kd.S_typed HO_3.out) (by decide)) (fun k_ hk => ⟨hk.1.1, hk.2⟩))).1 k_ hk_.symm) ?aF ?aO ?aB ?aS ?aL ?_; (case aP => exact Kd.M_row (Kd.R_mono (Kd.R_tight rfl (Kd.R_mono (ok' := fun k_ => ((fun k_ => (w.heap.size ≤ k_))) k_ ∧ some k_ ≠ (u3 : Value).ownBlock) (Kd.R_apart' (HO319.out) (Kd.S_typed HO_3.out) (by decide)) (fun k_ hk => ⟨hk.1.1, hk.2⟩))) (fun _ h_ => h_))); (case aB => exact z9_35); (case aF => exact (fun k_ hk => (Nat.le_trans (below_size z9_35) hk))); (case aO => exact (by (with_reducible repeat (first | apply Kd.S_alloc | apply Kd.S_drewN | apply Kd.S_drew)); exact Kd.S_mono HO_3.out (fun k_ hk => ⟨hk.1, fun e_ => hk.2 e_⟩))); (case aS => exact (below_size z9_35)); (case aL => have := LMc18.out; omega); intro v321 w23 ho hb hg hat; rw [← Ny320.out] at ho; have n0_ := mk0 (Kd.V_afterv (ok := (fun k_ => ((P0_1_ k_) ∧ k_ < w.heap.size) ∧ some k_ ≠ (.slice Ao24 t317.length co24 : Value).ownBlock ∧ k_ ≠ gb303)) (by (with_reducible repeat (first | apply Kd.V_alloc | apply Kd.V_drewN | apply Kd.V_drew)); exact Kd.V_mono HO_4.out (fun _ hk => ⟨⟨hk.1.1, ⟨hk.2, hk.1.2.2⟩⟩, hk.1.2.1⟩)) hg hat); have n1_ := mk0 (Kd.V_afterv (ok := (fun k_ => ((P0_1_ k_) ∧ k_ < w.heap.size) ∧ some k_ ≠ (.slice Ao24 t317.length co24 : Value).ownBlock ∧ k_ ≠ gb303)) (by (with_reducible repeat (first | apply Kd.V_alloc | apply Kd.V_drewN | apply Kd.V_drew)); exact Kd.V_mono HO_304001.out (fun _ hk => ⟨⟨hk.1.1, ⟨hk.2, hk.1.2.2⟩⟩, hk.1.2.1⟩)) hg hat); have n2_ := mk0 (blk_grown (g := gb303) (o := .cells #[.slice (some ad305) l0_0.length c0_0, .slice A0_1 l0_1.length c0_1] 31 (0, 0)) (pkb BK303) hg (Kd.S_ne HO_3.out BK303.out (by decide))); have n3_ := mk0 (Kd.V_afterv (ok := (fun k_ => ((P0_1_ k_) ∧ k_ < w.heap.size) ∧ some k_ ≠ (.slice Ao24 t317.length co24 : Value).ownBlock ∧ k_ ≠ gb303)) (by (with_reducible repeat (first | apply Kd.V_alloc | apply Kd.V_drewN | apply Kd.V_drew)); exact Kd.V_mono HO311.out (fun _ hk => ⟨⟨hk.1.1, ⟨hk.2, hk.1.2.2⟩⟩, hk.1.2.1⟩)) hg hat); have n4_ := mk0 (Kd.V_afterv (ok := (fun k_ => ((P0_1_ k_) ∧ k_ < w.heap.size) ∧ some k_ ≠ (.slice Ao24 t317.length co24 : Value).ownBlock ∧ k_ ≠ gb303)) (by (with_reducible repeat (first | apply Kd.V_alloc | apply Kd.V_drewN | apply Kd.V_drew)); exact Kd.V_mono HO316.out (fun _ hk => ⟨⟨hk.1.1, ⟨hk.2, hk.1.2.2⟩⟩, hk.1.2.1⟩)) hg hat); have n5_ := mk0 (hb); have n6_ := mk0 (ho); clear HO_4 HO_304001 BK303 HO311 HO316 HB HO_3 HO319; have HO_4 := n0_; have HO_304001 := n1_; have BK303 := n2_; have HO311 := n3_; have HO316 := n4_; have HB := n5_; have HO322 := n6_; clear n0_ n1_ n2_ n3_ n4_ n5_ n6_ ho hb hg hat))
    go_roundg k1
    case measure => have := HK1.out; omega
    case rel => exact ⟨(y320), (y312), (wrap64 (x20_1 + 1)), rs0, H', ⟨(by have := HK1.out; omega)⟩, ⟨pkS HO322⟩, ⟨(by (with_reducible repeat (first | apply Kd.V_alloc | apply Kd.V_drewN | apply Kd.V_drew)); exact Kd.V_mono HO316.out (fun _ hk => ⟨hk.1.1, ⟨hk.2, hk.1.2.2⟩⟩))⟩, ⟨(by (with_reducible repeat (first | apply Kd.V_alloc | apply Kd.V_drewN | apply Kd.V_drew)); exact Kd.V_mono HO_304001.out (fun _ hk => ⟨hk.1.1, ⟨hk.2, hk.1.2.2⟩⟩))⟩, ⟨pkb BK303⟩, ⟨z9_35⟩⟩
   rw [if_neg c16] at H
   have c16b0 : ((rd l0_0 x20_1) == 1) = false := beq_eq_false_iff_ne.mpr c16
   have c16b1 : ((rd l0_0 x20_1) != 1) = true := bne_iff_ne.mpr c16
   obtain ⟨ji25, hji25⟩ : ∃ j_ : Int, (wrap64 ((x3_1.length : Int) - 1)) = j_ := ⟨_, rfl⟩
   replace H : (if 0 ≤ (ji25) then (if (ji25) < (x3_1.length : Int) then (if 0 < ((rd_L3 x3_1 (ji25)).length : Int) then (if 0 ≤ (wrap64 (((rd_L3 x3_1 (ji25)).length : Int) - 1)) then (if (wrap64 (((rd_L3 x3_1 (ji25)).length : Int) - 1)) < ((rd_L3 x3_1 (ji25)).length : Int) then (if (rd l0_0 x20_1) = 5 then (if (!(((rd_T46 (rd_L3 x3_1 (ji25)) 0).f0) == ((rd_T46 (rd_L3 x3_1 (ji25)) (wrap64 (((rd_L3 x3_1 (ji25)).length : Int) - 1))).f0)) || (!(((rd_T46 (rd_L3 x3_1 (ji25)) 0).f1) == ((rd_T46 (rd_L3 x3_1 (ji25)) (wrap64 (((rd_L3 x3_1 (ji25)).length : Int) - 1))).f1)))) = true then (if (rd_L3 x3_1 (ji25)).length < 8796093022208 then ((some (x3_1.set ((ji25) : Int).toNat ((rd_L3 x3_1 (ji25)) ++ [(⟨(rd_T46 (rd_L3 x3_1 (ji25)) 0).f0, (rd_T46 (rd_L3 x3_1 (ji25)) 0).f1⟩ : S46)]) : List (List (S46)))).bind fun y334 => ((impl_flatten.f k1 (rd l0_0 x20_1) ((rd_T46 (rd_L3 x3_1 (ji25)) (wrap64 (((rd_L3 x3_1 (ji25)).length : Int) - 1))).f0) ((rd_T46 (rd_L3 x3_1 (ji25)) (wrap64 (((rd_L3 x3_1 (ji25)).length : Int) - 1))).f1) y307).bind fun t336 => (if (rd_L3 y334 (ji25)).length + t336.length < 8796093022208 then (impl_FlatOf.l0 k1 (y334.set ((ji25) : Int).toNat ((rd_L3 y334 (ji25)) ++ t336)) y312 l0_0 (l0_0.length : Int) (wrap64 (x20_1 + 1))) else (none)))) else (none)) else ((impl_flatten.f k1 (rd l0_0 x20_1) ((rd_T46 (rd_L3 x3_1 (ji25)) (wrap64 (((rd_L3 x3_1 (ji25)).length : Int) - 1))).f0) ((rd_T46 (rd_L3 x3_1 (ji25)) (wrap64 (((rd_L3 x3_1 (ji25)).length : Int) - 1))).f1) y307).bind fun t344 => (if (rd_L3 x3_1 (ji25)).length + t344.length < 8796093022208 then (impl_FlatOf.l0 k1 (x3_1.set ((ji25) : Int).toNat ((rd_L3 x3_1 (ji25)) ++ t344)) y312 l0_0 (l0_0.length : Int) (wrap64 (x20_1 + 1))) else (none)))) else ((impl_flatten.f k1 (rd l0_0 x20_1) ((rd_T46 (rd_L3 x3_1 (ji25)) (wrap64 (((rd_L3 x3_1 (ji25)).length : Int) - 1))).f0) ((rd_T46 (rd_L3 x3_1 (ji25)) (wrap64 (((rd_L3 x3_1 (ji25)).length : Int) - 1))).f1) y307).bind fun t352 => (if (rd_L3 x3_1 (ji25)).length + t352.length < 8796093022208 then (impl_FlatOf.l0 k1 (x3_1.set ((ji25) : Int).toNat ((rd_L3 x3_1 (ji25)) ++ t352)) y312 l0_0 (l0_0.length : Int) (wrap64 (x20_1 + 1))) else (none)))) else (none)) else (none)) else (none)) else (none)) else (none)) = some r := by first | (rw [hji25] at H; exact H) | (simp only [hji25] at H ⊢; exact H)
   (try rw [hji25] at A11)
   have hji25w : (IntKind.i64.wrap ((x3_1.length : Int) - 1)) = ji25 := (i64_w _).trans hji25
   by_cases c26 : 0 ≤ (ji25)
   rotate_left
   ·rw [if_neg c26] at H
    exact absurd H (by simp)
   rw [if_pos c26] at H
   have c26b0 := decide_eq_true c26
   clear c26
   by_cases c27 : (ji25) < (x3_1.length : Int)
   rotate_left
   ·rw [if_neg c27] at H
    exact absurd H (by simp)
   rw [if_pos c27] at H
   have c27b0 := decide_eq_true c27
   clear c27
   by_cases c28 : 0 < ((rd_L3 x3_1 (ji25)).length : Int)
   rotate_left
   ·rw [if_neg c28] at H
    exact absurd H (by simp)
   rw [if_pos c28] at H
   have c28b0 := decide_eq_true c28
   have c28b1 : decide (0 < (rd_L3 x3_1 (ji25)).length) = true := decide_eq_true (by omega)
   clear c28
   obtain ⟨ji29, hji29⟩ : ∃ j_ : Int, (wrap64 (((rd_L3 x3_1 (ji25)).length : Int) - 1)) = j_ := ⟨_, rfl⟩
   replace H : (if 0 ≤ (ji29) then (if (ji29) < ((rd_L3 x3_1 (ji25)).length : Int) then (if (rd l0_0 x20_1) = 5 then (if (!(((rd_T46 (rd_L3 x3_1 (ji25)) 0).f0) == ((rd_T46 (rd_L3 x3_1 (ji25)) (ji29)).f0)) || (!(((rd_T46 (rd_L3 x3_1 (ji25)) 0).f1) == ((rd_T46 (rd_L3 x3_1 (ji25)) (ji29)).f1)))) = true then (if (rd_L3 x3_1 (ji25)).length < 8796093022208 then ((some (x3_1.set ((ji25) : Int).toNat ((rd_L3 x3_1 (ji25)) ++ [(⟨(rd_T46 (rd_L3 x3_1 (ji25)) 0).f0, (rd_T46 (rd_L3 x3_1 (ji25)) 0).f1⟩ : S46)]) : List (List (S46)))).bind fun y334 => ((impl_flatten.f k1 (rd l0_0 x20_1) ((rd_T46 (rd_L3 x3_1 (ji25)) (ji29)).f0) ((rd_T46 (rd_L3 x3_1 (ji25)) (ji29)).f1) y307).bind fun t336 => (if (rd_L3 y334 (ji25)).length + t336.length < 8796093022208 then (impl_FlatOf.l0 k1 (y334.set ((ji25) : Int).toNat ((rd_L3 y334 (ji25)) ++ t336)) y312 l0_0 (l0_0.length : Int) (wrap64 (x20_1 + 1))) else (none)))) else (none)) else ((impl_flatten.f k1 (rd l0_0 x20_1) ((rd_T46 (rd_L3 x3_1 (ji25)) (ji29)).f0) ((rd_T46 (rd_L3 x3_1 (ji25)) (ji29)).f1) y307).bind fun t344 => (if (rd_L3 x3_1 (ji25)).length + t344.length < 8796093022208 then (impl_FlatOf.l0 k1 (x3_1.set ((ji25) : Int).toNat ((rd_L3 x3_1 (ji25)) ++ t344)) y312 l0_0 (l0_0.length : Int) (wrap64 (x20_1 + 1))) else (none)))) else ((impl_flatten.f k1 (rd l0_0 x20_1) ((rd_T46 (rd_L3 x3_1 (ji25)) (ji29)).f0) ((rd_T46 (rd_L3 x3_1 (ji25)) (ji29)).f1) y307).bind fun t352 => (if (rd_L3 x3_1 (ji25)).length + t352.length < 8796093022208 then (impl_FlatOf.l0 k1 (x3_1.set ((ji25) : Int).toNat ((rd_L3 x3_1 (ji25)) ++ t352)) y312 l0_0 (l0_0.length : Int) (wrap64 (x20_1 + 1))) else (none)))) else (none)) else (none)) = some r := by first | (rw [hji29] at H; exact H) | (simp only [hji29] at H ⊢; exact H)
   (try rw [hji29] at A11)
   have hji29w : (IntKind.i64.wrap (((rd_L3 x3_1 (ji25)).length : Int) - 1)) = ji29 := (i64_w _).trans hji29
   by_cases c30 : 0 ≤ (ji29)
   rotate_left
   ·rw [if_neg c30] at H
    exact absurd H (by simp)
   rw [if_pos c30] at H
   have c30b0 := decide_eq_true c30
   clear c30
   by_cases c31 : (ji29) < ((rd_L3 x3_1 (ji25)).length : Int)
   rotate_left
   ·rw [if_neg c31] at H
    exact absurd H (by simp)
   rw [if_pos c31] at H
   have c31b0 := decide_eq_true c31
   clear c31
   by_cases c32 : (rd l0_0 x20_1) = 5
   rotate_left
   ·rw [if_neg c32] at H
    have c32b0 : ((rd l0_0 x20_1) == 5) = false := beq_eq_false_iff_ne.mpr c32
    have c32b1 : ((rd l0_0 x20_1) != 5) = true := bne_iff_ne.mpr c32
    replace H := Option.bind_eq_some_iff.mp H
    obtain ⟨t352, A980, H⟩ := H
    try dsimp only at H
    have A98 := mk0 A980
    clear A980
    by_cases c99 : (rd_L3 x3_1 (ji25)).length + t352.length < 8796093022208
    rotate_left
    ·rw [if_neg c99] at H
     exact absurd H (by simp)
    rw [if_pos c99] at H
    have LMc99 := mk0 c99
    clear c99
    obtain ⟨y355, hy_⟩ : ∃ y_ : List (S46), y_ = ((rd_L3 x3_1 (ji25)) ++ t352) := ⟨_, rfl⟩
    replace H : (impl_FlatOf.l0 k1 (x3_1.set ((ji25) : Int).toNat y355) y312 l0_0 (l0_0.length : Int) (wrap64 (x20_1 + 1))) = some r := z9_38
    have Ny355 := mk0 hy_
    clear hy_
    obtain ⟨y358, hy_⟩ : ∃ y_ : List (List (S46)), y_ = (x3_1.set ((ji25) : Int).toNat y355) := ⟨_, rfl⟩
    replace H : (impl_FlatOf.l0 k1 y358 y312 l0_0 (l0_0.length : Int) (wrap64 (x20_1 + 1))) = some r := z9_38
    have Ny358 := mk0 hy_
    clear hy_
    have H' := mk0 H
    clear H
    have p305 : 0 ≤ (x20_1 : Int) := of_decide_eq_true (by first | (with_reducible assumption) | assumption)
    have q305 : x20_1 < (l0_0.length : Int) := of_decide_eq_true (by first | (with_reducible assumption) | assumption)
    obtain ⟨ad305, e305, hx305_0⟩ := Kd.at_int HR0_0.out x20_1 p305 q305
    cases e305
    replace hx305_0 := cell_go HB hx305_0
    replace p305 := eq_true p305
    replace q305 := eq_true q305
    try go_wp2_with (first | ((with_reducible refine gate_callee (f := 28) rfl ?_); refine goesL_ (some 25) rfl rfl Try.func28 (by kernel_rfl) rfl #[.int .i64 (rd l0_0 x20_1)] rfl z9_59 ?_; (with_reducible refine (impl_NeedOf.calls k1 (rd l0_0 x20_1) t306 _ A11.out).mono ?_); rintro e w' ⟨rfl, ⟨nd, rfl⟩⟩; refine ⟨_, rfl, ?_⟩; (try (rw [drewN_self wr]; generalize hq_ : World.drewN wr _ = wr; have n0_ : Aside0 (Kd.S (Kd.slice 46 k46) 29 wr w.heap.size (fun k_ => (w.heap.size ≤ k_)) u3 x3_1) := ⟨(by rw [← hq_]; exact (pkS HO_3))⟩; have n1_ : Aside0 (Kd.V k46 46 wr w.heap.size (fun k_ => ((P0_1_ k_) ∧ k_ < w.heap.size) ∧ some k_ ≠ (u3 : Value).ownBlock ∧ k_ ≠ gb303) (.slice A0_1 l0_1.length c0_1) l0_1) := ⟨(by rw [← hq_]; exact (pkV HO_304001))⟩; have n2_ : Aside0 (Kd.V k46 46 wr w.heap.size (fun k_ => ((P0_1_ k_) ∧ k_ < w.heap.size) ∧ some k_ ≠ (u3 : Value).ownBlock ∧ k_ ≠ gb303) u4 x4_1) := ⟨(by rw [← hq_]; exact (pkV HO_4))⟩; have n3_ : Aside0 (wr.heap[gb303]? = some (.cells #[.slice (some ad305) l0_0.length c0_0, .slice A0_1 l0_1.length c0_1] 31 (0, 0))) := ⟨(by rw [← hq_]; exact (pkb BK303))⟩; have n4_ : Aside0 (Below w.heap.size w wr) := ⟨(by rw [← hq_]; exact z9_35)⟩; clear HO_3 HO_304001 HO_4 BK303 HB hq_; have HO_3 := n0_; have HO_304001 := n1_; have HO_4 := n2_; have BK303 := n3_; have HB := n4_; clear n0_ n1_ n2_ n3_ n4_)); obtain ⟨Ao101, co101, eo101⟩ := Kd.V_slice HO_4.out; subst eo101; have q100 : (t306 : Int) ≤ ((x4_1.length : Int) : Int) := of_decide_eq_true (by first | (with_reducible assumption) | assumption); obtain ⟨i0100, hi0100, _, hsz100, _⟩ := info_parts info46; have hroom100 : x4_1.length ≤ co101 := (Kd.V_reads' HO_4.out).2.1; have hC100 : Kd.F k46 _ _ Ao101 x4_1.length x4_1 := (Kd.V_at (base := w.heap.size) HO_4.out).2.2; have hcut100 := cut_to (P := Try.prog) 29 46 .i64 Try.underlying29 hi0100 Ao101 x4_1.length co101 t306 (of_decide_eq_true (by first | (with_reducible assumption) | assumption)) q100 hroom100; have hr100 := Kd.F_take (m := (t306 : Int).toNat) hC100 (by omega); have hy100 : y307.length = (t306 : Int).toNat := (by rw [Ny307.out, List.length_take]; omega); rw [← Ny307.out] at hr100; rw [← hy100] at hcut100; have HO311 := mk0 (show Kd.V k46 46 _ w.heap.size _ (.slice Ao101 y307.length co101) y307 from Kd.V_mk (by omega) hr100); have HC311 := mk0 (show y307.length ≤ co101 from by omega); clear hr100 hC100 hroom100 hi0100 hsz100; have KY100 := mk0 hy100; clear hy100; replace q100 := eq_true q100; have q102 : (t306 : Int) ≤ ((x4_1.length : Int) : Int) := of_decide_eq_true (by first | (with_reducible assumption) | assumption); obtain ⟨i0102, hi0102, _, hsz102, _⟩ := info_parts info46; have hroom102 : x4_1.length ≤ co101 := (Kd.V_reads' HO_4.out).2.1; have hC102 : Kd.F k46 _ _ Ao101 x4_1.length x4_1 := (Kd.V_at (base := w.heap.size) HO_4.out).2.2; have q0102 : (0 : Int) ≤ (t306 : Int) := of_decide_eq_true (by first | (with_reducible assumption) | assumption); have hcut102 := cut_from (P := Try.prog) 29 46 .i64 Try.underlying29 hi0102 2 hsz102 Ao101 x4_1.length co101 t306 q0102 q102; have hr102 := Kd.F_cut (m := (t306 : Int).toNat) (c := co101) hC102 (by omega) hroom102; obtain ⟨A102, hA102⟩ : ∃ A1, A1 = (if co101 = (t306 : Int).toNat then Ao101 else (Ao101 : Option Addr).map (·.add ((t306 : Int).toNat * 2))) := ⟨_, rfl⟩; obtain ⟨c102, hc102⟩ : ∃ c1, c1 = co101 - (t306 : Int).toNat := ⟨_, rfl⟩; have hy102 : y312.length = x4_1.length - (t306 : Int).toNat := (by rw [Ny312.out, List.length_drop] <;> omega); rw [show (x4_1).drop (t306 : Int).toNat = y312 from Ny312.out.symm] at hr102; replace hr102 : Kd.F k46 _ _ A102 y312.length y312 := (by rw [hA102]; exact hr102); rw [← hy102, ← hA102, ← hc102] at hcut102; have HO316 := mk0 (show Kd.V k46 46 _ w.heap.size _ (.slice A102 y312.length c102) y312 from Kd.V_mk (by rw [hy102, hc102]; exact Nat.sub_le_sub_right hroom102 _) hr102); have HC316 := mk0 (show y312.length ≤ c102 from by rw [hy102, hc102]; exact Nat.sub_le_sub_right hroom102 _); clear hr102 hC102 hroom102 hi0102 hsz102 hc102; have KY102 := mk0 hy102; have KA102 := mk0 hA102; clear hy102 hA102; replace q102 := eq_true q102; obtain ⟨Ao103, co103, eo103⟩ := Kd.S_slice HO_3.out; subst eo103))
    have n0_ := mk0 (Kd.S_drew HO_3.out)
    have n1_ := mk0 (Kd.V_drew HO_4.out)
    have n2_ := mk0 (Kd.V_drew HO_304001.out)
    have n3_ := mk0 (Kd.V_drew HO311.out)
    have n4_ := mk0 (Kd.V_drew HO316.out)
    have n5_ := mk0 (blk_drew BK303.out)
    have n6_ := mk0 (below_drew1 HB.out)
    clear HO_3 HO_4 HO_304001 HO311 HO316 BK303 HB; have HO_3 := n0_; have HO_4 := n1_; have HO_304001 := n2_; have HO311 := n3_; have HO316 := n4_; have BK303 := n5_; have HB := n6_; clear n0_ n1_ n2_ n3_ n4_ n5_ n6_
    have p323 : 0 ≤ ((ji25) : Int) := of_decide_eq_true (by first | (with_reducible assumption) | assumption)
    have q323 : (ji25) < (x3_1.length : Int) := of_decide_eq_true (by first | (with_reducible assumption) | assumption)
    obtain ⟨ad323, A323_0, c323_0, e323, hx323_0, hl323_0, hi323_0⟩ := at_L3 (Kd.S_reads' HO_3.out).2.2 (ji25) p323 q323
    cases e323
    obtain ⟨ce323, hce323, hMe323, hcc323⟩ := Kd.S_get HO_3.out [] (ji25) p323 z9_82
    obtain ⟨ve323_0, rfl, ge323_0⟩ := hMe323
    have hv323_0 := hcc323 0 _ rfl
    rw [Nat.add_zero, show ((Kd.slice 46 k46)).sz = 1 from rfl, Nat.mul_one] at hv323_0
    replace hv323_0 := Option.some.inj (hv323_0.symm.trans hx323_0)
    rw [hv323_0] at ge323_0
    have HL323_0 := mk0 (show Kd.R k46 46 _ _ _ _ (rd_L3 x3_1 (ji25)) from ge323_0)
    clear hv323_0 ge323_0
    have HX323_0 := mk0 hx323_0
    clear hcc323 hce323
    have HR323_0 := mk0 hi323_0
    have HC323_0 := mk0 hl323_0
    clear hi323_0 hl323_0
    replace p323 := eq_true p323
    replace q323 := eq_true q323
    have p324 : 0 ≤ (0 : Int) := (by omega)
    have q324 : 0 < ((rd_L3 x3_1 (ji25)).length : Int) := of_decide_eq_true (by first | (with_reducible assumption) | assumption)
    obtain ⟨ad324, e324, hx324_0, hx324_1⟩ := at_T46 z9_36 0 p324 q324
    cases e324
    have qi324 : (0 < (rd_L3 x3_1 (ji25)).length) = True := eq_true (by omega)
    (try rw [show ((0 : Int)).toNat = 0 from rfl] at hx324_0)
    (try rw [show 0 * 2 = 0 from rfl] at hx324_0)
    (try rw [Addr.add_zero'] at hx324_0)
    (try rw [show ((0 : Int)).toNat = 0 from rfl] at hx324_1)
    (try rw [show 0 * 2 = 0 from rfl] at hx324_1)
    (try rw [Addr.add_zero'] at hx324_1)
    replace p324 := eq_true p324
    replace q324 := eq_true q324
    have p325 : 0 ≤ ((ji25) : Int) := of_decide_eq_true (by first | (with_reducible assumption) | assumption)
    have q325 : (ji25) < (x3_1.length : Int) := of_decide_eq_true (by first | (with_reducible assumption) | assumption)
    obtain ⟨ad325, A325_0, c325_0, e325, hx325_0, hl325_0, hi325_0⟩ := at_L3 (Kd.S_reads' HO_3.out).2.2 (ji25) p325 q325
    obtain rfl : ad323 = ad325 := (by injection e325)
    obtain ⟨ce325, hce325, hMe325, hcc325⟩ := Kd.S_get HO_3.out [] (ji25) p325 z9_83
    obtain ⟨ve325_0, rfl, ge325_0⟩ := hMe325
    have hv325_0 := hcc325 0 _ rfl
    rw [Nat.add_zero, show ((Kd.slice 46 k46)).sz = 1 from rfl, Nat.mul_one] at hv325_0
    replace hv325_0 := Option.some.inj (hv325_0.symm.trans hx325_0)
    rw [hv325_0] at ge325_0
    have HL325_0 := mk0 (show Kd.R k46 46 _ _ _ _ (rd_L3 x3_1 (ji25)) from ge325_0)
    clear hv325_0 ge325_0
    have HX325_0 := mk0 hx325_0
    clear hcc325 hce325
    have HR325_0 := mk0 hi325_0
    have HC325_0 := mk0 hl325_0
    clear hi325_0 hl325_0
    replace p325 := eq_true p325
    replace q325 := eq_true q325
    have ea_ := Option.some.inj (hx323_0.symm.trans hx325_0)
    injection ea_ with ea_ en_ ec_
    subst ea_; subst ec_; clear en_
    have p326 : 0 ≤ ((ji25) : Int) := of_decide_eq_true (by first | (with_reducible assumption) | assumption)
    have q326 : (ji25) < (x3_1.length : Int) := of_decide_eq_true (by first | (with_reducible assumption) | assumption)
    obtain ⟨ad326, A326_0, c326_0, e326, hx326_0, hl326_0, hi326_0⟩ := at_L3 (Kd.S_reads' HO_3.out).2.2 (ji25) p326 q326
    obtain rfl : ad323 = ad326 := (by injection e326)
    obtain ⟨ce326, hce326, hMe326, hcc326⟩ := Kd.S_get HO_3.out [] (ji25) p326 z9_84
    obtain ⟨ve326_0, rfl, ge326_0⟩ := hMe326
    have hv326_0 := hcc326 0 _ rfl
    rw [Nat.add_zero, show ((Kd.slice 46 k46)).sz = 1 from rfl, Nat.mul_one] at hv326_0
    replace hv326_0 := Option.some.inj (hv326_0.symm.trans hx326_0)
    rw [hv326_0] at ge326_0
    have HL326_0 := mk0 (show Kd.R k46 46 _ _ _ _ (rd_L3 x3_1 (ji25)) from ge326_0)
    clear hv326_0 ge326_0
    have HX326_0 := mk0 hx326_0
    clear hcc326 hce326
    have HR326_0 := mk0 hi326_0
    have HC326_0 := mk0 hl326_0
    clear hi326_0 hl326_0
    replace p326 := eq_true p326
    replace q326 := eq_true q326
    have ea_ := Option.some.inj (hx323_0.symm.trans hx326_0)
    injection ea_ with ea_ en_ ec_
    subst ea_; subst ec_; clear en_
    have p327 : 0 ≤ ((ji29) : Int) := of_decide_eq_true (by first | (with_reducible assumption) | assumption)
    have q327 : (ji29) < ((rd_L3 x3_1 (ji25)).length : Int) := of_decide_eq_true (by first | (with_reducible assumption) | assumption)
    obtain ⟨ad327, e327, hx327_0, hx327_1⟩ := at_T46 z9_37 (ji29) p327 q327
    cases e327
    replace p327 := eq_true p327
    replace q327 := eq_true q327
    go_wp2
    refine start_ (n := 19) (S := fun w' => w'.cell? (ad323.add ((ji25)).toNat) = some (.slice (some ad324) (rd_L3 x3_1 (ji25)).length c323_0) ∧ w'.cell? ad324 = some (.int .i64 ((rd_T46 (rd_L3 x3_1 (ji25)) 0).f0)) ∧ w'.cell? ⟨ad324.block, ad324.off + 1, none⟩ = some (.int .i64 ((rd_T46 (rd_L3 x3_1 (ji25)) 0).f1)) ∧ w'.cell? (ad323.add ((ji25)).toNat) = some (.slice (some ad324) (rd_L3 x3_1 (ji25)).length c323_0) ∧ w'.cell? (ad323.add ((ji25)).toNat) = some (.slice (some ad324) (rd_L3 x3_1 (ji25)).length c323_0) ∧ w'.cell? (ad324.add (((ji29)).toNat * 2)) = some (.int .i64 ((rd_T46 (rd_L3 x3_1 (ji25)) (ji29)).f0)) ∧ w'.cell? ⟨(ad324.add (((ji29)).toNat * 2)).block, (ad324.add (((ji29)).toNat * 2)).off + 1, none⟩ = some (.int .i64 ((rd_T46 (rd_L3 x3_1 (ji25)) (ji29)).f1))) (ds := []) y9_0 (by kernel_rfl) rfl rfl ⟨hx323_0, hx324_0, hx324_1, hx325_0, hx326_0, hx327_0, hx327_1⟩ (fun hHeld => ?_); refine with_tabW impl_FlatOf.tab14 impl_FlatOf.bits14 (fun HT_ HW_ => ?_)
    generalize wr.drew = w104 at HO_3 HO_4 HO_304001 HO311 HO316 BK303 HB HL323_0 HL325_0 HL326_0 HR323_0 HR325_0 HR326_0 HX323_0 HX325_0 HX326_0 hx323_0 hx324_0 hx324_1 hx325_0 hx326_0 hx327_0 hx327_1 hHeld ⊢
    refine pzv (i := 0) (N := 46) (v := ?_) (a' := ?_) y9_3 HT_ ?_ ?_ ?_
    rotate_left
    ·intro w'
     go_simp; with_reducible rfl
    rotate_left
    ·exact x9_put
    refine pzv (i := 1) (N := 47) (v := ?_) (a' := ?_) y9_6 HT_ ?_ ?_ ?_
    rotate_left
    ·intro w'
     go_simp; with_reducible rfl
    rotate_left
    ·exact x9_put
    refine pzv (i := 5) (N := 51) (v := ?_) (a' := ?_) y9_9 HT_ ?_ ?_ ?_
    rotate_left
    ·intro w'
     go_simp; with_reducible rfl
    rotate_left
    ·exact x9_put
    refine pzv (i := 6) (N := 52) (v := ?_) (a' := ?_) y9_10 HT_ ?_ ?_ ?_
    rotate_left
    ·intro w'
     go_simp; with_reducible rfl
    rotate_left
    ·exact x9_put
    refine pzv (i := 8) (N := 54) (v := ?_) (a' := ?_) y9_11 HT_ ?_ ?_ ?_
    rotate_left
    ·intro w'
     go_simp; with_reducible rfl
    rotate_left
    ·exact x9_put
    refine pzv (i := 9) (N := 55) (v := ?_) (a' := ?_) y9_12 HT_ ?_ ?_ ?_
    rotate_left
    ·intro w'
     go_simp; with_reducible rfl
    rotate_left
    ·exact x9_put
    refine take_ (i := 2) (N := some 48) (v := ?_) (a' := ?_) y9_15 rfl rfl (take_ofW HT_.out HW_.out (by kernel_rfl)) (fun _ _ _ h => h) (Or.inl ⟨by rfl, ?_⟩) hHeld ?_ ?_
    rotate_left
    ·rintro w' ⟨s0, s1, s2, s3, s4, s5, s6⟩
     go_simp; with_reducible rfl
    rotate_left
    ·exact x9_put
    refine pzv (i := 3) (N := 49) (v := ?_) (a' := ?_) y9_19 HT_ ?_ ?_ ?_
    rotate_left
    ·intro w'
     go_simp; with_reducible rfl
    rotate_left
    ·exact x9_put
    refine take_ (i := 4) (N := some 50) (v := ?_) (a' := ?_) y9_25 rfl rfl (take_ofW HT_.out HW_.out (by kernel_rfl)) (fun _ _ _ h => h) (Or.inl ⟨by rfl, ?_⟩) hHeld ?_ ?_
    rotate_left
    ·rintro w' ⟨s0, s1, s2, s3, s4, s5, s6⟩
     go_simp; with_reducible rfl
    rotate_left
    ·exact x9_put
    refine take_ (i := 7) (N := some 53) (v := ?_) (a' := ?_) y9_29 rfl rfl (take_ofW HT_.out HW_.out (by kernel_rfl)) (fun _ _ _ h => h) (Or.inl ⟨by rfl, ?_⟩) hHeld ?_ ?_
    rotate_left
    ·rintro w' ⟨s0, s1, s2, s3, s4, s5, s6⟩
     go_simp; with_reducible rfl
    rotate_left
    ·exact x9_put
    refine take_ (i := 10) (N := some 56) (v := ?_) (a' := ?_) y9_31 rfl rfl (take_ofW HT_.out HW_.out (by kernel_rfl)) (fun _ _ _ h => h) (Or.inl ⟨by rfl, ?_⟩) hHeld ?_ ?_
    rotate_left
    ·rintro w' ⟨s0, s1, s2, s3, s4, s5, s6⟩
     go_simp; with_reducible rfl
    rotate_left
    ·exact x9_put
    refine pzv (i := 11) (N := 57) (v := ?_) (a' := ?_) y9_32 HT_ ?_ ?_ ?_
    rotate_left
    ·intro w'
     go_simp; with_reducible rfl
    rotate_left
    ·exact x9_put
    refine pzv (i := 12) (N := 58) (v := ?_) (a' := ?_) y9_33 HT_ ?_ ?_ ?_
    rotate_left
    ·intro w'
     go_simp; with_reducible rfl
    rotate_left
    ·exact x9_put
    refine pzv (i := 13) (N := 59) (v := ?_) (a' := ?_) y9_34 HT_ ?_ ?_ ?_
    rotate_left
    ·intro w'
     go_simp; with_reducible rfl
    rotate_left
    ·exact x9_put
    refine take_ (i := 14) (N := some 60) (v := ?_) (a' := ?_) y9_35 rfl rfl (take_ofW HT_.out HW_.out (by kernel_rfl)) (fun _ _ _ h => h) (Or.inl ⟨by rfl, ?_⟩) hHeld ?_ ?_
    rotate_left
    ·rintro w' ⟨s0, s1, s2, s3, s4, s5, s6⟩
     go_simp; with_reducible rfl
    rotate_left
    ·exact x9_put
    refine join_ (σ := Nat × Nat) 2 y9_38 (fun s_ => [(10, .pointer (some ⟨s_.1, 0, none⟩)), (11, .pointer (some ⟨s_.2, 0, none⟩))]) (fun s_ w' => (w'.cell? (ad323.add ((ji25)).toNat) = some (.slice (some ad324) (rd_L3 x3_1 (ji25)).length c323_0) ∧ w'.cell? ad324 = some (.int .i64 ((rd_T46 (rd_L3 x3_1 (ji25)) 0).f0)) ∧ w'.cell? ⟨ad324.block, ad324.off + 1, none⟩ = some (.int .i64 ((rd_T46 (rd_L3 x3_1 (ji25)) 0).f1)) ∧ w'.cell? (ad323.add ((ji25)).toNat) = some (.slice (some ad324) (rd_L3 x3_1 (ji25)).length c323_0) ∧ w'.cell? (ad323.add ((ji25)).toNat) = some (.slice (some ad324) (rd_L3 x3_1 (ji25)).length c323_0) ∧ w'.cell? (ad324.add (((ji29)).toNat * 2)) = some (.int .i64 ((rd_T46 (rd_L3 x3_1 (ji25)) (ji29)).f0)) ∧ w'.cell? ⟨(ad324.add (((ji29)).toNat * 2)).block, (ad324.add (((ji29)).toNat * 2)).off + 1, none⟩ = some (.int .i64 ((rd_T46 (rd_L3 x3_1 (ji25)) (ji29)).f1))) ∧ (Kd.R k46 46 w' w.heap.size (fun k_ => (w.heap.size ≤ k_) ∧ some k_ ≠ (.slice (some ad323) x3_1.length co103 : Value).ownBlock ∧ k_ ≠ s_.1 ∧ k_ ≠ s_.2) (.slice (some ad324) (rd_L3 x3_1 (ji25)).length c323_0) (rd_L3 x3_1 (ji25))) ∧ (Kd.R k46 46 w' w.heap.size (fun k_ => (w.heap.size ≤ k_) ∧ some k_ ≠ (.slice (some ad323) x3_1.length co103 : Value).ownBlock ∧ k_ ≠ s_.1 ∧ k_ ≠ s_.2) (.slice (some ad324) (rd_L3 x3_1 (ji25)).length c323_0) (rd_L3 x3_1 (ji25))) ∧ (Kd.R k46 46 w' w.heap.size (fun k_ => (w.heap.size ≤ k_) ∧ some k_ ≠ (.slice (some ad323) x3_1.length co103 : Value).ownBlock ∧ k_ ≠ s_.1 ∧ k_ ≠ s_.2) (.slice (some ad324) (rd_L3 x3_1 (ji25)).length c323_0) (rd_L3 x3_1 (ji25))) ∧ (Kd.V k46 46 w' w.heap.size (fun k_ => ((P0_1_ k_) ∧ k_ < w.heap.size) ∧ some k_ ≠ (.slice (some ad323) x3_1.length co103 : Value).ownBlock ∧ k_ ≠ gb303 ∧ k_ ≠ s_.1 ∧ k_ ≠ s_.2) (.slice Ao101 y307.length co101) y307) ∧ (Kd.V k46 46 w' w.heap.size (fun k_ => ((P0_1_ k_) ∧ k_ < w.heap.size) ∧ some k_ ≠ (.slice (some ad323) x3_1.length co103 : Value).ownBlock ∧ k_ ≠ gb303 ∧ k_ ≠ s_.1 ∧ k_ ≠ s_.2) (.slice A102 y312.length c102) y312) ∧ (Kd.S (Kd.slice 46 k46) 29 w' w.heap.size (fun k_ => (w.heap.size ≤ k_) ∧ k_ ≠ s_.1 ∧ k_ ≠ s_.2) (.slice (some ad323) x3_1.length co103) x3_1) ∧ (Kd.V k46 46 w' w.heap.size (fun k_ => ((P0_1_ k_) ∧ k_ < w.heap.size) ∧ some k_ ≠ (.slice (some ad323) x3_1.length co103 : Value).ownBlock ∧ k_ ≠ gb303 ∧ k_ ≠ s_.1 ∧ k_ ≠ s_.2) (.slice A0_1 l0_1.length c0_1) l0_1) ∧ (Kd.V k46 46 w' w.heap.size (fun k_ => ((P0_1_ k_) ∧ k_ < w.heap.size) ∧ some k_ ≠ (.slice (some ad323) x3_1.length co103 : Value).ownBlock ∧ k_ ≠ gb303 ∧ k_ ≠ s_.1 ∧ k_ ≠ s_.2) (.slice Ao101 x4_1.length co101) x4_1) ∧ (w'.cell? (ad323.add ((ji25)).toNat) = some (.slice (some ad324) (rd_L3 x3_1 (ji25)).length c323_0)) ∧ (w'.cell? (ad323.add ((ji25)).toNat) = some (.slice (some ad324) (rd_L3 x3_1 (ji25)).length c323_0)) ∧ (w'.cell? (ad323.add ((ji25)).toNat) = some (.slice (some ad324) (rd_L3 x3_1 (ji25)).length c323_0)) ∧ (w'.heap[gb303]? = some (.cells #[.slice (some ad305) l0_0.length c0_0, .slice A0_1 l0_1.length c0_1] 31 (0, 0))) ∧ (w'.heap[s_.1]? = some (.cells #[.int .i64 0, .int .i64 0] 46 (0, 0))) ∧ (w'.heap[s_.2]? = some (.cells #[.int .i64 0, .int .i64 0] 46 (0, 0))) ∧ (w.heap.size ≤ s_.1) ∧ (w.heap.size ≤ s_.1) ∧ (gb303 ≠ s_.1) ∧ (s_.1 ≠ gb303) ∧ (s_.2 ≠ s_.1) ∧ (s_.1 ≠ s_.2) ∧ (w.heap.size ≤ s_.2) ∧ (w.heap.size ≤ s_.2) ∧ (gb303 ≠ s_.2) ∧ (s_.2 ≠ gb303) ∧ (Below w.heap.size w w')) ?_ ?_
    rotate_left
    ·intro hCont
     refine two_ (i := 15) (j := 16) (Ni := some 10) (Nj := some 11) y9_37 y9_36 rfl rfl rfl rfl (two_of HT_.out (by kernel_rfl)) (by decide) (by decide) (fun K hK => ?_) (fun K hK => ?_)
     ·skip
      refine box_step ?hg (N := 10) ?hd (cs := #[.int .i64 0, .int .i64 0]) (t := 46) ?hr ?_; (case hd => rfl); (case hg => rfl); (case hr => first | (go_simp; done) | (go_simp; rfl))
      intro gb328 hg w105 hbox hb
      have HS0_ := (hb.cell (World.block_lt_of_cell? _ _ (hHeld.1))).trans (hHeld.1)
      have HS1_ := (hb.cell (World.block_lt_of_cell? _ _ (hHeld.2.1))).trans (hHeld.2.1)
      have HS2_ := (hb.cell (World.block_lt_of_cell? _ _ (hHeld.2.2.1))).trans (hHeld.2.2.1)
      have HS3_ := (hb.cell (World.block_lt_of_cell? _ _ (hHeld.2.2.2.1))).trans (hHeld.2.2.2.1)
      have HS4_ := (hb.cell (World.block_lt_of_cell? _ _ (hHeld.2.2.2.2.1))).trans (hHeld.2.2.2.2.1)
      have HS5_ := (hb.cell (World.block_lt_of_cell? _ _ (hHeld.2.2.2.2.2.1))).trans (hHeld.2.2.2.2.2.1)
      have HS6_ := (hb.cell (World.block_lt_of_cell? _ _ (hHeld.2.2.2.2.2.2))).trans (hHeld.2.2.2.2.2.2)
      have n0_ := mk0 (Kd.S_below (Kd.S_elderB (pkS HO_3) gb328 (Nat.le_of_eq hg.symm)) hb)
      have n1_ := mk0 (Kd.V_below (Kd.V_elderB (pkV HO_4) gb328 (Nat.le_of_eq hg.symm)) hb)
      have n2_ := mk0 (Kd.V_below (Kd.V_elderB (pkV HO_304001) gb328 (Nat.le_of_eq hg.symm)) hb)
      have n3_ := mk0 (Kd.V_below (Kd.V_elderB (pkV HO311) gb328 (Nat.le_of_eq hg.symm)) hb)
      have n4_ := mk0 (Kd.V_below (Kd.V_elderB (pkV HO316) gb328 (Nat.le_of_eq hg.symm)) hb)
      have n5_ := mk0 (Kd.R_below (Kd.R_elderB (pkR HL323_0) gb328 (Nat.le_of_eq hg.symm)) hb)
      have n6_ := mk0 (Kd.R_below (Kd.R_elderB (pkR HL325_0) gb328 (Nat.le_of_eq hg.symm)) hb)
      have n7_ := mk0 (Kd.R_below (Kd.R_elderB (pkR HL326_0) gb328 (Nat.le_of_eq hg.symm)) hb)
      have n8_ := mk0 (blk_belowB BK303 (pkb BK303) hb)
      have n9_ := mk0 (Kd.C_below z9_36 hb)
      have n10_ := mk0 (pw_cell_below hb HX323_0.out)
      have n11_ := mk0 (Kd.C_below z9_37 hb)
      have n12_ := mk0 (pw_cell_below hb HX325_0.out)
      have n13_ := mk0 (Kd.C_below z9_41 hb)
      have n14_ := mk0 (pw_cell_below hb HX326_0.out)
      have n15_ := mk0 (below_step z9_35 hb)
      have n16_ := mk0 (hbox)
      have n17_ := mk0 (ge_go (a := w.heap.size) hg (below_size z9_35))
      have n18_ := mk0 (ge_go (a := w.heap.size) hg (below_size z9_35))
      have n19_ := mk0 (nb_lt hg (blk_ltB BK303 (pkb BK303)))
      have n20_ := mk0 (nb_gt hg (blk_ltB BK303 (pkb BK303)))
      clear HO_3 HO_4 HO_304001 HO311 HO316 HL323_0 HL325_0 HL326_0 BK303 HR323_0 HX323_0 HR325_0 HX325_0 HR326_0 HX326_0 HB; have HO_3 := n0_; have HO_4 := n1_; have HO_304001 := n2_; have HO311 := n3_; have HO316 := n4_; have HL323_0 := n5_; have HL325_0 := n6_; have HL326_0 := n7_; have BK303 := n8_; have HR323_0 := n9_; have HX323_0 := n10_; have HR325_0 := n11_; have HX325_0 := n12_; have HR326_0 := n13_; have HX326_0 := n14_; have HB := n15_; have BK328 := n16_; have GW328 := n17_; have GE328 := n18_; have NB303_328 := n19_; have NB328_303 := n20_; clear n0_ n1_ n2_ n3_ n4_ n5_ n6_ n7_ n8_ n9_ n10_ n11_ n12_ n13_ n14_ n15_ n16_ n17_ n18_ n19_ n20_ hb hbox hg
      refine hK.out _ _ ⟨HS0_, HS1_, HS2_, HS3_, HS4_, HS5_, HS6_⟩ (fun hHeld => ?_)
      clear hK K
      refine norm_ (a' := ?_) ?_ ?_
      rotate_left
      ·show Act.put _ (some 10) _ = _
       simp only [Act.put, List.setIfInBounds_toArray, List.set_cons_zero, List.set_cons_succ, i64_w, i32_w]
       rfl
      refine one_ (i := 16) (N := some 11) y9_38 rfl rfl (one_of HT_.out (by kernel_rfl)) (by decide) (fun K hK => ?_)
      refine box_step ?hg (N := 11) ?hd (cs := #[.int .i64 0, .int .i64 0]) (t := 46) ?hr ?_; (case hd => rfl); (case hg => rfl); (case hr => first | (go_simp; done) | (go_simp; rfl))
      intro gb329 hg w106 hbox hb
      have HS0_ := (hb.cell (World.block_lt_of_cell? _ _ (hHeld.1))).trans (hHeld.1)
      have HS1_ := (hb.cell (World.block_lt_of_cell? _ _ (hHeld.2.1))).trans (hHeld.2.1)
      have HS2_ := (hb.cell (World.block_lt_of_cell? _ _ (hHeld.2.2.1))).trans (hHeld.2.2.1)
      have HS3_ := (hb.cell (World.block_lt_of_cell? _ _ (hHeld.2.2.2.1))).trans (hHeld.2.2.2.1)
      have HS4_ := (hb.cell (World.block_lt_of_cell? _ _ (hHeld.2.2.2.2.1))).trans (hHeld.2.2.2.2.1)
      have HS5_ := (hb.cell (World.block_lt_of_cell? _ _ (hHeld.2.2.2.2.2.1))).trans (hHeld.2.2.2.2.2.1)
      have HS6_ := (hb.cell (World.block_lt_of_cell? _ _ (hHeld.2.2.2.2.2.2))).trans (hHeld.2.2.2.2.2.2)
      have n0_ := mk0 (Kd.S_below (Kd.S_elderB (pkS HO_3) gb329 (Nat.le_of_eq hg.symm)) hb)
      have n1_ := mk0 (Kd.V_below (Kd.V_elderB (pkV HO_4) gb329 (Nat.le_of_eq hg.symm)) hb)
      have n2_ := mk0 (Kd.V_below (Kd.V_elderB (pkV HO_304001) gb329 (Nat.le_of_eq hg.symm)) hb)
      have n3_ := mk0 (Kd.V_below (Kd.V_elderB (pkV HO311) gb329 (Nat.le_of_eq hg.symm)) hb)
      have n4_ := mk0 (Kd.V_below (Kd.V_elderB (pkV HO316) gb329 (Nat.le_of_eq hg.symm)) hb)
      have n5_ := mk0 (Kd.R_below (Kd.R_elderB (pkR HL323_0) gb329 (Nat.le_of_eq hg.symm)) hb)
      have n6_ := mk0 (Kd.R_below (Kd.R_elderB (pkR HL325_0) gb329 (Nat.le_of_eq hg.symm)) hb)
      have n7_ := mk0 (Kd.R_below (Kd.R_elderB (pkR HL326_0) gb329 (Nat.le_of_eq hg.symm)) hb)
      have n8_ := mk0 (blk_belowB BK303 (pkb BK303) hb)
      have n9_ := mk0 (Kd.C_below z9_36 hb)
      have n10_ := mk0 (pw_cell_below hb HX323_0.out)
      have n11_ := mk0 (Kd.C_below z9_37 hb)
      have n12_ := mk0 (pw_cell_below hb HX325_0.out)
      have n13_ := mk0 (Kd.C_below z9_41 hb)
      have n14_ := mk0 (pw_cell_below hb HX326_0.out)
      have n15_ := mk0 (blk_belowB BK328 (pkb BK328) hb)
      have n16_ := mk0 (below_step z9_46 hb)
      have n17_ := mk0 (hbox)
      have n18_ := mk0 (ge_go (a := w.heap.size) hg (below_size z9_46))
      have n19_ := mk0 (ge_go (a := w.heap.size) hg (below_size z9_46))
      have n20_ := mk0 (nb_lt hg (blk_ltB BK303 (pkb BK303)))
      have n21_ := mk0 (nb_gt hg (blk_ltB BK303 (pkb BK303)))
      have n22_ := mk0 (nb_lt hg (blk_ltB BK328 (pkb BK328)))
      have n23_ := mk0 (nb_gt hg (blk_ltB BK328 (pkb BK328)))
      clear HO_3 HO_4 HO_304001 HO311 HO316 HL323_0 HL325_0 HL326_0 BK303 HR323_0 HX323_0 HR325_0 HX325_0 HR326_0 HX326_0 BK328 HB; have HO_3 := n0_; have HO_4 := n1_; have HO_304001 := n2_; have HO311 := n3_; have HO316 := n4_; have HL323_0 := n5_; have HL325_0 := n6_; have HL326_0 := n7_; have BK303 := n8_; have HR323_0 := n9_; have HX323_0 := n10_; have HR325_0 := n11_; have HX325_0 := n12_; have HR326_0 := n13_; have HX326_0 := n14_; have BK328 := n15_; have HB := n16_; have BK329 := n17_; have GW329 := n18_; have GE329 := n19_; have NB303_329 := n20_; have NB329_303 := n21_; have NB328_329 := n22_; have NB329_328 := n23_; clear n0_ n1_ n2_ n3_ n4_ n5_ n6_ n7_ n8_ n9_ n10_ n11_ n12_ n13_ n14_ n15_ n16_ n17_ n18_ n19_ n20_ n21_ n22_ n23_ hb hbox hg
      refine hK.out _ _ ⟨HS0_, HS1_, HS2_, HS3_, HS4_, HS5_, HS6_⟩ (fun hHeld => ?_)
      clear hK K
      refine norm_ (a' := ?_) ?_ ?_
      rotate_left
      ·show Act.put _ (some 11) _ = _
       simp only [Act.put, List.setIfInBounds_toArray, List.set_cons_zero, List.set_cons_succ, i64_w, i32_w]
       rfl
      exact norm_ z9_63 (hCont (gb328, gb329) _ ⟨hHeld, z9_74, z9_75, z9_76, z9_67, z9_68, z9_80, z9_65, z9_71, HX323_0.out, HX325_0.out, HX326_0.out, (pkb BK303), (pkb BK328), (pkb BK329), GW328.out, GE328.out, NB303_328.out, NB328_303.out, NB329_328.out, NB328_329.out, GW329.out, GE329.out, NB303_329.out, NB329_303.out, z9_34⟩)
     skip
     refine box_step ?hg (N := 11) ?hd (cs := #[.int .i64 0, .int .i64 0]) (t := 46) ?hr ?_; (case hd => rfl); (case hg => rfl); (case hr => first | (go_simp; done) | (go_simp; rfl))
     intro gb329 hg w105 hbox hb
     have HS0_ := (hb.cell (World.block_lt_of_cell? _ _ (hHeld.1))).trans (hHeld.1)
     have HS1_ := (hb.cell (World.block_lt_of_cell? _ _ (hHeld.2.1))).trans (hHeld.2.1)
     have HS2_ := (hb.cell (World.block_lt_of_cell? _ _ (hHeld.2.2.1))).trans (hHeld.2.2.1)
     have HS3_ := (hb.cell (World.block_lt_of_cell? _ _ (hHeld.2.2.2.1))).trans (hHeld.2.2.2.1)
     have HS4_ := (hb.cell (World.block_lt_of_cell? _ _ (hHeld.2.2.2.2.1))).trans (hHeld.2.2.2.2.1)
     have HS5_ := (hb.cell (World.block_lt_of_cell? _ _ (hHeld.2.2.2.2.2.1))).trans (hHeld.2.2.2.2.2.1)
     have HS6_ := (hb.cell (World.block_lt_of_cell? _ _ (hHeld.2.2.2.2.2.2))).trans (hHeld.2.2.2.2.2.2)
     have n0_ := mk0 (Kd.S_below (Kd.S_elderB (pkS HO_3) gb329 (Nat.le_of_eq hg.symm)) hb)
     have n1_ := mk0 (Kd.V_below (Kd.V_elderB (pkV HO_4) gb329 (Nat.le_of_eq hg.symm)) hb)
     have n2_ := mk0 (Kd.V_below (Kd.V_elderB (pkV HO_304001) gb329 (Nat.le_of_eq hg.symm)) hb)
     have n3_ := mk0 (Kd.V_below (Kd.V_elderB (pkV HO311) gb329 (Nat.le_of_eq hg.symm)) hb)
     have n4_ := mk0 (Kd.V_below (Kd.V_elderB (pkV HO316) gb329 (Nat.le_of_eq hg.symm)) hb)
     have n5_ := mk0 (Kd.R_below (Kd.R_elderB (pkR HL323_0) gb329 (Nat.le_of_eq hg.symm)) hb)
     have n6_ := mk0 (Kd.R_below (Kd.R_elderB (pkR HL325_0) gb329 (Nat.le_of_eq hg.symm)) hb)
     have n7_ := mk0 (Kd.R_below (Kd.R_elderB (pkR HL326_0) gb329 (Nat.le_of_eq hg.symm)) hb)
     have n8_ := mk0 (blk_belowB BK303 (pkb BK303) hb)
     have n9_ := mk0 (Kd.C_below z9_36 hb)
     have n10_ := mk0 (pw_cell_below hb HX323_0.out)
     have n11_ := mk0 (Kd.C_below z9_37 hb)
     have n12_ := mk0 (pw_cell_below hb HX325_0.out)
     have n13_ := mk0 (Kd.C_below z9_41 hb)
     have n14_ := mk0 (pw_cell_below hb HX326_0.out)
     have n15_ := mk0 (below_step z9_35 hb)
     have n16_ := mk0 (hbox)
     have n17_ := mk0 (ge_go (a := w.heap.size) hg (below_size z9_35))
     have n18_ := mk0 (ge_go (a := w.heap.size) hg (below_size z9_35))
     have n19_ := mk0 (nb_lt hg (blk_ltB BK303 (pkb BK303)))
     have n20_ := mk0 (nb_gt hg (blk_ltB BK303 (pkb BK303)))
     clear HO_3 HO_4 HO_304001 HO311 HO316 HL323_0 HL325_0 HL326_0 BK303 HR323_0 HX323_0 HR325_0 HX325_0 HR326_0 HX326_0 HB; have HO_3 := n0_; have HO_4 := n1_; have HO_304001 := n2_; have HO311 := n3_; have HO316 := n4_; have HL323_0 := n5_; have HL325_0 := n6_; have HL326_0 := n7_; have BK303 := n8_; have HR323_0 := n9_; have HX323_0 := n10_; have HR325_0 := n11_; have HX325_0 := n12_; have HR326_0 := n13_; have HX326_0 := n14_; have HB := n15_; have BK329 := n16_; have GW329 := n17_; have GE329 := n18_; have NB303_329 := n19_; have NB329_303 := n20_; clear n0_ n1_ n2_ n3_ n4_ n5_ n6_ n7_ n8_ n9_ n10_ n11_ n12_ n13_ n14_ n15_ n16_ n17_ n18_ n19_ n20_ hb hbox hg
     refine hK.out _ _ ⟨HS0_, HS1_, HS2_, HS3_, HS4_, HS5_, HS6_⟩ (fun hHeld => ?_)
     clear hK K
     refine norm_ (a' := ?_) ?_ ?_
     rotate_left
     ·show Act.put _ (some 11) _ = _
      simp only [Act.put, List.setIfInBounds_toArray, List.set_cons_zero, List.set_cons_succ, i64_w, i32_w]
      rfl
     refine one_ (i := 15) (N := some 10) y9_38 rfl rfl (one_of HT_.out (by kernel_rfl)) (by decide) (fun K hK => ?_)
     refine box_step ?hg (N := 10) ?hd (cs := #[.int .i64 0, .int .i64 0]) (t := 46) ?hr ?_; (case hd => rfl); (case hg => rfl); (case hr => first | (go_simp; done) | (go_simp; rfl))
     intro gb328 hg w106 hbox hb
     have HS0_ := (hb.cell (World.block_lt_of_cell? _ _ (hHeld.1))).trans (hHeld.1)
     have HS1_ := (hb.cell (World.block_lt_of_cell? _ _ (hHeld.2.1))).trans (hHeld.2.1)
     have HS2_ := (hb.cell (World.block_lt_of_cell? _ _ (hHeld.2.2.1))).trans (hHeld.2.2.1)
     have HS3_ := (hb.cell (World.block_lt_of_cell? _ _ (hHeld.2.2.2.1))).trans (hHeld.2.2.2.1)
     have HS4_ := (hb.cell (World.block_lt_of_cell? _ _ (hHeld.2.2.2.2.1))).trans (hHeld.2.2.2.2.1)
     have HS5_ := (hb.cell (World.block_lt_of_cell? _ _ (hHeld.2.2.2.2.2.1))).trans (hHeld.2.2.2.2.2.1)
     have HS6_ := (hb.cell (World.block_lt_of_cell? _ _ (hHeld.2.2.2.2.2.2))).trans (hHeld.2.2.2.2.2.2)
     have n0_ := mk0 (Kd.S_below (Kd.S_elderB (pkS HO_3) gb328 (Nat.le_of_eq hg.symm)) hb)
     have n1_ := mk0 (Kd.V_below (Kd.V_elderB (pkV HO_4) gb328 (Nat.le_of_eq hg.symm)) hb)
     have n2_ := mk0 (Kd.V_below (Kd.V_elderB (pkV HO_304001) gb328 (Nat.le_of_eq hg.symm)) hb)
     have n3_ := mk0 (Kd.V_below (Kd.V_elderB (pkV HO311) gb328 (Nat.le_of_eq hg.symm)) hb)
     have n4_ := mk0 (Kd.V_below (Kd.V_elderB (pkV HO316) gb328 (Nat.le_of_eq hg.symm)) hb)
     have n5_ := mk0 (Kd.R_below (Kd.R_elderB (pkR HL323_0) gb328 (Nat.le_of_eq hg.symm)) hb)
     have n6_ := mk0 (Kd.R_below (Kd.R_elderB (pkR HL325_0) gb328 (Nat.le_of_eq hg.symm)) hb)
     have n7_ := mk0 (Kd.R_below (Kd.R_elderB (pkR HL326_0) gb328 (Nat.le_of_eq hg.symm)) hb)
     have n8_ := mk0 (blk_belowB BK303 (pkb BK303) hb)
     have n9_ := mk0 (Kd.C_below z9_36 hb)
     have n10_ := mk0 (pw_cell_below hb HX323_0.out)
     have n11_ := mk0 (Kd.C_below z9_37 hb)
     have n12_ := mk0 (pw_cell_below hb HX325_0.out)
     have n13_ := mk0 (Kd.C_below z9_41 hb)
     have n14_ := mk0 (pw_cell_below hb HX326_0.out)
     have n15_ := mk0 (blk_belowB BK329 (pkb BK329) hb)
     have n16_ := mk0 (below_step z9_47 hb)
     have n17_ := mk0 (hbox)
     have n18_ := mk0 (ge_go (a := w.heap.size) hg (below_size z9_47))
     have n19_ := mk0 (ge_go (a := w.heap.size) hg (below_size z9_47))
     have n20_ := mk0 (nb_lt hg (blk_ltB BK303 (pkb BK303)))
     have n21_ := mk0 (nb_gt hg (blk_ltB BK303 (pkb BK303)))
     have n22_ := mk0 (nb_lt hg (blk_ltB BK329 (pkb BK329)))
     have n23_ := mk0 (nb_gt hg (blk_ltB BK329 (pkb BK329)))
     clear HO_3 HO_4 HO_304001 HO311 HO316 HL323_0 HL325_0 HL326_0 BK303 HR323_0 HX323_0 HR325_0 HX325_0 HR326_0 HX326_0 BK329 HB; have HO_3 := n0_; have HO_4 := n1_; have HO_304001 := n2_; have HO311 := n3_; have HO316 := n4_; have HL323_0 := n5_; have HL325_0 := n6_; have HL326_0 := n7_; have BK303 := n8_; have HR323_0 := n9_; have HX323_0 := n10_; have HR325_0 := n11_; have HX325_0 := n12_; have HR326_0 := n13_; have HX326_0 := n14_; have BK329 := n15_; have HB := n16_; have BK328 := n17_; have GW328 := n18_; have GE328 := n19_; have NB303_328 := n20_; have NB328_303 := n21_; have NB329_328 := n22_; have NB328_329 := n23_; clear n0_ n1_ n2_ n3_ n4_ n5_ n6_ n7_ n8_ n9_ n10_ n11_ n12_ n13_ n14_ n15_ n16_ n17_ n18_ n19_ n20_ n21_ n22_ n23_ hb hbox hg
     refine hK.out _ _ ⟨HS0_, HS1_, HS2_, HS3_, HS4_, HS5_, HS6_⟩ (fun hHeld => ?_)
     clear hK K
     refine norm_ (a' := ?_) ?_ ?_
     rotate_left
     ·show Act.put _ (some 10) _ = _
      simp only [Act.put, List.setIfInBounds_toArray, List.set_cons_zero, List.set_cons_succ, i64_w, i32_w]
      rfl
     exact norm_ z9_63 (hCont (gb328, gb329) _ ⟨hHeld, z9_77, z9_78, z9_79, z9_69, z9_70, z9_81, z9_66, z9_72, HX323_0.out, HX325_0.out, HX326_0.out, (pkb BK303), (pkb BK328), (pkb BK329), GW328.out, GE328.out, NB303_328.out, NB328_303.out, NB329_328.out, NB328_329.out, GW329.out, GE329.out, NB303_329.out, NB329_303.out, z9_64⟩)
    rintro ⟨gb328, gb329⟩ w107 ⟨hS_, h0_, h1_, h2_, h3_, h4_, h5_, h6_, h7_, h8_, h9_, h10_, h11_, h12_, h13_, h14_, h15_, h16_, h17_, h18_, h19_, h20_, h21_, h22_, h23_, h24_⟩
    have n0_ : Aside0 (Kd.R k46 46 w107 w.heap.size (fun k_ => (w.heap.size ≤ k_) ∧ some k_ ≠ (.slice (some ad323) x3_1.length co103 : Value).ownBlock ∧ k_ ≠ gb328 ∧ k_ ≠ gb329) (.slice (some ad324) (rd_L3 x3_1 (ji25)).length c323_0) (rd_L3 x3_1 (ji25))) := ⟨h0_⟩
    have n1_ : Aside0 (Kd.R k46 46 w107 w.heap.size (fun k_ => (w.heap.size ≤ k_) ∧ some k_ ≠ (.slice (some ad323) x3_1.length co103 : Value).ownBlock ∧ k_ ≠ gb328 ∧ k_ ≠ gb329) (.slice (some ad324) (rd_L3 x3_1 (ji25)).length c323_0) (rd_L3 x3_1 (ji25))) := ⟨h1_⟩
    have n2_ : Aside0 (Kd.R k46 46 w107 w.heap.size (fun k_ => (w.heap.size ≤ k_) ∧ some k_ ≠ (.slice (some ad323) x3_1.length co103 : Value).ownBlock ∧ k_ ≠ gb328 ∧ k_ ≠ gb329) (.slice (some ad324) (rd_L3 x3_1 (ji25)).length c323_0) (rd_L3 x3_1 (ji25))) := ⟨h2_⟩
    have n3_ : Aside0 (Kd.V k46 46 w107 w.heap.size (fun k_ => ((P0_1_ k_) ∧ k_ < w.heap.size) ∧ some k_ ≠ (.slice (some ad323) x3_1.length co103 : Value).ownBlock ∧ k_ ≠ gb303 ∧ k_ ≠ gb328 ∧ k_ ≠ gb329) (.slice Ao101 y307.length co101) y307) := ⟨h3_⟩
    have n4_ : Aside0 (Kd.V k46 46 w107 w.heap.size (fun k_ => ((P0_1_ k_) ∧ k_ < w.heap.size) ∧ some k_ ≠ (.slice (some ad323) x3_1.length co103 : Value).ownBlock ∧ k_ ≠ gb303 ∧ k_ ≠ gb328 ∧ k_ ≠ gb329) (.slice A102 y312.length c102) y312) := ⟨h4_⟩
    have n5_ : Aside0 (Kd.S (Kd.slice 46 k46) 29 w107 w.heap.size (fun k_ => (w.heap.size ≤ k_) ∧ k_ ≠ gb328 ∧ k_ ≠ gb329) (.slice (some ad323) x3_1.length co103) x3_1) := ⟨h5_⟩
    have n6_ : Aside0 (Kd.V k46 46 w107 w.heap.size (fun k_ => ((P0_1_ k_) ∧ k_ < w.heap.size) ∧ some k_ ≠ (.slice (some ad323) x3_1.length co103 : Value).ownBlock ∧ k_ ≠ gb303 ∧ k_ ≠ gb328 ∧ k_ ≠ gb329) (.slice A0_1 l0_1.length c0_1) l0_1) := ⟨h6_⟩
    have n7_ : Aside0 (Kd.V k46 46 w107 w.heap.size (fun k_ => ((P0_1_ k_) ∧ k_ < w.heap.size) ∧ some k_ ≠ (.slice (some ad323) x3_1.length co103 : Value).ownBlock ∧ k_ ≠ gb303 ∧ k_ ≠ gb328 ∧ k_ ≠ gb329) (.slice Ao101 x4_1.length co101) x4_1) := ⟨h7_⟩
    have n8_ : Aside0 (w107.cell? (ad323.add ((ji25)).toNat) = some (.slice (some ad324) (rd_L3 x3_1 (ji25)).length c323_0)) := ⟨h8_⟩
    have n9_ : Aside0 (w107.cell? (ad323.add ((ji25)).toNat) = some (.slice (some ad324) (rd_L3 x3_1 (ji25)).length c323_0)) := ⟨h9_⟩
    have n10_ : Aside0 (w107.cell? (ad323.add ((ji25)).toNat) = some (.slice (some ad324) (rd_L3 x3_1 (ji25)).length c323_0)) := ⟨h10_⟩
    have n11_ : Aside0 (w107.heap[gb303]? = some (.cells #[.slice (some ad305) l0_0.length c0_0, .slice A0_1 l0_1.length c0_1] 31 (0, 0))) := ⟨h11_⟩
    have n12_ : Aside0 (w107.heap[gb328]? = some (.cells #[.int .i64 0, .int .i64 0] 46 (0, 0))) := ⟨h12_⟩
    have n13_ : Aside0 (w107.heap[gb329]? = some (.cells #[.int .i64 0, .int .i64 0] 46 (0, 0))) := ⟨h13_⟩
    have n14_ : Aside0 (w.heap.size ≤ gb328) := ⟨h14_⟩
    have n15_ : Aside0 (w.heap.size ≤ gb328) := ⟨h15_⟩
    have n16_ : Aside0 (gb303 ≠ gb328) := ⟨h16_⟩
    have n17_ : Aside0 (gb328 ≠ gb303) := ⟨h17_⟩
    have n18_ : Aside0 (gb329 ≠ gb328) := ⟨h18_⟩
    have n19_ : Aside0 (gb328 ≠ gb329) := ⟨h19_⟩
    have n20_ : Aside0 (w.heap.size ≤ gb329) := ⟨h20_⟩
    have n21_ : Aside0 (w.heap.size ≤ gb329) := ⟨h21_⟩
    have n22_ : Aside0 (gb303 ≠ gb329) := ⟨h22_⟩
    have n23_ : Aside0 (gb329 ≠ gb303) := ⟨h23_⟩
    have n24_ : Aside0 (Below w.heap.size w w107) := ⟨h24_⟩
    clear HO_3 HO_4 HO_304001 HO311 HO316 BK303 HB h0_ h1_ h2_ h3_ h4_ h5_ h6_ h7_ h8_ h9_ h10_ h11_ h12_ h13_ h14_ h15_ h16_ h17_ h18_ h19_ h20_ h21_ h22_ h23_ h24_; have HL323_0 := n0_; have HL325_0 := n1_; have HL326_0 := n2_; have HO311 := n3_; have HO316 := n4_; have HO_3 := n5_; have HO_304001 := n6_; have HO_4 := n7_; have HX323_0 := n8_; have HX325_0 := n9_; have HX326_0 := n10_; have BK303 := n11_; have BK328 := n12_; have BK329 := n13_; have GW328 := n14_; have GE328 := n15_; have NB303_328 := n16_; have NB328_303 := n17_; have NB329_328 := n18_; have NB328_329 := n19_; have GW329 := n20_; have GE329 := n21_; have NB303_329 := n22_; have NB329_303 := n23_; have HB := n24_; clear n0_ n1_ n2_ n3_ n4_ n5_ n6_ n7_ n8_ n9_ n10_ n11_ n12_ n13_ n14_ n15_ n16_ n17_ n18_ n19_ n20_ n21_ n22_ n23_ n24_
    have hHeld : w107.cell? (ad323.add ((ji25)).toNat) = some (.slice (some ad324) (rd_L3 x3_1 (ji25)).length c323_0) ∧ w107.cell? ad324 = some (.int .i64 ((rd_T46 (rd_L3 x3_1 (ji25)) 0).f0)) ∧ w107.cell? ⟨ad324.block, ad324.off + 1, none⟩ = some (.int .i64 ((rd_T46 (rd_L3 x3_1 (ji25)) 0).f1)) ∧ w107.cell? (ad323.add ((ji25)).toNat) = some (.slice (some ad324) (rd_L3 x3_1 (ji25)).length c323_0) ∧ w107.cell? (ad323.add ((ji25)).toNat) = some (.slice (some ad324) (rd_L3 x3_1 (ji25)).length c323_0) ∧ w107.cell? (ad324.add (((ji29)).toNat * 2)) = some (.int .i64 ((rd_T46 (rd_L3 x3_1 (ji25)) (ji29)).f0)) ∧ w107.cell? ⟨(ad324.add (((ji29)).toNat * 2)).block, (ad324.add (((ji29)).toNat * 2)).off + 1, none⟩ = some (.int .i64 ((rd_T46 (rd_L3 x3_1 (ji25)) (ji29)).f1)) := hS_
    refine norm_ (a' := ?_) ?_ ?_
    rotate_left
    ·simp only [putAll, Act.put, List.setIfInBounds_toArray, List.set_cons_zero, List.set_cons_succ]
     rfl
    refine one_ (i := 17) (N := none) y9_39 rfl rfl (one_of HT_.out (by kernel_rfl)) (by decide) (fun K hK => ?_)
    have hs108 : w107.cell? ⟨gb328, 0, none⟩ = some (.int .i64 0) := (blk_cell BK328.out 0).trans rfl
    have hfs108 := blk_frozen BK328.out 0
    have hns108_0 := NB303_328.out; have hns108_2 := NB329_328.out; have hms108_0 := NB328_303.out; have hms108_2 := NB328_329.out
    have hs109 : w107.cell? ⟨gb328, 1, none⟩ = some (.int .i64 0) := (blk_cell BK328.out 1).trans rfl
    have hfs109 := blk_frozen BK328.out 1
    have hns109_0 := NB303_328.out; have hns109_2 := NB329_328.out; have hms109_0 := NB328_303.out; have hms109_2 := NB328_329.out
    refine skip_ (w1 := ?_) ?hwx ?hN ?_ ?_; (case hwx => rfl); (case hN => rfl)
    rotate_left
    ·go_simp
     rfl
    refine hK.out _ _ ⟨(by refine (cell_far (p := ⟨gb328, _, none⟩) ?_ _).trans ((cell_far (p := ⟨gb328, _, none⟩) ?_ _).trans (hHeld.1)) <;> ((try dsimp only); exact z9_39)), (by refine (cell_far (p := ⟨gb328, _, none⟩) ?_ _).trans ((cell_far (p := ⟨gb328, _, none⟩) ?_ _).trans (hHeld.2.1)) <;> ((try dsimp only); exact z9_42)), (by refine (cell_far (p := ⟨gb328, _, none⟩) ?_ _).trans ((cell_far (p := ⟨gb328, _, none⟩) ?_ _).trans (hHeld.2.2.1)) <;> ((try dsimp only); exact z9_42)), (by refine (cell_far (p := ⟨gb328, _, none⟩) ?_ _).trans ((cell_far (p := ⟨gb328, _, none⟩) ?_ _).trans (hHeld.2.2.2.1)) <;> ((try dsimp only); exact z9_39)), (by refine (cell_far (p := ⟨gb328, _, none⟩) ?_ _).trans ((cell_far (p := ⟨gb328, _, none⟩) ?_ _).trans (hHeld.2.2.2.2.1)) <;> ((try dsimp only); exact z9_39)), (by refine (cell_far (p := ⟨gb328, _, none⟩) ?_ _).trans ((cell_far (p := ⟨gb328, _, none⟩) ?_ _).trans (hHeld.2.2.2.2.2.1)) <;> ((try dsimp only); exact z9_43)), (by refine (cell_far (p := ⟨gb328, _, none⟩) ?_ _).trans ((cell_far (p := ⟨gb328, _, none⟩) ?_ _).trans (hHeld.2.2.2.2.2.2)) <;> ((try dsimp only); exact z9_43))⟩ (fun hHeld => ?_)
    clear hK K
    refine one_ (i := 18) (N := none) y9_40 rfl rfl (one_of HT_.out (by kernel_rfl)) (by decide) (fun K hK => ?_)
    have hs110 : w107.cell? ⟨gb329, 0, none⟩ = some (.int .i64 0) := (blk_cell BK329.out 0).trans rfl
    have hfs110 := blk_frozen BK329.out 0
    have hns110_0 := NB303_329.out; have hns110_1 := NB328_329.out; have hms110_0 := NB329_303.out; have hms110_1 := NB329_328.out
    have hs111 : w107.cell? ⟨gb329, 1, none⟩ = some (.int .i64 0) := (blk_cell BK329.out 1).trans rfl
    have hfs111 := blk_frozen BK329.out 1
    have hns111_0 := NB303_329.out; have hns111_1 := NB328_329.out; have hms111_0 := NB329_303.out; have hms111_1 := NB329_328.out
    refine skip_ (w1 := ?_) ?hwx ?hN ?_ ?_; (case hwx => rfl); (case hN => rfl)
    rotate_left
    ·go_simp
     rfl
    refine hK.out _ _ ⟨(by refine (cell_far (p := ⟨gb329, _, none⟩) ?_ _).trans ((cell_far (p := ⟨gb329, _, none⟩) ?_ _).trans (hHeld.1)) <;> ((try dsimp only); exact z9_40)), (by refine (cell_far (p := ⟨gb329, _, none⟩) ?_ _).trans ((cell_far (p := ⟨gb329, _, none⟩) ?_ _).trans (hHeld.2.1)) <;> ((try dsimp only); exact z9_44)), (by refine (cell_far (p := ⟨gb329, _, none⟩) ?_ _).trans ((cell_far (p := ⟨gb329, _, none⟩) ?_ _).trans (hHeld.2.2.1)) <;> ((try dsimp only); exact z9_44)), (by refine (cell_far (p := ⟨gb329, _, none⟩) ?_ _).trans ((cell_far (p := ⟨gb329, _, none⟩) ?_ _).trans (hHeld.2.2.2.1)) <;> ((try dsimp only); exact z9_40)), (by refine (cell_far (p := ⟨gb329, _, none⟩) ?_ _).trans ((cell_far (p := ⟨gb329, _, none⟩) ?_ _).trans (hHeld.2.2.2.2.1)) <;> ((try dsimp only); exact z9_40)), (by refine (cell_far (p := ⟨gb329, _, none⟩) ?_ _).trans ((cell_far (p := ⟨gb329, _, none⟩) ?_ _).trans (hHeld.2.2.2.2.2.1)) <;> ((try dsimp only); exact z9_45)), (by refine (cell_far (p := ⟨gb329, _, none⟩) ?_ _).trans ((cell_far (p := ⟨gb329, _, none⟩) ?_ _).trans (hHeld.2.2.2.2.2.2)) <;> ((try dsimp only); exact z9_45))⟩ (fun hHeld => ?_)
    clear hK K
    refine done_ (done_of HT_.out (by kernel_rfl)) ?_
    try go_wp2
    obtain ⟨w112, hw_⟩ : ∃ w_ : World, w_ = ((((w107.setCell ⟨gb328, 0, none⟩ (.int .i64 ((rd_T46 (rd_L3 x3_1 (ji25)) 0).f0))).setCell ⟨gb328, 1, none⟩ (.int .i64 ((rd_T46 (rd_L3 x3_1 (ji25)) 0).f1))).setCell ⟨gb329, 0, none⟩ (.int .i64 ((rd_T46 (rd_L3 x3_1 (ji25)) (ji29)).f0))).setCell ⟨gb329, 1, none⟩ (.int .i64 ((rd_T46 (rd_L3 x3_1 (ji25)) (ji29)).f1))) := ⟨_, rfl⟩
    have n0_ : Aside0 (Kd.S (Kd.slice 46 k46) 29 w112 w.heap.size (fun k_ => (w.heap.size ≤ k_) ∧ k_ ≠ gb328 ∧ k_ ≠ gb329) (.slice (some ad323) x3_1.length co103) x3_1) := ⟨z9_57⟩
    have n1_ : Aside0 (Kd.V k46 46 w112 w.heap.size (fun k_ => ((P0_1_ k_) ∧ k_ < w.heap.size) ∧ some k_ ≠ (.slice (some ad323) x3_1.length co103 : Value).ownBlock ∧ k_ ≠ gb303 ∧ k_ ≠ gb328 ∧ k_ ≠ gb329) (.slice Ao101 x4_1.length co101) x4_1) := ⟨z9_53⟩
    have n2_ : Aside0 (Kd.V k46 46 w112 w.heap.size (fun k_ => ((P0_1_ k_) ∧ k_ < w.heap.size) ∧ some k_ ≠ (.slice (some ad323) x3_1.length co103 : Value).ownBlock ∧ k_ ≠ gb303 ∧ k_ ≠ gb328 ∧ k_ ≠ gb329) (.slice A0_1 l0_1.length c0_1) l0_1) := ⟨z9_49⟩
    have n3_ : Aside0 (Kd.V k46 46 w112 w.heap.size (fun k_ => ((P0_1_ k_) ∧ k_ < w.heap.size) ∧ some k_ ≠ (.slice (some ad323) x3_1.length co103 : Value).ownBlock ∧ k_ ≠ gb303 ∧ k_ ≠ gb328 ∧ k_ ≠ gb329) (.slice Ao101 y307.length co101) y307) := ⟨z9_51⟩
    have n4_ : Aside0 (Kd.V k46 46 w112 w.heap.size (fun k_ => ((P0_1_ k_) ∧ k_ < w.heap.size) ∧ some k_ ≠ (.slice (some ad323) x3_1.length co103 : Value).ownBlock ∧ k_ ≠ gb303 ∧ k_ ≠ gb328 ∧ k_ ≠ gb329) (.slice A102 y312.length c102) y312) := ⟨z9_52⟩
    have n5_ : Aside0 (Kd.R k46 46 w112 w.heap.size (fun k_ => (w.heap.size ≤ k_) ∧ some k_ ≠ (.slice (some ad323) x3_1.length co103 : Value).ownBlock ∧ k_ ≠ gb328 ∧ k_ ≠ gb329) (.slice (some ad324) (rd_L3 x3_1 (ji25)).length c323_0) (rd_L3 x3_1 (ji25))) := ⟨z9_54⟩
    have n6_ : Aside0 (Kd.R k46 46 w112 w.heap.size (fun k_ => (w.heap.size ≤ k_) ∧ some k_ ≠ (.slice (some ad323) x3_1.length co103 : Value).ownBlock ∧ k_ ≠ gb328 ∧ k_ ≠ gb329) (.slice (some ad324) (rd_L3 x3_1 (ji25)).length c323_0) (rd_L3 x3_1 (ji25))) := ⟨z9_55⟩
    have n7_ : Aside0 (Kd.R k46 46 w112 w.heap.size (fun k_ => (w.heap.size ≤ k_) ∧ some k_ ≠ (.slice (some ad323) x3_1.length co103 : Value).ownBlock ∧ k_ ≠ gb328 ∧ k_ ≠ gb329) (.slice (some ad324) (rd_L3 x3_1 (ji25)).length c323_0) (rd_L3 x3_1 (ji25))) := ⟨z9_56⟩
    have n8_ : Aside0 (w112.heap[gb303]? = some (.cells #[.slice (some ad305) l0_0.length c0_0, .slice A0_1 l0_1.length c0_1] 31 (0, 0))) := ⟨z9_58⟩
    have n9_ : Aside0 (w112.heap[gb328]? = some (.cells #[.int .i64 ((rd_T46 (rd_L3 x3_1 (ji25)) 0).f0), .int .i64 ((rd_T46 (rd_L3 x3_1 (ji25)) 0).f1)] 46 (0, 0))) := ⟨z9_50⟩
    have n10_ : Aside0 (w112.heap[gb329]? = some (.cells #[.int .i64 ((rd_T46 (rd_L3 x3_1 (ji25)) (ji29)).f0), .int .i64 ((rd_T46 (rd_L3 x3_1 (ji25)) (ji29)).f1)] 46 (0, 0))) := ⟨z9_48⟩
    have n11_ : Aside0 (Below w.heap.size w w112) := ⟨(by rw [hw_]; exact z9_34)⟩
    (try clear HO_3); (try clear HO_4); (try clear HO_304001); (try clear HO311); (try clear HO316); (try clear HL323_0); (try clear HL325_0); (try clear HL326_0); (try clear BK303); (try clear BK328); (try clear BK329); (try clear HB)
    rw [← hw_]; clear hw_; have HO_3 := n0_; have HO_4 := n1_; have HO_304001 := n2_; have HO311 := n3_; have HO316 := n4_; have HL323_0 := n5_; have HL325_0 := n6_; have HL326_0 := n7_; have BK303 := n8_; have BK328 := n9_; have BK329 := n10_; have HB := n11_; clear n0_ n1_ n2_ n3_ n4_ n5_ n6_ n7_ n8_ n9_ n10_ n11_
    have n0_ := mk0 (Kd.S_drew HO_3.out)
    have n1_ := mk0 (Kd.V_drew HO_4.out)
    have n2_ := mk0 (Kd.V_drew HO_304001.out)
    have n3_ := mk0 (Kd.V_drew HO311.out)
    have n4_ := mk0 (Kd.V_drew HO316.out)
    have n5_ := mk0 (Kd.R_drew HL323_0.out)
    have n6_ := mk0 (Kd.R_drew HL325_0.out)
    have n7_ := mk0 (Kd.R_drew HL326_0.out)
    have n8_ := mk0 (blk_drew BK303.out)
    have n9_ := mk0 (blk_drew BK328.out)
    have n10_ := mk0 (blk_drew BK329.out)
    have n11_ := mk0 (below_drew1 HB.out)
    clear HO_3 HO_4 HO_304001 HO311 HO316 HL323_0 HL325_0 HL326_0 BK303 BK328 BK329 HB; have HO_3 := n0_; have HO_4 := n1_; have HO_304001 := n2_; have HO311 := n3_; have HO316 := n4_; have HL323_0 := n5_; have HL325_0 := n6_; have HL326_0 := n7_; have BK303 := n8_; have BK328 := n9_; have BK329 := n10_; have HB := n11_; clear n0_ n1_ n2_ n3_ n4_ n5_ n6_ n7_ n8_ n9_ n10_ n11_
    have p351 : 0 ≤ ((ji25) : Int) := of_decide_eq_true (by first | (with_reducible assumption) | assumption)
    have q351 : (ji25) < (x3_1.length : Int) := of_decide_eq_true (by first | (with_reducible assumption) | assumption)
    obtain ⟨ad351, A351_0, c351_0, e351, hx351_0, hl351_0, hi351_0⟩ := at_L3 (Kd.S_reads' HO_3.out).2.2 (ji25) p351 q351
    obtain rfl : ad323 = ad351 := (by injection e351)
    obtain ⟨ce351, hce351, hMe351, hcc351⟩ := Kd.S_get HO_3.out [] (ji25) p351 (by first | exact q351 | exact of_decide_eq_true (by first | (with_reducible assumption) | assumption) | (have e_ := (Kd.S_reads' HO_3.out).1; omega))
    obtain ⟨ve351_0, rfl, ge351_0⟩ := hMe351
    have hv351_0 := hcc351 0 _ rfl
    rw [Nat.add_zero, show ((Kd.slice 46 k46)).sz = 1 from rfl, Nat.mul_one] at hv351_0
    replace hv351_0 := Option.some.inj (hv351_0.symm.trans hx351_0)
    rw [hv351_0] at ge351_0
    have HL351_0 := mk0 (show Kd.R k46 46 _ _ _ _ (rd_L3 x3_1 (ji25)) from ge351_0)
    clear hv351_0 ge351_0
    have HX351_0 := mk0 hx351_0
    clear hcc351 hce351
    have HR351_0 := mk0 hi351_0
    have HC351_0 := mk0 hl351_0
    clear hi351_0 hl351_0
    replace p351 := eq_true p351
    replace q351 := eq_true q351
    refine start_ (n := 11) (S := fun w' => w'.cell? ⟨gb329, 0, none⟩ = some (.int .i64 ((rd_T46 (rd_L3 x3_1 (ji25)) (ji29)).f0)) ∧ w'.cell? ⟨gb329, 1, none⟩ = some (.int .i64 ((rd_T46 (rd_L3 x3_1 (ji25)) (ji29)).f1)) ∧ w'.cell? (ad323.add ((ji25)).toNat) = some (.slice A351_0 (rd_L3 x3_1 (ji25)).length c351_0)) (ds := [10]) y9_1 (by kernel_rfl) rfl rfl ⟨(blk_cell BK329.out 0).trans rfl, (blk_cell BK329.out 1).trans rfl, hx351_0⟩ (fun hHeld => ?_); refine with_tabW impl_FlatOf.tab17 impl_FlatOf.bits17 (fun HT_ HW_ => ?_)
    generalize w112.drew = w113 at HO_3 HO_4 HO_304001 HO311 HO316 HL323_0 HL325_0 HL326_0 BK303 BK328 BK329 HB HL351_0 HR351_0 HX351_0 hx351_0 hHeld ⊢
    refine pzv (i := 0) (N := 76) (v := ?_) (a' := ?_) y9_4 HT_ ?_ ?_ ?_
    rotate_left
    ·intro w'
     go_simp; with_reducible rfl
    rotate_left
    ·exact x9_put
    refine pzv (i := 1) (N := 77) (v := ?_) (a' := ?_) y9_7 HT_ ?_ ?_ ?_
    rotate_left
    ·intro w'
     go_simp; with_reducible rfl
    rotate_left
    ·exact x9_put
    refine pzv (i := 2) (N := 78) (v := ?_) (a' := ?_) y9_13 HT_ ?_ ?_ ?_
    rotate_left
    ·intro w'
     go_simp; with_reducible rfl
    rotate_left
    ·exact x9_put
    refine pzv (i := 4) (N := 80) (v := ?_) (a' := ?_) y9_16 HT_ ?_ ?_ ?_
    rotate_left
    ·intro w'
     go_simp; with_reducible rfl
    rotate_left
    ·exact x9_put
    refine pzv (i := 6) (N := 82) (v := ?_) (a' := ?_) y9_17 HT_ ?_ ?_ ?_
    rotate_left
    ·intro w'
     go_simp; with_reducible rfl
    rotate_left
    ·exact x9_put
    refine take_ (i := 3) (N := some 79) (v := ?_) (a' := ?_) y9_21 rfl rfl (take_ofW HT_.out HW_.out (by kernel_rfl)) (fun _ _ _ h => h) (Or.inl ⟨by rfl, ?_⟩) hHeld ?_ ?_
    rotate_left
    ·rintro w' ⟨s0, s1, s2⟩
     go_simp; with_reducible rfl
    rotate_left
    ·exact x9_put
    refine take_ (i := 5) (N := some 81) (v := ?_) (a' := ?_) y9_23 rfl rfl (take_ofW HT_.out HW_.out (by kernel_rfl)) (fun _ _ _ h => h) (Or.inl ⟨by rfl, ?_⟩) hHeld ?_ ?_
    rotate_left
    ·rintro w' ⟨s0, s1, s2⟩
     go_simp; with_reducible rfl
    rotate_left
    ·exact x9_put
    refine one_ (i := 7) (N := some 83) y9_26 rfl rfl (one_of HT_.out (by kernel_rfl)) (by decide) (fun K hK => ?_)
    refine goes_ Try.func29 (by kernel_rfl) rfl #[.int .i64 (rd l0_0 x20_1), .agg #[.int .i64 ((rd_T46 (rd_L3 x3_1 (ji25)) (ji29)).f0), .int .i64 ((rd_T46 (rd_L3 x3_1 (ji25)) (ji29)).f1)], .slice Ao101 y307.length co101] (by rfl) rfl rfl z9_73 ?_
    with_reducible refine (impl_flatten.calls k1 (rd l0_0 x20_1) ((rd_T46 (rd_L3 x3_1 (ji25)) (ji29)).f0) ((rd_T46 (rd_L3 x3_1 (ji25)) (ji29)).f1) _ _ y307 t352 _ ?side1 ?side2 A98.out).mono ?_
    (case side1 => exact z9_61)
    (case side2 => exact (Kd.V_reads' HO311.out).2.1)
    rintro e w114 ⟨v353, rfl, ho0, hb⟩
    have HS2_ := (hb.cell (World.block_lt_of_cell? _ _ (hHeld.2.2))).trans (hHeld.2.2)
    refine ⟨_, rfl, ?_⟩
    have n0_ := mk0 (Kd.S_elder' (pkS HO_3) (Kd.R_base ho0) hb)
    have n1_ := mk0 (Kd.V_elder' (pkV HO_4) (Kd.R_base ho0) hb)
    have n2_ := mk0 (Kd.V_elder' (pkV HO_304001) (Kd.R_base ho0) hb)
    have n3_ := mk0 (Kd.V_elder' (pkV HO311) (Kd.R_base ho0) hb)
    have n4_ := mk0 (Kd.V_elder' (pkV HO316) (Kd.R_base ho0) hb)
    have n5_ := mk0 (Kd.R_elder' (pkR HL323_0) (Kd.R_base ho0) hb)
    have n6_ := mk0 (Kd.R_elder' (pkR HL325_0) (Kd.R_base ho0) hb)
    have n7_ := mk0 (Kd.R_elder' (pkR HL326_0) (Kd.R_base ho0) hb)
    have n8_ := mk0 (Kd.R_elder' (pkR HL351_0) (Kd.R_base ho0) hb)
    have n9_ := mk0 (Kd.R_lower (Kd.R_newB (Kd.R_newB (Kd.R_new' (Kd.R_new' (Kd.R_new' (Kd.R_new' (Kd.R_newM (M := fun k_ => (w.heap.size ≤ k_)) ho0 (below_size z9_34) (fun k_ h_ => h_)) (Kd.R_lt (pkR HL323_0))) (Kd.R_lt (pkR HL325_0))) (Kd.R_lt (pkR HL326_0))) (Kd.R_lt (pkR HL351_0))) (g := gb328) (o := .cells #[.int .i64 ((rd_T46 (rd_L3 x3_1 (ji25)) 0).f0), .int .i64 ((rd_T46 (rd_L3 x3_1 (ji25)) 0).f1)] 46 (0, 0)) (pkb BK328)) (g := gb329) (o := .cells #[.int .i64 ((rd_T46 (rd_L3 x3_1 (ji25)) (ji29)).f0), .int .i64 ((rd_T46 (rd_L3 x3_1 (ji25)) (ji29)).f1)] 46 (0, 0)) (pkb BK329)) (below_size z9_34))
    have n10_ := mk0 (blk_belowB BK303 (pkb BK303) hb)
    have n11_ := mk0 (blk_belowB BK328 (pkb BK328) hb)
    have n12_ := mk0 (blk_belowB BK329 (pkb BK329) hb)
    have n13_ := mk0 (Kd.C_below (by repeat (first | (with_reducible exact HR351_0.out) | (with_reducible refine Kd.C_alloc ?_ _) | (with_reducible refine Kd.C_drewN ?_ _) | (with_reducible refine Kd.C_drew ?_) | exact HR351_0.out)) hb)
    have n14_ := mk0 (pw_cell_below hb HX351_0.out)
    have n15_ := mk0 (below_step z9_34 hb)
    clear HO_3 HO_4 HO_304001 HO311 HO316 HL323_0 HL325_0 HL326_0 HL351_0 BK303 BK328 BK329 HR351_0 HX351_0 HB; have HO_3 := n0_; have HO_4 := n1_; have HO_304001 := n2_; have HO311 := n3_; have HO316 := n4_; have HL323_0 := n5_; have HL325_0 := n6_; have HL326_0 := n7_; have HL351_0 := n8_; have HO354 := n9_; have BK303 := n10_; have BK328 := n11_; have BK329 := n12_; have HR351_0 := n13_; have HX351_0 := n14_; have HB := n15_; clear n0_ n1_ n2_ n3_ n4_ n5_ n6_ n7_ n8_ n9_ n10_ n11_ n12_ n13_ n14_ n15_; (try clear hb); (try clear hb2); (try clear hk); (try clear hi); (try clear ho0)
    have n_ := mk0 (Kd.S_mono (ok' := (fun k_ => (w.heap.size ≤ k_) ∧ some k_ ≠ (v353 : Value).ownBlock ∧ k_ ≠ gb328 ∧ k_ ≠ gb329)) HO_3.out (fun k_ hk => ⟨hk.1.1, ⟨hk.2, ⟨hk.1.2.1, hk.1.2.2⟩⟩⟩))
    clear HO_3; have HO_3 := n_; clear n_
    obtain ⟨Ao117, co117, eo117⟩ := Kd.R_slice HO354.out
    (first | subst eo117 | (injection eo117 with f1_ f2_ f3_; have f4_ := f1_.symm; have f5_ := f3_.symm; clear f1_ f2_ f3_; subst f4_; subst f5_))
    obtain ⟨go115, co115, eo115, gb115, gl115, cl115, HG115⟩ := Kd.S_form HO_3.out (by have h_ : ((ji25) : Int) < ((x3_1.length : Int) : Int) := of_decide_eq_true (by first | (with_reducible assumption) | assumption); have h2_ : 0 ≤ ((ji25) : Int) := (of_decide_eq_true (by first | (with_reducible assumption) | assumption)); omega)
    (first | cases eo115 | (injection eo115 with ea_ en_ ec_; (first | subst ea_ | (injection ea_ with ea_; subst ea_)); subst ec_; clear en_))
    have GB115 := mk0 gb115
    have GG115 := mk0 HG115
    clear gb115 gl115 HG115
    (first | simp only [add_plain] at hx323_0 | skip)
    (first | simp only [add_plain] at hx325_0 | skip)
    (first | simp only [add_plain] at hx326_0 | skip)
    (first | simp only [add_plain] at hx351_0 | skip)
    obtain ⟨oki115, ce115, hcl115, hM115, hcc115, _, _, hH115⟩ := Kd.S_elem HO_3.out [] ((ji25) : Int) (of_decide_eq_true (by first | (with_reducible assumption) | assumption)) (by have h_ : ((ji25) : Int) < ((x3_1.length : Int) : Int) := of_decide_eq_true (by first | (with_reducible assumption) | assumption); first | exact h_ | (have e_ := (Kd.S_reads' HO_3.out).1; omega) | simpa using h_)
    obtain ⟨ve115_0, rfl, ge115_0⟩ := hM115
    have hv115 := hcc115 0 _ rfl
    have hX115 := HX351_0.out
    (try simp only [add_plain] at hX115)
    (try simp only [Nat.add_zero] at hv115)
    (try rw [show ((Kd.slice 46 k46)).sz = 1 from rfl, Nat.mul_one] at hv115)
    replace hv115 := Option.some.inj (hv115.symm.trans hX115)
    subst hv115; clear hX115 hcc115 hcl115
    have UU115 := mk0 (show Kd.R k46 46 _ w.heap.size oki115 (.slice A351_0 (rd_L3 x3_1 (ji25)).length c351_0) (rd_L3 x3_1 (ji25)) from ge115_0)
    have HH115 := mk0 hH115
    have HN115 := mk0 (Kd.S_reads' HO_3.out).1
    clear hH115 ge115_0
    refine hK.out _ _ ⟨(blk_cell BK329.out 0).trans rfl, (blk_cell BK329.out 1).trans rfl, HS2_⟩ (fun hHeld => ?_)
    clear hK K
    refine norm_ (a' := ?_) ?_ ?_
    rotate_left
    ·show Act.put _ (some 83) _ = _
     simp only [Act.put, List.setIfInBounds_toArray, List.set_cons_zero, List.set_cons_succ, i64_w, i32_w]
     rfl
    refine one_ (i := 8) (N := some 84) y9_28 rfl rfl (one_of HT_.out (by kernel_rfl)) (by decide) (fun K hK => ?_)
    refine Kd.R_append_rows_step k46 (w0 := w) w.heap.size (by rfl) (.tmp 79) (.tmp 83) 29 46 (.agg #[(.int .i64 0), (.int .i64 0)]) 16 rfl Try.underlying29 info46 rfl (by decide) (by omega) (.slice A351_0 (rd_L3 x3_1 (ji25)).length c351_0) (rd_L3 x3_1 (ji25)) t352 _ _ _ (fun k_ => oki115 k_ ∨ ((fun k_ => (w.heap.size ≤ k_) ∧ some k_ ≠ (.slice Ao117 t352.length co117 : Value).ownBlock ∧ k_ ≠ gb328 ∧ k_ ≠ gb329)) k_ ∧ w114.heap.size ≤ k_) (fun _ => False) rfl rfl ?aO ?aR (fun _ _ h => h) (fun _ h => h.elim) ?aF ?aB ?aS ?aL ?_
    (case aR => repeat (first | exact (Kd.R_reads' HO354.out).2.2 | (with_reducible refine Kd.C_alloc ?_ _) | (with_reducible refine Kd.C_drewN ?_ _) | (with_reducible refine Kd.C_drew ?_)))
    (case aB => exact z9_34)
    (case aF => exact (fun k_ hk => .inr ⟨⟨(Nat.le_trans (below_size z9_34) hk), Kd.fresh' (Kd.R_lt (pkR HO354)) k_ hk, Kd.freshB (g := gb328) (o := .cells #[.int .i64 ((rd_T46 (rd_L3 x3_1 (ji25)) 0).f0), .int .i64 ((rd_T46 (rd_L3 x3_1 (ji25)) 0).f1)] 46 (0, 0)) (pkb BK328) k_ hk, Kd.freshB (g := gb329) (o := .cells #[.int .i64 ((rd_T46 (rd_L3 x3_1 (ji25)) (ji29)).f0), .int .i64 ((rd_T46 (rd_L3 x3_1 (ji25)) (ji29)).f1)] 46 (0, 0)) (pkb BK329) k_ hk⟩, hk⟩))
    (case aO => exact (by (with_reducible repeat (first | apply Kd.R_alloc | apply Kd.R_drewN | apply Kd.R_drew)); exact Kd.R_mono UU115.out (fun _ hk => .inl hk)))
    (case aS => exact (below_size z9_34))
    (case aL => have := LMc99.out; omega)
    intro v356 w116 ho hb hg hat
    (first | have HS2_ := cell_grown hg (hHeld.2.2) z9_92 | have HS2_ := cell_grown hg (cell_unalloc (hHeld.2.2) z9_62) z9_92)
    rw [← Ny355.out] at ho
    have n0_ := mk0 (Kd.V_grown (pkV HO_4) hg z9_89)
    have n1_ := mk0 (Kd.V_grown (pkV HO_304001) hg z9_89)
    have n2_ := mk0 (blk_grown (g := gb303) (o := .cells #[.slice (some ad305) l0_0.length c0_0, .slice A0_1 l0_1.length c0_1] 31 (0, 0)) (pkb BK303) hg (Kd.R_ne HL351_0.out BK303.out (by decide)))
    have n3_ := mk0 (Kd.V_grown (pkV HO311) hg z9_89)
    have n4_ := mk0 (Kd.V_grown (pkV HO316) hg z9_89)
    have n5_ := mk0 (blk_grown (g := gb328) (o := .cells #[.int .i64 ((rd_T46 (rd_L3 x3_1 (ji25)) 0).f0), .int .i64 ((rd_T46 (rd_L3 x3_1 (ji25)) 0).f1)] 46 (0, 0)) (pkb BK328) hg (Kd.R_away HL351_0.out (fun _ hk => hk.1.1.2.1)))
    have n6_ := mk0 (blk_grown (g := gb329) (o := .cells #[.int .i64 ((rd_T46 (rd_L3 x3_1 (ji25)) (ji29)).f0), .int .i64 ((rd_T46 (rd_L3 x3_1 (ji25)) (ji29)).f1)] 46 (0, 0)) (pkb BK329) hg (Kd.R_away HL351_0.out (fun _ hk => hk.1.1.2.2)))
    have n7_ := mk0 (Kd.R_grown2 (pkR HO354) rfl hg (fun k_ e_ => (HL351_0.out.1 k_ e_).2))
    have n8_ := mk0 (hb)
    have n9_ := mk0 (Kd.H_grown (Kd.H_widen (by repeat (first | exact HH115.out | refine Kd.H_alloc ?_ _ | refine Kd.H_drewN ?_ _ | refine Kd.H_drew ?_))) hg (fun k_ e_ => .inl (UU115.out.1 k_ e_)))
    have n10_ := mk0 (ho)
    clear HO_4 HO_304001 BK303 HO311 HO316 BK328 BK329 HO354 HB HH115 HO_3 UU115 HL323_0 HL325_0 HL326_0 HL351_0; have HO_4 := n0_; have HO_304001 := n1_; have BK303 := n2_; have HO311 := n3_; have HO316 := n4_; have BK328 := n5_; have BK329 := n6_; have HO354 := n7_; have HB := n8_; have HH115 := n9_; have HO357 := n10_; clear n0_ n1_ n2_ n3_ n4_ n5_ n6_ n7_ n8_ n9_ n10_ ho hb hg hat
    obtain ⟨Ao120, co120, eo120⟩ := Kd.R_slice HO357.out
    (first | subst eo120 | (injection eo120 with f1_ f2_ f3_; have f4_ := f1_.symm; have f5_ := f3_.symm; clear f1_ f2_ f3_; subst f4_; subst f5_))
    obtain ⟨_, _, hraw118, _, _, hcc118, _⟩ := Kd.H_raw HH115.out (of_decide_eq_true (by first | (with_reducible assumption) | assumption)) (by have h_ : ((ji25) : Int) < ((x3_1.length : Int) : Int) := of_decide_eq_true (by first | (with_reducible assumption) | assumption); first | exact h_ | (have e_ := (HN115.out); omega) | simpa using h_)
    obtain ⟨_, hfr118⟩ := Kd.H_at HH115.out (of_decide_eq_true (by first | (with_reducible assumption) | assumption)) (by have h_ : ((ji25) : Int) < ((x3_1.length : Int) : Int) := of_decide_eq_true (by first | (with_reducible assumption) | assumption); first | exact h_ | (have e_ := (HN115.out); omega) | simpa using h_)
    have hx118_0 := hcc118 0 _ rfl
    have hf118_0 := hfr118 0
    (try simp only [Nat.add_zero] at hx118_0 hf118_0)
    (try rw [show ((Kd.slice 46 k46)).sz = 1 from rfl, Nat.mul_one] at hx118_0)
    (try rw [show ((Kd.slice 46 k46)).sz = 1 from rfl, Nat.mul_one] at hf118_0)
    have HP118 := Kd.S_seg0 HH115.out (of_decide_eq_true (by first | (with_reducible assumption) | assumption)) (by have h_ : ((ji25) : Int) < ((x3_1.length : Int) : Int) := of_decide_eq_true (by first | (with_reducible assumption) | assumption); first | exact h_ | (have e_ := (HN115.out); omega) | simpa using h_) (seg := [.slice Ao120 y355.length co120]) (j := 0) (show 1 ≤ 1 from by decide) (x' := y355) (Kd.M_row HO357.out) (fun _ hk => hk)
    (try simp only [show ((Kd.slice 46 k46)).sz = 1 from rfl, Nat.mul_one, Nat.add_zero] at HP118)
    clear hcc118 hfr118
    have HNB303_go115 := mk0 (show gb303 ≠ go115 from by have h_ := Kd.R_ne hraw118 BK303.out (by decide); intro e_; exact h_ (by rw [e_]; rfl))
    have HNB328_go115 := mk0 (show gb328 ≠ go115 from by have h_ := Kd.R_ne hraw118 BK328.out (by decide); intro e_; exact h_ (by rw [e_]; rfl))
    have HNB329_go115 := mk0 (show gb329 ≠ go115 from by have h_ := Kd.R_ne hraw118 BK329.out (by decide); intro e_; exact h_ (by rw [e_]; rfl))
    have HS118 := HP118.1
    rw [← Ny358.out] at HS118
    have HQ118 := mk0 HS118
    obtain ⟨_, hgg118⟩ := Kd.R_typed hraw118 go115 rfl
    have GG118_ := mk0 hgg118
    clear HP118 HS118 hgg118
    refine hK.out _ _ ⟨(blk_cell BK329.out 0).trans rfl, (blk_cell BK329.out 1).trans rfl, HS2_⟩ (fun hHeld => ?_)
    clear hK K
    refine norm_ (a' := ?_) ?_ ?_
    rotate_left
    ·show Act.put _ (some 84) _ = _
     simp only [Act.put, List.setIfInBounds_toArray, List.set_cons_zero, List.set_cons_succ, i64_w, i32_w]
     rfl
    refine pzv (i := 9) (N := 85) (v := ?_) (a' := ?_) y9_30 HT_ ?_ ?_ ?_
    rotate_left
    ·intro w'
     go_simp; with_reducible rfl
    rotate_left
    ·exact x9_put
    refine last_ (i := 10) (N := none) y9_41 rfl rfl (one_of HT_.out (by kernel_rfl)) (by decide) (fun K hK => ?_)
    refine skip_ (w1 := ?_) ?hwx ?hN ?_ ?_; (case hwx => rfl); (case hN => rfl)
    rotate_left
    ·go_simp
     rfl
    refine hK.out _ _ ?_
    clear hK K
    refine done_ (done_of HT_.out (by kernel_rfl)) ?_
    try go_wp2
    go_roundg k1
    case measure => have := HK1.out; omega
    case rel => exact ⟨(y358), (y312), (wrap64 (x20_1 + 1)), rs0, H', ⟨(by have := HK1.out; omega)⟩, ⟨(by (with_reducible repeat (first | apply Kd.S_alloc | apply Kd.S_drewN | apply Kd.S_drew)); exact Kd.S_mono HQ118.out (fun _ hk => hk.1))⟩, ⟨(by (with_reducible repeat (first | apply Kd.V_alloc | apply Kd.V_drewN | apply Kd.V_drew)); exact Kd.V_mono (Kd.V_far (p := ⟨go115, ((ji25) : Int).toNat, none⟩) (Kd.V_mono HO316.out (fun k_ hk => (⟨hk, fun e_ => hk.1.2.1 (by rw [e_]; rfl)⟩ : _ ∧ k_ ≠ go115))) (fun _ hk => hk.2) (.slice Ao120 y355.length co120)) (fun _ hk => ⟨hk.1.1.1, ⟨hk.1.1.2.1, hk.1.1.2.2.1⟩⟩))⟩, ⟨(by (with_reducible repeat (first | apply Kd.V_alloc | apply Kd.V_drewN | apply Kd.V_drew)); exact Kd.V_mono (Kd.V_far (p := ⟨go115, ((ji25) : Int).toNat, none⟩) (Kd.V_mono HO_304001.out (fun k_ hk => (⟨hk, fun e_ => hk.1.2.1 (by rw [e_]; rfl)⟩ : _ ∧ k_ ≠ go115))) (fun _ hk => hk.2) (.slice Ao120 y355.length co120)) (fun _ hk => ⟨hk.1.1.1, ⟨hk.1.1.2.1, hk.1.1.2.2.1⟩⟩))⟩, ⟨(by (with_reducible repeat (first | refine blk_drewN ?_ _ | refine blk_drew ?_ | refine blk_alloc ?_ _)); refine blk_far ?_ HNB303_go115.out _; (with_reducible repeat (first | refine blk_drewN ?_ _ | refine blk_drew ?_ | refine blk_alloc ?_ _)); exact BK303.out)⟩, ⟨(by repeat (first | (with_reducible first | exact HB.out | apply below_alloc | apply pw_below_drewN | apply below_drew1 | refine below_set ?_ GB115.out | refine below_set ?_ GE303.out | refine below_set ?_ GE328.out | refine below_set ?_ GE329.out) | exact HB.out))⟩⟩
   rw [if_pos c32] at H
   have c32b0 : ((rd l0_0 x20_1) == 5) = true := beq_iff_eq.mpr c32
   have c32b1 : ((rd l0_0 x20_1) != 5) = false := bne_eq_false_iff_eq.mpr c32
   clear c32
   by_cases c33 : (!(((rd_T46 (rd_L3 x3_1 (ji25)) 0).f0) == ((rd_T46 (rd_L3 x3_1 (ji25)) (ji29)).f0)) || (!(((rd_T46 (rd_L3 x3_1 (ji25)) 0).f1) == ((rd_T46 (rd_L3 x3_1 (ji25)) (ji29)).f1)))) = true
   rotate_left
   ·rw [if_neg c33] at H
    have c33b0 : (!(((rd_T46 (rd_L3 x3_1 (ji25)) 0).f0) == ((rd_T46 (rd_L3 x3_1 (ji25)) (ji29)).f0)) || (!(((rd_T46 (rd_L3 x3_1 (ji25)) 0).f1) == ((rd_T46 (rd_L3 x3_1 (ji25)) (ji29)).f1)))) = false := by simpa using c33
    clear c33
    replace H := Option.bind_eq_some_iff.mp H
    obtain ⟨t344, A700, H⟩ := H
    try dsimp only at H
    have A70 := mk0 A700
    clear A700
    by_cases c71 : (rd_L3 x3_1 (ji25)).length + t344.length < 8796093022208
    rotate_left
    ·rw [if_neg c71] at H
     exact absurd H (by simp)
    rw [if_pos c71] at H
    have LMc71 := mk0 c71
    clear c71
    obtain ⟨y347, hy_⟩ : ∃ y_ : List (S46), y_ = ((rd_L3 x3_1 (ji25)) ++ t344) := ⟨_, rfl⟩
    replace H : (impl_FlatOf.l0 k1 (x3_1.set ((ji25) : Int).toNat y347) y312 l0_0 (l0_0.length : Int) (wrap64 (x20_1 + 1))) = some r := z9_38
    have Ny347 := mk0 hy_
    clear hy_
    obtain ⟨y350, hy_⟩ : ∃ y_ : List (List (S46)), y_ = (x3_1.set ((ji25) : Int).toNat y347) := ⟨_, rfl⟩
    replace H : (impl_FlatOf.l0 k1 y350 y312 l0_0 (l0_0.length : Int) (wrap64 (x20_1 + 1))) = some r := z9_38
    have Ny350 := mk0 hy_
    clear hy_
    have H' := mk0 H
    clear H
    have p305 : 0 ≤ (x20_1 : Int) := of_decide_eq_true (by first | (with_reducible assumption) | assumption)
    have q305 : x20_1 < (l0_0.length : Int) := of_decide_eq_true (by first | (with_reducible assumption) | assumption)
    obtain ⟨ad305, e305, hx305_0⟩ := Kd.at_int HR0_0.out x20_1 p305 q305
    cases e305
    replace hx305_0 := cell_go HB hx305_0
    replace p305 := eq_true p305
    replace q305 := eq_true q305
    try go_wp2_with (first | ((with_reducible refine gate_callee (f := 28) rfl ?_); refine goesL_ (some 25) rfl rfl Try.func28 (by kernel_rfl) rfl #[.int .i64 (rd l0_0 x20_1)] rfl z9_59 ?_; (with_reducible refine (impl_NeedOf.calls k1 (rd l0_0 x20_1) t306 _ A11.out).mono ?_); rintro e w' ⟨rfl, ⟨nd, rfl⟩⟩; refine ⟨_, rfl, ?_⟩; (try (rw [drewN_self wr]; generalize hq_ : World.drewN wr _ = wr; have n0_ : Aside0 (Kd.S (Kd.slice 46 k46) 29 wr w.heap.size (fun k_ => (w.heap.size ≤ k_)) u3 x3_1) := ⟨(by rw [← hq_]; exact (pkS HO_3))⟩; have n1_ : Aside0 (Kd.V k46 46 wr w.heap.size (fun k_ => ((P0_1_ k_) ∧ k_ < w.heap.size) ∧ some k_ ≠ (u3 : Value).ownBlock ∧ k_ ≠ gb303) (.slice A0_1 l0_1.length c0_1) l0_1) := ⟨(by rw [← hq_]; exact (pkV HO_304001))⟩; have n2_ : Aside0 (Kd.V k46 46 wr w.heap.size (fun k_ => ((P0_1_ k_) ∧ k_ < w.heap.size) ∧ some k_ ≠ (u3 : Value).ownBlock ∧ k_ ≠ gb303) u4 x4_1) := ⟨(by rw [← hq_]; exact (pkV HO_4))⟩; have n3_ : Aside0 (wr.heap[gb303]? = some (.cells #[.slice (some ad305) l0_0.length c0_0, .slice A0_1 l0_1.length c0_1] 31 (0, 0))) := ⟨(by rw [← hq_]; exact (pkb BK303))⟩; have n4_ : Aside0 (Below w.heap.size w wr) := ⟨(by rw [← hq_]; exact z9_35)⟩; clear HO_3 HO_304001 HO_4 BK303 HB hq_; have HO_3 := n0_; have HO_304001 := n1_; have HO_4 := n2_; have BK303 := n3_; have HB := n4_; clear n0_ n1_ n2_ n3_ n4_)); obtain ⟨Ao73, co73, eo73⟩ := Kd.V_slice HO_4.out; subst eo73; have q72 : (t306 : Int) ≤ ((x4_1.length : Int) : Int) := of_decide_eq_true (by first | (with_reducible assumption) | assumption); obtain ⟨i072, hi072, _, hsz72, _⟩ := info_parts info46; have hroom72 : x4_1.length ≤ co73 := (Kd.V_reads' HO_4.out).2.1; have hC72 : Kd.F k46 _ _ Ao73 x4_1.length x4_1 := (Kd.V_at (base := w.heap.size) HO_4.out).2.2; have hcut72 := cut_to (P := Try.prog) 29 46 .i64 Try.underlying29 hi072 Ao73 x4_1.length co73 t306 (of_decide_eq_true (by first | (with_reducible assumption) | assumption)) q72 hroom72; have hr72 := Kd.F_take (m := (t306 : Int).toNat) hC72 (by omega); have hy72 : y307.length = (t306 : Int).toNat := (by rw [Ny307.out, List.length_take]; omega); rw [← Ny307.out] at hr72; rw [← hy72] at hcut72; have HO311 := mk0 (show Kd.V k46 46 _ w.heap.size _ (.slice Ao73 y307.length co73) y307 from Kd.V_mk (by omega) hr72); have HC311 := mk0 (show y307.length ≤ co73 from by omega); clear hr72 hC72 hroom72 hi072 hsz72; have KY72 := mk0 hy72; clear hy72; replace q72 := eq_true q72; have q74 : (t306 : Int) ≤ ((x4_1.length : Int) : Int) := of_decide_eq_true (by first | (with_reducible assumption) | assumption); obtain ⟨i074, hi074, _, hsz74, _⟩ := info_parts info46; have hroom74 : x4_1.length ≤ co73 := (Kd.V_reads' HO_4.out).2.1; have hC74 : Kd.F k46 _ _ Ao73 x4_1.length x4_1 := (Kd.V_at (base := w.heap.size) HO_4.out).2.2; have q074 : (0 : Int) ≤ (t306 : Int) := of_decide_eq_true (by first | (with_reducible assumption) | assumption); have hcut74 := cut_from (P := Try.prog) 29 46 .i64 Try.underlying29 hi074 2 hsz74 Ao73 x4_1.length co73 t306 q074 q74; have hr74 := Kd.F_cut (m := (t306 : Int).toNat) (c := co73) hC74 (by omega) hroom74; obtain ⟨A74, hA74⟩ : ∃ A1, A1 = (if co73 = (t306 : Int).toNat then Ao73 else (Ao73 : Option Addr).map (·.add ((t306 : Int).toNat * 2))) := ⟨_, rfl⟩; obtain ⟨c74, hc74⟩ : ∃ c1, c1 = co73 - (t306 : Int).toNat := ⟨_, rfl⟩; have hy74 : y312.length = x4_1.length - (t306 : Int).toNat := (by rw [Ny312.out, List.length_drop] <;> omega); rw [show (x4_1).drop (t306 : Int).toNat = y312 from Ny312.out.symm] at hr74; replace hr74 : Kd.F k46 _ _ A74 y312.length y312 := (by rw [hA74]; exact hr74); rw [← hy74, ← hA74, ← hc74] at hcut74; have HO316 := mk0 (show Kd.V k46 46 _ w.heap.size _ (.slice A74 y312.length c74) y312 from Kd.V_mk (by rw [hy74, hc74]; exact Nat.sub_le_sub_right hroom74 _) hr74); have HC316 := mk0 (show y312.length ≤ c74 from by rw [hy74, hc74]; exact Nat.sub_le_sub_right hroom74 _); clear hr74 hC74 hroom74 hi074 hsz74 hc74; have KY74 := mk0 hy74; have KA74 := mk0 hA74; clear hy74 hA74; replace q74 := eq_true q74; obtain ⟨Ao75, co75, eo75⟩ := Kd.S_slice HO_3.out; subst eo75))
    have n0_ := mk0 (Kd.S_drew HO_3.out)
    have n1_ := mk0 (Kd.V_drew HO_4.out)
    have n2_ := mk0 (Kd.V_drew HO_304001.out)
    have n3_ := mk0 (Kd.V_drew HO311.out)
    have n4_ := mk0 (Kd.V_drew HO316.out)
    have n5_ := mk0 (blk_drew BK303.out)
    have n6_ := mk0 (below_drew1 HB.out)
    clear HO_3 HO_4 HO_304001 HO311 HO316 BK303 HB; have HO_3 := n0_; have HO_4 := n1_; have HO_304001 := n2_; have HO311 := n3_; have HO316 := n4_; have BK303 := n5_; have HB := n6_; clear n0_ n1_ n2_ n3_ n4_ n5_ n6_
    have p323 : 0 ≤ ((ji25) : Int) := of_decide_eq_true (by first | (with_reducible assumption) | assumption)
    have q323 : (ji25) < (x3_1.length : Int) := of_decide_eq_true (by first | (with_reducible assumption) | assumption)
    obtain ⟨ad323, A323_0, c323_0, e323, hx323_0, hl323_0, hi323_0⟩ := at_L3 (Kd.S_reads' HO_3.out).2.2 (ji25) p323 q323
    cases e323
    obtain ⟨ce323, hce323, hMe323, hcc323⟩ := Kd.S_get HO_3.out [] (ji25) p323 z9_82
    obtain ⟨ve323_0, rfl, ge323_0⟩ := hMe323
    have hv323_0 := hcc323 0 _ rfl
    rw [Nat.add_zero, show ((Kd.slice 46 k46)).sz = 1 from rfl, Nat.mul_one] at hv323_0
    replace hv323_0 := Option.some.inj (hv323_0.symm.trans hx323_0)
    rw [hv323_0] at ge323_0
    have HL323_0 := mk0 (show Kd.R k46 46 _ _ _ _ (rd_L3 x3_1 (ji25)) from ge323_0)
    clear hv323_0 ge323_0
    have HX323_0 := mk0 hx323_0
    clear hcc323 hce323
    have HR323_0 := mk0 hi323_0
    have HC323_0 := mk0 hl323_0
    clear hi323_0 hl323_0
    replace p323 := eq_true p323
    replace q323 := eq_true q323
    have p324 : 0 ≤ (0 : Int) := (by omega)
    have q324 : 0 < ((rd_L3 x3_1 (ji25)).length : Int) := of_decide_eq_true (by first | (with_reducible assumption) | assumption)
    obtain ⟨ad324, e324, hx324_0, hx324_1⟩ := at_T46 z9_36 0 p324 q324
    cases e324
    have qi324 : (0 < (rd_L3 x3_1 (ji25)).length) = True := eq_true (by omega)
    (try rw [show ((0 : Int)).toNat = 0 from rfl] at hx324_0)
    (try rw [show 0 * 2 = 0 from rfl] at hx324_0)
    (try rw [Addr.add_zero'] at hx324_0)
    (try rw [show ((0 : Int)).toNat = 0 from rfl] at hx324_1)
    (try rw [show 0 * 2 = 0 from rfl] at hx324_1)
    (try rw [Addr.add_zero'] at hx324_1)
    replace p324 := eq_true p324
    replace q324 := eq_true q324
    have p325 : 0 ≤ ((ji25) : Int) := of_decide_eq_true (by first | (with_reducible assumption) | assumption)
    have q325 : (ji25) < (x3_1.length : Int) := of_decide_eq_true (by first | (with_reducible assumption) | assumption)
    obtain ⟨ad325, A325_0, c325_0, e325, hx325_0, hl325_0, hi325_0⟩ := at_L3 (Kd.S_reads' HO_3.out).2.2 (ji25) p325 q325
    obtain rfl : ad323 = ad325 := (by injection e325)
    obtain ⟨ce325, hce325, hMe325, hcc325⟩ := Kd.S_get HO_3.out [] (ji25) p325 z9_83
    obtain ⟨ve325_0, rfl, ge325_0⟩ := hMe325
    have hv325_0 := hcc325 0 _ rfl
    rw [Nat.add_zero, show ((Kd.slice 46 k46)).sz = 1 from rfl, Nat.mul_one] at hv325_0
    replace hv325_0 := Option.some.inj (hv325_0.symm.trans hx325_0)
    rw [hv325_0] at ge325_0
    have HL325_0 := mk0 (show Kd.R k46 46 _ _ _ _ (rd_L3 x3_1 (ji25)) from ge325_0)
    clear hv325_0 ge325_0
    have HX325_0 := mk0 hx325_0
    clear hcc325 hce325
    have HR325_0 := mk0 hi325_0
    have HC325_0 := mk0 hl325_0
    clear hi325_0 hl325_0
    replace p325 := eq_true p325
    replace q325 := eq_true q325
    have ea_ := Option.some.inj (hx323_0.symm.trans hx325_0)
    injection ea_ with ea_ en_ ec_
    subst ea_; subst ec_; clear en_
    have p326 : 0 ≤ ((ji25) : Int) := of_decide_eq_true (by first | (with_reducible assumption) | assumption)
    have q326 : (ji25) < (x3_1.length : Int) := of_decide_eq_true (by first | (with_reducible assumption) | assumption)
    obtain ⟨ad326, A326_0, c326_0, e326, hx326_0, hl326_0, hi326_0⟩ := at_L3 (Kd.S_reads' HO_3.out).2.2 (ji25) p326 q326
    obtain rfl : ad323 = ad326 := (by injection e326)
    obtain ⟨ce326, hce326, hMe326, hcc326⟩ := Kd.S_get HO_3.out [] (ji25) p326 z9_84
    obtain ⟨ve326_0, rfl, ge326_0⟩ := hMe326
    have hv326_0 := hcc326 0 _ rfl
    rw [Nat.add_zero, show ((Kd.slice 46 k46)).sz = 1 from rfl, Nat.mul_one] at hv326_0
    replace hv326_0 := Option.some.inj (hv326_0.symm.trans hx326_0)
    rw [hv326_0] at ge326_0
    have HL326_0 := mk0 (show Kd.R k46 46 _ _ _ _ (rd_L3 x3_1 (ji25)) from ge326_0)
    clear hv326_0 ge326_0
    have HX326_0 := mk0 hx326_0
    clear hcc326 hce326
    have HR326_0 := mk0 hi326_0
    have HC326_0 := mk0 hl326_0
    clear hi326_0 hl326_0
    replace p326 := eq_true p326
    replace q326 := eq_true q326
    have ea_ := Option.some.inj (hx323_0.symm.trans hx326_0)
    injection ea_ with ea_ en_ ec_
    subst ea_; subst ec_; clear en_
    have p327 : 0 ≤ ((ji29) : Int) := of_decide_eq_true (by first | (with_reducible assumption) | assumption)
    have q327 : (ji29) < ((rd_L3 x3_1 (ji25)).length : Int) := of_decide_eq_true (by first | (with_reducible assumption) | assumption)
    obtain ⟨ad327, e327, hx327_0, hx327_1⟩ := at_T46 z9_37 (ji29) p327 q327
    cases e327
    replace p327 := eq_true p327
    replace q327 := eq_true q327
    go_wp2
    refine start_ (n := 19) (S := fun w' => w'.cell? (ad323.add ((ji25)).toNat) = some (.slice (some ad324) (rd_L3 x3_1 (ji25)).length c323_0) ∧ w'.cell? ad324 = some (.int .i64 ((rd_T46 (rd_L3 x3_1 (ji25)) 0).f0)) ∧ w'.cell? ⟨ad324.block, ad324.off + 1, none⟩ = some (.int .i64 ((rd_T46 (rd_L3 x3_1 (ji25)) 0).f1)) ∧ w'.cell? (ad323.add ((ji25)).toNat) = some (.slice (some ad324) (rd_L3 x3_1 (ji25)).length c323_0) ∧ w'.cell? (ad323.add ((ji25)).toNat) = some (.slice (some ad324) (rd_L3 x3_1 (ji25)).length c323_0) ∧ w'.cell? (ad324.add (((ji29)).toNat * 2)) = some (.int .i64 ((rd_T46 (rd_L3 x3_1 (ji25)) (ji29)).f0)) ∧ w'.cell? ⟨(ad324.add (((ji29)).toNat * 2)).block, (ad324.add (((ji29)).toNat * 2)).off + 1, none⟩ = some (.int .i64 ((rd_T46 (rd_L3 x3_1 (ji25)) (ji29)).f1))) (ds := []) y9_0 (by kernel_rfl) rfl rfl ⟨hx323_0, hx324_0, hx324_1, hx325_0, hx326_0, hx327_0, hx327_1⟩ (fun hHeld => ?_); refine with_tabW impl_FlatOf.tab14 impl_FlatOf.bits14 (fun HT_ HW_ => ?_)
    generalize wr.drew = w76 at HO_3 HO_4 HO_304001 HO311 HO316 BK303 HB HL323_0 HL325_0 HL326_0 HR323_0 HR325_0 HR326_0 HX323_0 HX325_0 HX326_0 hx323_0 hx324_0 hx324_1 hx325_0 hx326_0 hx327_0 hx327_1 hHeld ⊢
    refine pzv (i := 0) (N := 46) (v := ?_) (a' := ?_) y9_3 HT_ ?_ ?_ ?_
    rotate_left
    ·intro w'
     go_simp; with_reducible rfl
    rotate_left
    ·exact x9_put
    refine pzv (i := 1) (N := 47) (v := ?_) (a' := ?_) y9_6 HT_ ?_ ?_ ?_
    rotate_left
    ·intro w'
     go_simp; with_reducible rfl
    rotate_left
    ·exact x9_put
    refine pzv (i := 5) (N := 51) (v := ?_) (a' := ?_) y9_9 HT_ ?_ ?_ ?_
    rotate_left
    ·intro w'
     go_simp; with_reducible rfl
    rotate_left
    ·exact x9_put
    refine pzv (i := 6) (N := 52) (v := ?_) (a' := ?_) y9_10 HT_ ?_ ?_ ?_
    rotate_left
    ·intro w'
     go_simp; with_reducible rfl
    rotate_left
    ·exact x9_put
    refine pzv (i := 8) (N := 54) (v := ?_) (a' := ?_) y9_11 HT_ ?_ ?_ ?_
    rotate_left
    ·intro w'
     go_simp; with_reducible rfl
    rotate_left
    ·exact x9_put
    refine pzv (i := 9) (N := 55) (v := ?_) (a' := ?_) y9_12 HT_ ?_ ?_ ?_
    rotate_left
    ·intro w'
     go_simp; with_reducible rfl
    rotate_left
    ·exact x9_put
    refine take_ (i := 2) (N := some 48) (v := ?_) (a' := ?_) y9_15 rfl rfl (take_ofW HT_.out HW_.out (by kernel_rfl)) (fun _ _ _ h => h) (Or.inl ⟨by rfl, ?_⟩) hHeld ?_ ?_
    rotate_left
    ·rintro w' ⟨s0, s1, s2, s3, s4, s5, s6⟩
     go_simp; with_reducible rfl
    rotate_left
    ·exact x9_put
    refine pzv (i := 3) (N := 49) (v := ?_) (a' := ?_) y9_19 HT_ ?_ ?_ ?_
    rotate_left
    ·intro w'
     go_simp; with_reducible rfl
    rotate_left
    ·exact x9_put
    refine take_ (i := 4) (N := some 50) (v := ?_) (a' := ?_) y9_25 rfl rfl (take_ofW HT_.out HW_.out (by kernel_rfl)) (fun _ _ _ h => h) (Or.inl ⟨by rfl, ?_⟩) hHeld ?_ ?_
    rotate_left
    ·rintro w' ⟨s0, s1, s2, s3, s4, s5, s6⟩
     go_simp; with_reducible rfl
    rotate_left
    ·exact x9_put
    refine take_ (i := 7) (N := some 53) (v := ?_) (a' := ?_) y9_29 rfl rfl (take_ofW HT_.out HW_.out (by kernel_rfl)) (fun _ _ _ h => h) (Or.inl ⟨by rfl, ?_⟩) hHeld ?_ ?_
    rotate_left
    ·rintro w' ⟨s0, s1, s2, s3, s4, s5, s6⟩
     go_simp; with_reducible rfl
    rotate_left
    ·exact x9_put
    refine take_ (i := 10) (N := some 56) (v := ?_) (a' := ?_) y9_31 rfl rfl (take_ofW HT_.out HW_.out (by kernel_rfl)) (fun _ _ _ h => h) (Or.inl ⟨by rfl, ?_⟩) hHeld ?_ ?_
    rotate_left
    ·rintro w' ⟨s0, s1, s2, s3, s4, s5, s6⟩
     go_simp; with_reducible rfl
    rotate_left
    ·exact x9_put
    refine pzv (i := 11) (N := 57) (v := ?_) (a' := ?_) y9_32 HT_ ?_ ?_ ?_
    rotate_left
    ·intro w'
     go_simp; with_reducible rfl
    rotate_left
    ·exact x9_put
    refine pzv (i := 12) (N := 58) (v := ?_) (a' := ?_) y9_33 HT_ ?_ ?_ ?_
    rotate_left
    ·intro w'
     go_simp; with_reducible rfl
    rotate_left
    ·exact x9_put
    refine pzv (i := 13) (N := 59) (v := ?_) (a' := ?_) y9_34 HT_ ?_ ?_ ?_
    rotate_left
    ·intro w'
     go_simp; with_reducible rfl
    rotate_left
    ·exact x9_put
    refine take_ (i := 14) (N := some 60) (v := ?_) (a' := ?_) y9_35 rfl rfl (take_ofW HT_.out HW_.out (by kernel_rfl)) (fun _ _ _ h => h) (Or.inl ⟨by rfl, ?_⟩) hHeld ?_ ?_
    rotate_left
    ·rintro w' ⟨s0, s1, s2, s3, s4, s5, s6⟩
     go_simp; with_reducible rfl
    rotate_left
    ·exact x9_put
    refine join_ (σ := Nat × Nat) 2 y9_38 (fun s_ => [(10, .pointer (some ⟨s_.1, 0, none⟩)), (11, .pointer (some ⟨s_.2, 0, none⟩))]) (fun s_ w' => (w'.cell? (ad323.add ((ji25)).toNat) = some (.slice (some ad324) (rd_L3 x3_1 (ji25)).length c323_0) ∧ w'.cell? ad324 = some (.int .i64 ((rd_T46 (rd_L3 x3_1 (ji25)) 0).f0)) ∧ w'.cell? ⟨ad324.block, ad324.off + 1, none⟩ = some (.int .i64 ((rd_T46 (rd_L3 x3_1 (ji25)) 0).f1)) ∧ w'.cell? (ad323.add ((ji25)).toNat) = some (.slice (some ad324) (rd_L3 x3_1 (ji25)).length c323_0) ∧ w'.cell? (ad323.add ((ji25)).toNat) = some (.slice (some ad324) (rd_L3 x3_1 (ji25)).length c323_0) ∧ w'.cell? (ad324.add (((ji29)).toNat * 2)) = some (.int .i64 ((rd_T46 (rd_L3 x3_1 (ji25)) (ji29)).f0)) ∧ w'.cell? ⟨(ad324.add (((ji29)).toNat * 2)).block, (ad324.add (((ji29)).toNat * 2)).off + 1, none⟩ = some (.int .i64 ((rd_T46 (rd_L3 x3_1 (ji25)) (ji29)).f1))) ∧ (Kd.R k46 46 w' w.heap.size (fun k_ => (w.heap.size ≤ k_) ∧ some k_ ≠ (.slice (some ad323) x3_1.length co75 : Value).ownBlock ∧ k_ ≠ s_.1 ∧ k_ ≠ s_.2) (.slice (some ad324) (rd_L3 x3_1 (ji25)).length c323_0) (rd_L3 x3_1 (ji25))) ∧ (Kd.R k46 46 w' w.heap.size (fun k_ => (w.heap.size ≤ k_) ∧ some k_ ≠ (.slice (some ad323) x3_1.length co75 : Value).ownBlock ∧ k_ ≠ s_.1 ∧ k_ ≠ s_.2) (.slice (some ad324) (rd_L3 x3_1 (ji25)).length c323_0) (rd_L3 x3_1 (ji25))) ∧ (Kd.R k46 46 w' w.heap.size (fun k_ => (w.heap.size ≤ k_) ∧ some k_ ≠ (.slice (some ad323) x3_1.length co75 : Value).ownBlock ∧ k_ ≠ s_.1 ∧ k_ ≠ s_.2) (.slice (some ad324) (rd_L3 x3_1 (ji25)).length c323_0) (rd_L3 x3_1 (ji25))) ∧ (Kd.V k46 46 w' w.heap.size (fun k_ => ((P0_1_ k_) ∧ k_ < w.heap.size) ∧ some k_ ≠ (.slice (some ad323) x3_1.length co75 : Value).ownBlock ∧ k_ ≠ gb303 ∧ k_ ≠ s_.1 ∧ k_ ≠ s_.2) (.slice Ao73 y307.length co73) y307) ∧ (Kd.V k46 46 w' w.heap.size (fun k_ => ((P0_1_ k_) ∧ k_ < w.heap.size) ∧ some k_ ≠ (.slice (some ad323) x3_1.length co75 : Value).ownBlock ∧ k_ ≠ gb303 ∧ k_ ≠ s_.1 ∧ k_ ≠ s_.2) (.slice A74 y312.length c74) y312) ∧ (Kd.S (Kd.slice 46 k46) 29 w' w.heap.size (fun k_ => (w.heap.size ≤ k_) ∧ k_ ≠ s_.1 ∧ k_ ≠ s_.2) (.slice (some ad323) x3_1.length co75) x3_1) ∧ (Kd.V k46 46 w' w.heap.size (fun k_ => ((P0_1_ k_) ∧ k_ < w.heap.size) ∧ some k_ ≠ (.slice (some ad323) x3_1.length co75 : Value).ownBlock ∧ k_ ≠ gb303 ∧ k_ ≠ s_.1 ∧ k_ ≠ s_.2) (.slice A0_1 l0_1.length c0_1) l0_1) ∧ (Kd.V k46 46 w' w.heap.size (fun k_ => ((P0_1_ k_) ∧ k_ < w.heap.size) ∧ some k_ ≠ (.slice (some ad323) x3_1.length co75 : Value).ownBlock ∧ k_ ≠ gb303 ∧ k_ ≠ s_.1 ∧ k_ ≠ s_.2) (.slice Ao73 x4_1.length co73) x4_1) ∧ (w'.cell? (ad323.add ((ji25)).toNat) = some (.slice (some ad324) (rd_L3 x3_1 (ji25)).length c323_0)) ∧ (w'.cell? (ad323.add ((ji25)).toNat) = some (.slice (some ad324) (rd_L3 x3_1 (ji25)).length c323_0)) ∧ (w'.cell? (ad323.add ((ji25)).toNat) = some (.slice (some ad324) (rd_L3 x3_1 (ji25)).length c323_0)) ∧ (w'.heap[gb303]? = some (.cells #[.slice (some ad305) l0_0.length c0_0, .slice A0_1 l0_1.length c0_1] 31 (0, 0))) ∧ (w'.heap[s_.1]? = some (.cells #[.int .i64 0, .int .i64 0] 46 (0, 0))) ∧ (w'.heap[s_.2]? = some (.cells #[.int .i64 0, .int .i64 0] 46 (0, 0))) ∧ (w.heap.size ≤ s_.1) ∧ (w.heap.size ≤ s_.1) ∧ (gb303 ≠ s_.1) ∧ (s_.1 ≠ gb303) ∧ (s_.2 ≠ s_.1) ∧ (s_.1 ≠ s_.2) ∧ (w.heap.size ≤ s_.2) ∧ (w.heap.size ≤ s_.2) ∧ (gb303 ≠ s_.2) ∧ (s_.2 ≠ gb303) ∧ (Below w.heap.size w w')) ?_ ?_
    rotate_left
    ·intro hCont
     refine two_ (i := 15) (j := 16) (Ni := some 10) (Nj := some 11) y9_37 y9_36 rfl rfl rfl rfl (two_of HT_.out (by kernel_rfl)) (by decide) (by decide) (fun K hK => ?_) (fun K hK => ?_)
     ·skip
      refine box_step ?hg (N := 10) ?hd (cs := #[.int .i64 0, .int .i64 0]) (t := 46) ?hr ?_; (case hd => rfl); (case hg => rfl); (case hr => first | (go_simp; done) | (go_simp; rfl))
      intro gb328 hg w77 hbox hb
      have HS0_ := (hb.cell (World.block_lt_of_cell? _ _ (hHeld.1))).trans (hHeld.1)
      have HS1_ := (hb.cell (World.block_lt_of_cell? _ _ (hHeld.2.1))).trans (hHeld.2.1)
      have HS2_ := (hb.cell (World.block_lt_of_cell? _ _ (hHeld.2.2.1))).trans (hHeld.2.2.1)
      have HS3_ := (hb.cell (World.block_lt_of_cell? _ _ (hHeld.2.2.2.1))).trans (hHeld.2.2.2.1)
      have HS4_ := (hb.cell (World.block_lt_of_cell? _ _ (hHeld.2.2.2.2.1))).trans (hHeld.2.2.2.2.1)
      have HS5_ := (hb.cell (World.block_lt_of_cell? _ _ (hHeld.2.2.2.2.2.1))).trans (hHeld.2.2.2.2.2.1)
      have HS6_ := (hb.cell (World.block_lt_of_cell? _ _ (hHeld.2.2.2.2.2.2))).trans (hHeld.2.2.2.2.2.2)
      have n0_ := mk0 (Kd.S_below (Kd.S_elderB (pkS HO_3) gb328 (Nat.le_of_eq hg.symm)) hb)
      have n1_ := mk0 (Kd.V_below (Kd.V_elderB (pkV HO_4) gb328 (Nat.le_of_eq hg.symm)) hb)
      have n2_ := mk0 (Kd.V_below (Kd.V_elderB (pkV HO_304001) gb328 (Nat.le_of_eq hg.symm)) hb)
      have n3_ := mk0 (Kd.V_below (Kd.V_elderB (pkV HO311) gb328 (Nat.le_of_eq hg.symm)) hb)
      have n4_ := mk0 (Kd.V_below (Kd.V_elderB (pkV HO316) gb328 (Nat.le_of_eq hg.symm)) hb)
      have n5_ := mk0 (Kd.R_below (Kd.R_elderB (pkR HL323_0) gb328 (Nat.le_of_eq hg.symm)) hb)
      have n6_ := mk0 (Kd.R_below (Kd.R_elderB (pkR HL325_0) gb328 (Nat.le_of_eq hg.symm)) hb)
      have n7_ := mk0 (Kd.R_below (Kd.R_elderB (pkR HL326_0) gb328 (Nat.le_of_eq hg.symm)) hb)
      have n8_ := mk0 (blk_belowB BK303 (pkb BK303) hb)
      have n9_ := mk0 (Kd.C_below z9_36 hb)
      have n10_ := mk0 (pw_cell_below hb HX323_0.out)
      have n11_ := mk0 (Kd.C_below z9_37 hb)
      have n12_ := mk0 (pw_cell_below hb HX325_0.out)
      have n13_ := mk0 (Kd.C_below z9_41 hb)
      have n14_ := mk0 (pw_cell_below hb HX326_0.out)
      have n15_ := mk0 (below_step z9_35 hb)
      have n16_ := mk0 (hbox)
      have n17_ := mk0 (ge_go (a := w.heap.size) hg (below_size z9_35))
      have n18_ := mk0 (ge_go (a := w.heap.size) hg (below_size z9_35))
      have n19_ := mk0 (nb_lt hg (blk_ltB BK303 (pkb BK303)))
      have n20_ := mk0 (nb_gt hg (blk_ltB BK303 (pkb BK303)))
      clear HO_3 HO_4 HO_304001 HO311 HO316 HL323_0 HL325_0 HL326_0 BK303 HR323_0 HX323_0 HR325_0 HX325_0 HR326_0 HX326_0 HB; have HO_3 := n0_; have HO_4 := n1_; have HO_304001 := n2_; have HO311 := n3_; have HO316 := n4_; have HL323_0 := n5_; have HL325_0 := n6_; have HL326_0 := n7_; have BK303 := n8_; have HR323_0 := n9_; have HX323_0 := n10_; have HR325_0 := n11_; have HX325_0 := n12_; have HR326_0 := n13_; have HX326_0 := n14_; have HB := n15_; have BK328 := n16_; have GW328 := n17_; have GE328 := n18_; have NB303_328 := n19_; have NB328_303 := n20_; clear n0_ n1_ n2_ n3_ n4_ n5_ n6_ n7_ n8_ n9_ n10_ n11_ n12_ n13_ n14_ n15_ n16_ n17_ n18_ n19_ n20_ hb hbox hg
      refine hK.out _ _ ⟨HS0_, HS1_, HS2_, HS3_, HS4_, HS5_, HS6_⟩ (fun hHeld => ?_)
      clear hK K
      refine norm_ (a' := ?_) ?_ ?_
      rotate_left
      ·show Act.put _ (some 10) _ = _
       simp only [Act.put, List.setIfInBounds_toArray, List.set_cons_zero, List.set_cons_succ, i64_w, i32_w]
       rfl
      refine one_ (i := 16) (N := some 11) y9_38 rfl rfl (one_of HT_.out (by kernel_rfl)) (by decide) (fun K hK => ?_)
      refine box_step ?hg (N := 11) ?hd (cs := #[.int .i64 0, .int .i64 0]) (t := 46) ?hr ?_; (case hd => rfl); (case hg => rfl); (case hr => first | (go_simp; done) | (go_simp; rfl))
      intro gb329 hg w78 hbox hb
      have HS0_ := (hb.cell (World.block_lt_of_cell? _ _ (hHeld.1))).trans (hHeld.1)
      have HS1_ := (hb.cell (World.block_lt_of_cell? _ _ (hHeld.2.1))).trans (hHeld.2.1)
      have HS2_ := (hb.cell (World.block_lt_of_cell? _ _ (hHeld.2.2.1))).trans (hHeld.2.2.1)
      have HS3_ := (hb.cell (World.block_lt_of_cell? _ _ (hHeld.2.2.2.1))).trans (hHeld.2.2.2.1)
      have HS4_ := (hb.cell (World.block_lt_of_cell? _ _ (hHeld.2.2.2.2.1))).trans (hHeld.2.2.2.2.1)
      have HS5_ := (hb.cell (World.block_lt_of_cell? _ _ (hHeld.2.2.2.2.2.1))).trans (hHeld.2.2.2.2.2.1)
      have HS6_ := (hb.cell (World.block_lt_of_cell? _ _ (hHeld.2.2.2.2.2.2))).trans (hHeld.2.2.2.2.2.2)
      have n0_ := mk0 (Kd.S_below (Kd.S_elderB (pkS HO_3) gb329 (Nat.le_of_eq hg.symm)) hb)
      have n1_ := mk0 (Kd.V_below (Kd.V_elderB (pkV HO_4) gb329 (Nat.le_of_eq hg.symm)) hb)
      have n2_ := mk0 (Kd.V_below (Kd.V_elderB (pkV HO_304001) gb329 (Nat.le_of_eq hg.symm)) hb)
      have n3_ := mk0 (Kd.V_below (Kd.V_elderB (pkV HO311) gb329 (Nat.le_of_eq hg.symm)) hb)
      have n4_ := mk0 (Kd.V_below (Kd.V_elderB (pkV HO316) gb329 (Nat.le_of_eq hg.symm)) hb)
      have n5_ := mk0 (Kd.R_below (Kd.R_elderB (pkR HL323_0) gb329 (Nat.le_of_eq hg.symm)) hb)
      have n6_ := mk0 (Kd.R_below (Kd.R_elderB (pkR HL325_0) gb329 (Nat.le_of_eq hg.symm)) hb)
      have n7_ := mk0 (Kd.R_below (Kd.R_elderB (pkR HL326_0) gb329 (Nat.le_of_eq hg.symm)) hb)
      have n8_ := mk0 (blk_belowB BK303 (pkb BK303) hb)
      have n9_ := mk0 (Kd.C_below z9_36 hb)
      have n10_ := mk0 (pw_cell_below hb HX323_0.out)
      have n11_ := mk0 (Kd.C_below z9_37 hb)
      have n12_ := mk0 (pw_cell_below hb HX325_0.out)
      have n13_ := mk0 (Kd.C_below z9_41 hb)
      have n14_ := mk0 (pw_cell_below hb HX326_0.out)
      have n15_ := mk0 (blk_belowB BK328 (pkb BK328) hb)
      have n16_ := mk0 (below_step z9_46 hb)
      have n17_ := mk0 (hbox)
      have n18_ := mk0 (ge_go (a := w.heap.size) hg (below_size z9_46))
      have n19_ := mk0 (ge_go (a := w.heap.size) hg (below_size z9_46))
      have n20_ := mk0 (nb_lt hg (blk_ltB BK303 (pkb BK303)))
      have n21_ := mk0 (nb_gt hg (blk_ltB BK303 (pkb BK303)))
      have n22_ := mk0 (nb_lt hg (blk_ltB BK328 (pkb BK328)))
      have n23_ := mk0 (nb_gt hg (blk_ltB BK328 (pkb BK328)))
      clear HO_3 HO_4 HO_304001 HO311 HO316 HL323_0 HL325_0 HL326_0 BK303 HR323_0 HX323_0 HR325_0 HX325_0 HR326_0 HX326_0 BK328 HB; have HO_3 := n0_; have HO_4 := n1_; have HO_304001 := n2_; have HO311 := n3_; have HO316 := n4_; have HL323_0 := n5_; have HL325_0 := n6_; have HL326_0 := n7_; have BK303 := n8_; have HR323_0 := n9_; have HX323_0 := n10_; have HR325_0 := n11_; have HX325_0 := n12_; have HR326_0 := n13_; have HX326_0 := n14_; have BK328 := n15_; have HB := n16_; have BK329 := n17_; have GW329 := n18_; have GE329 := n19_; have NB303_329 := n20_; have NB329_303 := n21_; have NB328_329 := n22_; have NB329_328 := n23_; clear n0_ n1_ n2_ n3_ n4_ n5_ n6_ n7_ n8_ n9_ n10_ n11_ n12_ n13_ n14_ n15_ n16_ n17_ n18_ n19_ n20_ n21_ n22_ n23_ hb hbox hg
      refine hK.out _ _ ⟨HS0_, HS1_, HS2_, HS3_, HS4_, HS5_, HS6_⟩ (fun hHeld => ?_)
      clear hK K
      refine norm_ (a' := ?_) ?_ ?_
      rotate_left
      ·show Act.put _ (some 11) _ = _
       simp only [Act.put, List.setIfInBounds_toArray, List.set_cons_zero, List.set_cons_succ, i64_w, i32_w]
       rfl
      exact norm_ z9_63 (hCont (gb328, gb329) _ ⟨hHeld, z9_74, z9_75, z9_76, z9_67, z9_68, z9_80, z9_65, z9_71, HX323_0.out, HX325_0.out, HX326_0.out, (pkb BK303), (pkb BK328), (pkb BK329), GW328.out, GE328.out, NB303_328.out, NB328_303.out, NB329_328.out, NB328_329.out, GW329.out, GE329.out, NB303_329.out, NB329_303.out, z9_34⟩)
     skip
     refine box_step ?hg (N := 11) ?hd (cs := #[.int .i64 0, .int .i64 0]) (t := 46) ?hr ?_; (case hd => rfl); (case hg => rfl); (case hr => first | (go_simp; done) | (go_simp; rfl))
     intro gb329 hg w77 hbox hb
     have HS0_ := (hb.cell (World.block_lt_of_cell? _ _ (hHeld.1))).trans (hHeld.1)
     have HS1_ := (hb.cell (World.block_lt_of_cell? _ _ (hHeld.2.1))).trans (hHeld.2.1)
     have HS2_ := (hb.cell (World.block_lt_of_cell? _ _ (hHeld.2.2.1))).trans (hHeld.2.2.1)
     have HS3_ := (hb.cell (World.block_lt_of_cell? _ _ (hHeld.2.2.2.1))).trans (hHeld.2.2.2.1)
     have HS4_ := (hb.cell (World.block_lt_of_cell? _ _ (hHeld.2.2.2.2.1))).trans (hHeld.2.2.2.2.1)
     have HS5_ := (hb.cell (World.block_lt_of_cell? _ _ (hHeld.2.2.2.2.2.1))).trans (hHeld.2.2.2.2.2.1)
     have HS6_ := (hb.cell (World.block_lt_of_cell? _ _ (hHeld.2.2.2.2.2.2))).trans (hHeld.2.2.2.2.2.2)
     have n0_ := mk0 (Kd.S_below (Kd.S_elderB (pkS HO_3) gb329 (Nat.le_of_eq hg.symm)) hb)
     have n1_ := mk0 (Kd.V_below (Kd.V_elderB (pkV HO_4) gb329 (Nat.le_of_eq hg.symm)) hb)
     have n2_ := mk0 (Kd.V_below (Kd.V_elderB (pkV HO_304001) gb329 (Nat.le_of_eq hg.symm)) hb)
     have n3_ := mk0 (Kd.V_below (Kd.V_elderB (pkV HO311) gb329 (Nat.le_of_eq hg.symm)) hb)
     have n4_ := mk0 (Kd.V_below (Kd.V_elderB (pkV HO316) gb329 (Nat.le_of_eq hg.symm)) hb)
     have n5_ := mk0 (Kd.R_below (Kd.R_elderB (pkR HL323_0) gb329 (Nat.le_of_eq hg.symm)) hb)
     have n6_ := mk0 (Kd.R_below (Kd.R_elderB (pkR HL325_0) gb329 (Nat.le_of_eq hg.symm)) hb)
     have n7_ := mk0 (Kd.R_below (Kd.R_elderB (pkR HL326_0) gb329 (Nat.le_of_eq hg.symm)) hb)
     have n8_ := mk0 (blk_belowB BK303 (pkb BK303) hb)
     have n9_ := mk0 (Kd.C_below z9_36 hb)
     have n10_ := mk0 (pw_cell_below hb HX323_0.out)
     have n11_ := mk0 (Kd.C_below z9_37 hb)
     have n12_ := mk0 (pw_cell_below hb HX325_0.out)
     have n13_ := mk0 (Kd.C_below z9_41 hb)
     have n14_ := mk0 (pw_cell_below hb HX326_0.out)
     have n15_ := mk0 (below_step z9_35 hb)
     have n16_ := mk0 (hbox)
     have n17_ := mk0 (ge_go (a := w.heap.size) hg (below_size z9_35))
     have n18_ := mk0 (ge_go (a := w.heap.size) hg (below_size z9_35))
     have n19_ := mk0 (nb_lt hg (blk_ltB BK303 (pkb BK303)))
     have n20_ := mk0 (nb_gt hg (blk_ltB BK303 (pkb BK303)))
     clear HO_3 HO_4 HO_304001 HO311 HO316 HL323_0 HL325_0 HL326_0 BK303 HR323_0 HX323_0 HR325_0 HX325_0 HR326_0 HX326_0 HB; have HO_3 := n0_; have HO_4 := n1_; have HO_304001 := n2_; have HO311 := n3_; have HO316 := n4_; have HL323_0 := n5_; have HL325_0 := n6_; have HL326_0 := n7_; have BK303 := n8_; have HR323_0 := n9_; have HX323_0 := n10_; have HR325_0 := n11_; have HX325_0 := n12_; have HR326_0 := n13_; have HX326_0 := n14_; have HB := n15_; have BK329 := n16_; have GW329 := n17_; have GE329 := n18_; have NB303_329 := n19_; have NB329_303 := n20_; clear n0_ n1_ n2_ n3_ n4_ n5_ n6_ n7_ n8_ n9_ n10_ n11_ n12_ n13_ n14_ n15_ n16_ n17_ n18_ n19_ n20_ hb hbox hg
     refine hK.out _ _ ⟨HS0_, HS1_, HS2_, HS3_, HS4_, HS5_, HS6_⟩ (fun hHeld => ?_)
     clear hK K
     refine norm_ (a' := ?_) ?_ ?_
     rotate_left
     ·show Act.put _ (some 11) _ = _
      simp only [Act.put, List.setIfInBounds_toArray, List.set_cons_zero, List.set_cons_succ, i64_w, i32_w]
      rfl
     refine one_ (i := 15) (N := some 10) y9_38 rfl rfl (one_of HT_.out (by kernel_rfl)) (by decide) (fun K hK => ?_)
     refine box_step ?hg (N := 10) ?hd (cs := #[.int .i64 0, .int .i64 0]) (t := 46) ?hr ?_; (case hd => rfl); (case hg => rfl); (case hr => first | (go_simp; done) | (go_simp; rfl))
     intro gb328 hg w78 hbox hb
     have HS0_ := (hb.cell (World.block_lt_of_cell? _ _ (hHeld.1))).trans (hHeld.1)
     have HS1_ := (hb.cell (World.block_lt_of_cell? _ _ (hHeld.2.1))).trans (hHeld.2.1)
     have HS2_ := (hb.cell (World.block_lt_of_cell? _ _ (hHeld.2.2.1))).trans (hHeld.2.2.1)
     have HS3_ := (hb.cell (World.block_lt_of_cell? _ _ (hHeld.2.2.2.1))).trans (hHeld.2.2.2.1)
     have HS4_ := (hb.cell (World.block_lt_of_cell? _ _ (hHeld.2.2.2.2.1))).trans (hHeld.2.2.2.2.1)
     have HS5_ := (hb.cell (World.block_lt_of_cell? _ _ (hHeld.2.2.2.2.2.1))).trans (hHeld.2.2.2.2.2.1)
     have HS6_ := (hb.cell (World.block_lt_of_cell? _ _ (hHeld.2.2.2.2.2.2))).trans (hHeld.2.2.2.2.2.2)
     have n0_ := mk0 (Kd.S_below (Kd.S_elderB (pkS HO_3) gb328 (Nat.le_of_eq hg.symm)) hb)
     have n1_ := mk0 (Kd.V_below (Kd.V_elderB (pkV HO_4) gb328 (Nat.le_of_eq hg.symm)) hb)
     have n2_ := mk0 (Kd.V_below (Kd.V_elderB (pkV HO_304001) gb328 (Nat.le_of_eq hg.symm)) hb)
     have n3_ := mk0 (Kd.V_below (Kd.V_elderB (pkV HO311) gb328 (Nat.le_of_eq hg.symm)) hb)
     have n4_ := mk0 (Kd.V_below (Kd.V_elderB (pkV HO316) gb328 (Nat.le_of_eq hg.symm)) hb)
     have n5_ := mk0 (Kd.R_below (Kd.R_elderB (pkR HL323_0) gb328 (Nat.le_of_eq hg.symm)) hb)
     have n6_ := mk0 (Kd.R_below (Kd.R_elderB (pkR HL325_0) gb328 (Nat.le_of_eq hg.symm)) hb)
     have n7_ := mk0 (Kd.R_below (Kd.R_elderB (pkR HL326_0) gb328 (Nat.le_of_eq hg.symm)) hb)
     have n8_ := mk0 (blk_belowB BK303 (pkb BK303) hb)
     have n9_ := mk0 (Kd.C_below z9_36 hb)
     have n10_ := mk0 (pw_cell_below hb HX323_0.out)
     have n11_ := mk0 (Kd.C_below z9_37 hb)
     have n12_ := mk0 (pw_cell_below hb HX325_0.out)
     have n13_ := mk0 (Kd.C_below z9_41 hb)
     have n14_ := mk0 (pw_cell_below hb HX326_0.out)
     have n15_ := mk0 (blk_belowB BK329 (pkb BK329) hb)
     have n16_ := mk0 (below_step z9_47 hb)
     have n17_ := mk0 (hbox)
     have n18_ := mk0 (ge_go (a := w.heap.size) hg (below_size z9_47))
     have n19_ := mk0 (ge_go (a := w.heap.size) hg (below_size z9_47))
     have n20_ := mk0 (nb_lt hg (blk_ltB BK303 (pkb BK303)))
     have n21_ := mk0 (nb_gt hg (blk_ltB BK303 (pkb BK303)))
     have n22_ := mk0 (nb_lt hg (blk_ltB BK329 (pkb BK329)))
     have n23_ := mk0 (nb_gt hg (blk_ltB BK329 (pkb BK329)))
     clear HO_3 HO_4 HO_304001 HO311 HO316 HL323_0 HL325_0 HL326_0 BK303 HR323_0 HX323_0 HR325_0 HX325_0 HR326_0 HX326_0 BK329 HB; have HO_3 := n0_; have HO_4 := n1_; have HO_304001 := n2_; have HO311 := n3_; have HO316 := n4_; have HL323_0 := n5_; have HL325_0 := n6_; have HL326_0 := n7_; have BK303 := n8_; have HR323_0 := n9_; have HX323_0 := n10_; have HR325_0 := n11_; have HX325_0 := n12_; have HR326_0 := n13_; have HX326_0 := n14_; have BK329 := n15_; have HB := n16_; have BK328 := n17_; have GW328 := n18_; have GE328 := n19_; have NB303_328 := n20_; have NB328_303 := n21_; have NB329_328 := n22_; have NB328_329 := n23_; clear n0_ n1_ n2_ n3_ n4_ n5_ n6_ n7_ n8_ n9_ n10_ n11_ n12_ n13_ n14_ n15_ n16_ n17_ n18_ n19_ n20_ n21_ n22_ n23_ hb hbox hg
     refine hK.out _ _ ⟨HS0_, HS1_, HS2_, HS3_, HS4_, HS5_, HS6_⟩ (fun hHeld => ?_)
     clear hK K
     refine norm_ (a' := ?_) ?_ ?_
     rotate_left
     ·show Act.put _ (some 10) _ = _
      simp only [Act.put, List.setIfInBounds_toArray, List.set_cons_zero, List.set_cons_succ, i64_w, i32_w]
      rfl
     exact norm_ z9_63 (hCont (gb328, gb329) _ ⟨hHeld, z9_77, z9_78, z9_79, z9_69, z9_70, z9_81, z9_66, z9_72, HX323_0.out, HX325_0.out, HX326_0.out, (pkb BK303), (pkb BK328), (pkb BK329), GW328.out, GE328.out, NB303_328.out, NB328_303.out, NB329_328.out, NB328_329.out, GW329.out, GE329.out, NB303_329.out, NB329_303.out, z9_64⟩)
    rintro ⟨gb328, gb329⟩ w79 ⟨hS_, h0_, h1_, h2_, h3_, h4_, h5_, h6_, h7_, h8_, h9_, h10_, h11_, h12_, h13_, h14_, h15_, h16_, h17_, h18_, h19_, h20_, h21_, h22_, h23_, h24_⟩
    have n0_ : Aside0 (Kd.R k46 46 w79 w.heap.size (fun k_ => (w.heap.size ≤ k_) ∧ some k_ ≠ (.slice (some ad323) x3_1.length co75 : Value).ownBlock ∧ k_ ≠ gb328 ∧ k_ ≠ gb329) (.slice (some ad324) (rd_L3 x3_1 (ji25)).length c323_0) (rd_L3 x3_1 (ji25))) := ⟨h0_⟩
    have n1_ : Aside0 (Kd.R k46 46 w79 w.heap.size (fun k_ => (w.heap.size ≤ k_) ∧ some k_ ≠ (.slice (some ad323) x3_1.length co75 : Value).ownBlock ∧ k_ ≠ gb328 ∧ k_ ≠ gb329) (.slice (some ad324) (rd_L3 x3_1 (ji25)).length c323_0) (rd_L3 x3_1 (ji25))) := ⟨h1_⟩
    have n2_ : Aside0 (Kd.R k46 46 w79 w.heap.size (fun k_ => (w.heap.size ≤ k_) ∧ some k_ ≠ (.slice (some ad323) x3_1.length co75 : Value).ownBlock ∧ k_ ≠ gb328 ∧ k_ ≠ gb329) (.slice (some ad324) (rd_L3 x3_1 (ji25)).length c323_0) (rd_L3 x3_1 (ji25))) := ⟨h2_⟩
    have n3_ : Aside0 (Kd.V k46 46 w79 w.heap.size (fun k_ => ((P0_1_ k_) ∧ k_ < w.heap.size) ∧ some k_ ≠ (.slice (some ad323) x3_1.length co75 : Value).ownBlock ∧ k_ ≠ gb303 ∧ k_ ≠ gb328 ∧ k_ ≠ gb329) (.slice Ao73 y307.length co73) y307) := ⟨h3_⟩
    have n4_ : Aside0 (Kd.V k46 46 w79 w.heap.size (fun k_ => ((P0_1_ k_) ∧ k_ < w.heap.size) ∧ some k_ ≠ (.slice (some ad323) x3_1.length co75 : Value).ownBlock ∧ k_ ≠ gb303 ∧ k_ ≠ gb328 ∧ k_ ≠ gb329) (.slice A74 y312.length c74) y312) := ⟨h4_⟩
    have n5_ : Aside0 (Kd.S (Kd.slice 46 k46) 29 w79 w.heap.size (fun k_ => (w.heap.size ≤ k_) ∧ k_ ≠ gb328 ∧ k_ ≠ gb329) (.slice (some ad323) x3_1.length co75) x3_1) := ⟨h5_⟩
    have n6_ : Aside0 (Kd.V k46 46 w79 w.heap.size (fun k_ => ((P0_1_ k_) ∧ k_ < w.heap.size) ∧ some k_ ≠ (.slice (some ad323) x3_1.length co75 : Value).ownBlock ∧ k_ ≠ gb303 ∧ k_ ≠ gb328 ∧ k_ ≠ gb329) (.slice A0_1 l0_1.length c0_1) l0_1) := ⟨h6_⟩
    have n7_ : Aside0 (Kd.V k46 46 w79 w.heap.size (fun k_ => ((P0_1_ k_) ∧ k_ < w.heap.size) ∧ some k_ ≠ (.slice (some ad323) x3_1.length co75 : Value).ownBlock ∧ k_ ≠ gb303 ∧ k_ ≠ gb328 ∧ k_ ≠ gb329) (.slice Ao73 x4_1.length co73) x4_1) := ⟨h7_⟩
    have n8_ : Aside0 (w79.cell? (ad323.add ((ji25)).toNat) = some (.slice (some ad324) (rd_L3 x3_1 (ji25)).length c323_0)) := ⟨h8_⟩
    have n9_ : Aside0 (w79.cell? (ad323.add ((ji25)).toNat) = some (.slice (some ad324) (rd_L3 x3_1 (ji25)).length c323_0)) := ⟨h9_⟩
    have n10_ : Aside0 (w79.cell? (ad323.add ((ji25)).toNat) = some (.slice (some ad324) (rd_L3 x3_1 (ji25)).length c323_0)) := ⟨h10_⟩
    have n11_ : Aside0 (w79.heap[gb303]? = some (.cells #[.slice (some ad305) l0_0.length c0_0, .slice A0_1 l0_1.length c0_1] 31 (0, 0))) := ⟨h11_⟩
    have n12_ : Aside0 (w79.heap[gb328]? = some (.cells #[.int .i64 0, .int .i64 0] 46 (0, 0))) := ⟨h12_⟩
    have n13_ : Aside0 (w79.heap[gb329]? = some (.cells #[.int .i64 0, .int .i64 0] 46 (0, 0))) := ⟨h13_⟩
    have n14_ : Aside0 (w.heap.size ≤ gb328) := ⟨h14_⟩
    have n15_ : Aside0 (w.heap.size ≤ gb328) := ⟨h15_⟩
    have n16_ : Aside0 (gb303 ≠ gb328) := ⟨h16_⟩
    have n17_ : Aside0 (gb328 ≠ gb303) := ⟨h17_⟩
    have n18_ : Aside0 (gb329 ≠ gb328) := ⟨h18_⟩
    have n19_ : Aside0 (gb328 ≠ gb329) := ⟨h19_⟩
    have n20_ : Aside0 (w.heap.size ≤ gb329) := ⟨h20_⟩
    have n21_ : Aside0 (w.heap.size ≤ gb329) := ⟨h21_⟩
    have n22_ : Aside0 (gb303 ≠ gb329) := ⟨h22_⟩
    have n23_ : Aside0 (gb329 ≠ gb303) := ⟨h23_⟩
    have n24_ : Aside0 (Below w.heap.size w w79) := ⟨h24_⟩
    clear HO_3 HO_4 HO_304001 HO311 HO316 BK303 HB h0_ h1_ h2_ h3_ h4_ h5_ h6_ h7_ h8_ h9_ h10_ h11_ h12_ h13_ h14_ h15_ h16_ h17_ h18_ h19_ h20_ h21_ h22_ h23_ h24_; have HL323_0 := n0_; have HL325_0 := n1_; have HL326_0 := n2_; have HO311 := n3_; have HO316 := n4_; have HO_3 := n5_; have HO_304001 := n6_; have HO_4 := n7_; have HX323_0 := n8_; have HX325_0 := n9_; have HX326_0 := n10_; have BK303 := n11_; have BK328 := n12_; have BK329 := n13_; have GW328 := n14_; have GE328 := n15_; have NB303_328 := n16_; have NB328_303 := n17_; have NB329_328 := n18_; have NB328_329 := n19_; have GW329 := n20_; have GE329 := n21_; have NB303_329 := n22_; have NB329_303 := n23_; have HB := n24_; clear n0_ n1_ n2_ n3_ n4_ n5_ n6_ n7_ n8_ n9_ n10_ n11_ n12_ n13_ n14_ n15_ n16_ n17_ n18_ n19_ n20_ n21_ n22_ n23_ n24_
    have hHeld : w79.cell? (ad323.add ((ji25)).toNat) = some (.slice (some ad324) (rd_L3 x3_1 (ji25)).length c323_0) ∧ w79.cell? ad324 = some (.int .i64 ((rd_T46 (rd_L3 x3_1 (ji25)) 0).f0)) ∧ w79.cell? ⟨ad324.block, ad324.off + 1, none⟩ = some (.int .i64 ((rd_T46 (rd_L3 x3_1 (ji25)) 0).f1)) ∧ w79.cell? (ad323.add ((ji25)).toNat) = some (.slice (some ad324) (rd_L3 x3_1 (ji25)).length c323_0) ∧ w79.cell? (ad323.add ((ji25)).toNat) = some (.slice (some ad324) (rd_L3 x3_1 (ji25)).length c323_0) ∧ w79.cell? (ad324.add (((ji29)).toNat * 2)) = some (.int .i64 ((rd_T46 (rd_L3 x3_1 (ji25)) (ji29)).f0)) ∧ w79.cell? ⟨(ad324.add (((ji29)).toNat * 2)).block, (ad324.add (((ji29)).toNat * 2)).off + 1, none⟩ = some (.int .i64 ((rd_T46 (rd_L3 x3_1 (ji25)) (ji29)).f1)) := hS_
    refine norm_ (a' := ?_) ?_ ?_
    rotate_left
    ·simp only [putAll, Act.put, List.setIfInBounds_toArray, List.set_cons_zero, List.set_cons_succ]
     rfl
    refine one_ (i := 17) (N := none) y9_39 rfl rfl (one_of HT_.out (by kernel_rfl)) (by decide) (fun K hK => ?_)
    have hs80 : w79.cell? ⟨gb328, 0, none⟩ = some (.int .i64 0) := (blk_cell BK328.out 0).trans rfl
    have hfs80 := blk_frozen BK328.out 0
    have hns80_0 := NB303_328.out; have hns80_2 := NB329_328.out; have hms80_0 := NB328_303.out; have hms80_2 := NB328_329.out
    have hs81 : w79.cell? ⟨gb328, 1, none⟩ = some (.int .i64 0) := (blk_cell BK328.out 1).trans rfl
    have hfs81 := blk_frozen BK328.out 1
    have hns81_0 := NB303_328.out; have hns81_2 := NB329_328.out; have hms81_0 := NB328_303.out; have hms81_2 := NB328_329.out
    refine skip_ (w1 := ?_) ?hwx ?hN ?_ ?_; (case hwx => rfl); (case hN => rfl)
    rotate_left
    ·go_simp
     rfl
    refine hK.out _ _ ⟨(by refine (cell_far (p := ⟨gb328, _, none⟩) ?_ _).trans ((cell_far (p := ⟨gb328, _, none⟩) ?_ _).trans (hHeld.1)) <;> ((try dsimp only); exact z9_39)), (by refine (cell_far (p := ⟨gb328, _, none⟩) ?_ _).trans ((cell_far (p := ⟨gb328, _, none⟩) ?_ _).trans (hHeld.2.1)) <;> ((try dsimp only); exact z9_42)), (by refine (cell_far (p := ⟨gb328, _, none⟩) ?_ _).trans ((cell_far (p := ⟨gb328, _, none⟩) ?_ _).trans (hHeld.2.2.1)) <;> ((try dsimp only); exact z9_42)), (by refine (cell_far (p := ⟨gb328, _, none⟩) ?_ _).trans ((cell_far (p := ⟨gb328, _, none⟩) ?_ _).trans (hHeld.2.2.2.1)) <;> ((try dsimp only); exact z9_39)), (by refine (cell_far (p := ⟨gb328, _, none⟩) ?_ _).trans ((cell_far (p := ⟨gb328, _, none⟩) ?_ _).trans (hHeld.2.2.2.2.1)) <;> ((try dsimp only); exact z9_39)), (by refine (cell_far (p := ⟨gb328, _, none⟩) ?_ _).trans ((cell_far (p := ⟨gb328, _, none⟩) ?_ _).trans (hHeld.2.2.2.2.2.1)) <;> ((try dsimp only); exact z9_43)), (by refine (cell_far (p := ⟨gb328, _, none⟩) ?_ _).trans ((cell_far (p := ⟨gb328, _, none⟩) ?_ _).trans (hHeld.2.2.2.2.2.2)) <;> ((try dsimp only); exact z9_43))⟩ (fun hHeld => ?_)
    clear hK K
    refine one_ (i := 18) (N := none) y9_40 rfl rfl (one_of HT_.out (by kernel_rfl)) (by decide) (fun K hK => ?_)
    have hs82 : w79.cell? ⟨gb329, 0, none⟩ = some (.int .i64 0) := (blk_cell BK329.out 0).trans rfl
    have hfs82 := blk_frozen BK329.out 0
    have hns82_0 := NB303_329.out; have hns82_1 := NB328_329.out; have hms82_0 := NB329_303.out; have hms82_1 := NB329_328.out
    have hs83 : w79.cell? ⟨gb329, 1, none⟩ = some (.int .i64 0) := (blk_cell BK329.out 1).trans rfl
    have hfs83 := blk_frozen BK329.out 1
    have hns83_0 := NB303_329.out; have hns83_1 := NB328_329.out; have hms83_0 := NB329_303.out; have hms83_1 := NB329_328.out
    refine skip_ (w1 := ?_) ?hwx ?hN ?_ ?_; (case hwx => rfl); (case hN => rfl)
    rotate_left
    ·go_simp
     rfl
    refine hK.out _ _ ⟨(by refine (cell_far (p := ⟨gb329, _, none⟩) ?_ _).trans ((cell_far (p := ⟨gb329, _, none⟩) ?_ _).trans (hHeld.1)) <;> ((try dsimp only); exact z9_40)), (by refine (cell_far (p := ⟨gb329, _, none⟩) ?_ _).trans ((cell_far (p := ⟨gb329, _, none⟩) ?_ _).trans (hHeld.2.1)) <;> ((try dsimp only); exact z9_44)), (by refine (cell_far (p := ⟨gb329, _, none⟩) ?_ _).trans ((cell_far (p := ⟨gb329, _, none⟩) ?_ _).trans (hHeld.2.2.1)) <;> ((try dsimp only); exact z9_44)), (by refine (cell_far (p := ⟨gb329, _, none⟩) ?_ _).trans ((cell_far (p := ⟨gb329, _, none⟩) ?_ _).trans (hHeld.2.2.2.1)) <;> ((try dsimp only); exact z9_40)), (by refine (cell_far (p := ⟨gb329, _, none⟩) ?_ _).trans ((cell_far (p := ⟨gb329, _, none⟩) ?_ _).trans (hHeld.2.2.2.2.1)) <;> ((try dsimp only); exact z9_40)), (by refine (cell_far (p := ⟨gb329, _, none⟩) ?_ _).trans ((cell_far (p := ⟨gb329, _, none⟩) ?_ _).trans (hHeld.2.2.2.2.2.1)) <;> ((try dsimp only); exact z9_45)), (by refine (cell_far (p := ⟨gb329, _, none⟩) ?_ _).trans ((cell_far (p := ⟨gb329, _, none⟩) ?_ _).trans (hHeld.2.2.2.2.2.2)) <;> ((try dsimp only); exact z9_45))⟩ (fun hHeld => ?_)
    clear hK K
    refine done_ (done_of HT_.out (by kernel_rfl)) ?_
    have hnb84 := NB328_303.out; have hnc84 := NB303_328.out; have hnb85 := NB328_329.out; have hnc85 := NB329_328.out
    obtain ⟨_, _, _, _⟩ := be_2 BK328.out
    have hnb87 := NB329_303.out; have hnc87 := NB303_329.out
    obtain ⟨_, _, _, _⟩ := be_2 BK329.out
    try go_wp2
    obtain ⟨w89, hw_⟩ : ∃ w_ : World, w_ = ((((w79.setCell ⟨gb328, 0, none⟩ (.int .i64 ((rd_T46 (rd_L3 x3_1 (ji25)) 0).f0))).setCell ⟨gb328, 1, none⟩ (.int .i64 ((rd_T46 (rd_L3 x3_1 (ji25)) 0).f1))).setCell ⟨gb329, 0, none⟩ (.int .i64 ((rd_T46 (rd_L3 x3_1 (ji25)) (ji29)).f0))).setCell ⟨gb329, 1, none⟩ (.int .i64 ((rd_T46 (rd_L3 x3_1 (ji25)) (ji29)).f1))) := ⟨_, rfl⟩
    have n0_ : Aside0 (Kd.S (Kd.slice 46 k46) 29 w89 w.heap.size (fun k_ => (w.heap.size ≤ k_) ∧ k_ ≠ gb328 ∧ k_ ≠ gb329) (.slice (some ad323) x3_1.length co75) x3_1) := ⟨z9_57⟩
    have n1_ : Aside0 (Kd.V k46 46 w89 w.heap.size (fun k_ => ((P0_1_ k_) ∧ k_ < w.heap.size) ∧ some k_ ≠ (.slice (some ad323) x3_1.length co75 : Value).ownBlock ∧ k_ ≠ gb303 ∧ k_ ≠ gb328 ∧ k_ ≠ gb329) (.slice Ao73 x4_1.length co73) x4_1) := ⟨z9_53⟩
    have n2_ : Aside0 (Kd.V k46 46 w89 w.heap.size (fun k_ => ((P0_1_ k_) ∧ k_ < w.heap.size) ∧ some k_ ≠ (.slice (some ad323) x3_1.length co75 : Value).ownBlock ∧ k_ ≠ gb303 ∧ k_ ≠ gb328 ∧ k_ ≠ gb329) (.slice A0_1 l0_1.length c0_1) l0_1) := ⟨z9_49⟩
    have n3_ : Aside0 (Kd.V k46 46 w89 w.heap.size (fun k_ => ((P0_1_ k_) ∧ k_ < w.heap.size) ∧ some k_ ≠ (.slice (some ad323) x3_1.length co75 : Value).ownBlock ∧ k_ ≠ gb303 ∧ k_ ≠ gb328 ∧ k_ ≠ gb329) (.slice Ao73 y307.length co73) y307) := ⟨z9_51⟩
    have n4_ : Aside0 (Kd.V k46 46 w89 w.heap.size (fun k_ => ((P0_1_ k_) ∧ k_ < w.heap.size) ∧ some k_ ≠ (.slice (some ad323) x3_1.length co75 : Value).ownBlock ∧ k_ ≠ gb303 ∧ k_ ≠ gb328 ∧ k_ ≠ gb329) (.slice A74 y312.length c74) y312) := ⟨z9_52⟩
    have n5_ : Aside0 (Kd.R k46 46 w89 w.heap.size (fun k_ => (w.heap.size ≤ k_) ∧ some k_ ≠ (.slice (some ad323) x3_1.length co75 : Value).ownBlock ∧ k_ ≠ gb328 ∧ k_ ≠ gb329) (.slice (some ad324) (rd_L3 x3_1 (ji25)).length c323_0) (rd_L3 x3_1 (ji25))) := ⟨z9_54⟩
    have n6_ : Aside0 (Kd.R k46 46 w89 w.heap.size (fun k_ => (w.heap.size ≤ k_) ∧ some k_ ≠ (.slice (some ad323) x3_1.length co75 : Value).ownBlock ∧ k_ ≠ gb328 ∧ k_ ≠ gb329) (.slice (some ad324) (rd_L3 x3_1 (ji25)).length c323_0) (rd_L3 x3_1 (ji25))) := ⟨z9_55⟩
    have n7_ : Aside0 (Kd.R k46 46 w89 w.heap.size (fun k_ => (w.heap.size ≤ k_) ∧ some k_ ≠ (.slice (some ad323) x3_1.length co75 : Value).ownBlock ∧ k_ ≠ gb328 ∧ k_ ≠ gb329) (.slice (some ad324) (rd_L3 x3_1 (ji25)).length c323_0) (rd_L3 x3_1 (ji25))) := ⟨z9_56⟩
    have n8_ : Aside0 (w89.heap[gb303]? = some (.cells #[.slice (some ad305) l0_0.length c0_0, .slice A0_1 l0_1.length c0_1] 31 (0, 0))) := ⟨z9_58⟩
    have n9_ : Aside0 (w89.heap[gb328]? = some (.cells #[.int .i64 ((rd_T46 (rd_L3 x3_1 (ji25)) 0).f0), .int .i64 ((rd_T46 (rd_L3 x3_1 (ji25)) 0).f1)] 46 (0, 0))) := ⟨z9_50⟩
    have n10_ : Aside0 (w89.heap[gb329]? = some (.cells #[.int .i64 ((rd_T46 (rd_L3 x3_1 (ji25)) (ji29)).f0), .int .i64 ((rd_T46 (rd_L3 x3_1 (ji25)) (ji29)).f1)] 46 (0, 0))) := ⟨z9_48⟩
    have n11_ : Aside0 (Below w.heap.size w w89) := ⟨(by rw [hw_]; exact z9_34)⟩
    (try clear HO_3); (try clear HO_4); (try clear HO_304001); (try clear HO311); (try clear HO316); (try clear HL323_0); (try clear HL325_0); (try clear HL326_0); (try clear BK303); (try clear BK328); (try clear BK329); (try clear HB)
    rw [← hw_]; clear hw_; have HO_3 := n0_; have HO_4 := n1_; have HO_304001 := n2_; have HO311 := n3_; have HO316 := n4_; have HL323_0 := n5_; have HL325_0 := n6_; have HL326_0 := n7_; have BK303 := n8_; have BK328 := n9_; have BK329 := n10_; have HB := n11_; clear n0_ n1_ n2_ n3_ n4_ n5_ n6_ n7_ n8_ n9_ n10_ n11_
    have n0_ := mk0 (Kd.S_drew HO_3.out)
    have n1_ := mk0 (Kd.V_drew HO_4.out)
    have n2_ := mk0 (Kd.V_drew HO_304001.out)
    have n3_ := mk0 (Kd.V_drew HO311.out)
    have n4_ := mk0 (Kd.V_drew HO316.out)
    have n5_ := mk0 (Kd.R_drew HL323_0.out)
    have n6_ := mk0 (Kd.R_drew HL325_0.out)
    have n7_ := mk0 (Kd.R_drew HL326_0.out)
    have n8_ := mk0 (blk_drew BK303.out)
    have n9_ := mk0 (blk_drew BK328.out)
    have n10_ := mk0 (blk_drew BK329.out)
    have n11_ := mk0 (below_drew1 HB.out)
    clear HO_3 HO_4 HO_304001 HO311 HO316 HL323_0 HL325_0 HL326_0 BK303 BK328 BK329 HB; have HO_3 := n0_; have HO_4 := n1_; have HO_304001 := n2_; have HO311 := n3_; have HO316 := n4_; have HL323_0 := n5_; have HL325_0 := n6_; have HL326_0 := n7_; have BK303 := n8_; have BK328 := n9_; have BK329 := n10_; have HB := n11_; clear n0_ n1_ n2_ n3_ n4_ n5_ n6_ n7_ n8_ n9_ n10_ n11_
    have p343 : 0 ≤ ((ji25) : Int) := of_decide_eq_true (by first | (with_reducible assumption) | assumption)
    have q343 : (ji25) < (x3_1.length : Int) := of_decide_eq_true (by first | (with_reducible assumption) | assumption)
    obtain ⟨ad343, A343_0, c343_0, e343, hx343_0, hl343_0, hi343_0⟩ := at_L3 (Kd.S_reads' HO_3.out).2.2 (ji25) p343 q343
    obtain rfl : ad323 = ad343 := (by injection e343)
    obtain ⟨ce343, hce343, hMe343, hcc343⟩ := Kd.S_get HO_3.out [] (ji25) p343 (by first | exact q343 | exact of_decide_eq_true (by first | (with_reducible assumption) | assumption) | (have e_ := (Kd.S_reads' HO_3.out).1; omega))
    obtain ⟨ve343_0, rfl, ge343_0⟩ := hMe343
    have hv343_0 := hcc343 0 _ rfl
    rw [Nat.add_zero, show ((Kd.slice 46 k46)).sz = 1 from rfl, Nat.mul_one] at hv343_0
    replace hv343_0 := Option.some.inj (hv343_0.symm.trans hx343_0)
    rw [hv343_0] at ge343_0
    have HL343_0 := mk0 (show Kd.R k46 46 _ _ _ _ (rd_L3 x3_1 (ji25)) from ge343_0)
    clear hv343_0 ge343_0
    have HX343_0 := mk0 hx343_0
    clear hcc343 hce343
    have HR343_0 := mk0 hi343_0
    have HC343_0 := mk0 hl343_0
    clear hi343_0 hl343_0
    replace p343 := eq_true p343
    replace q343 := eq_true q343
    refine start_ (n := 11) (S := fun w' => w'.cell? ⟨gb329, 0, none⟩ = some (.int .i64 ((rd_T46 (rd_L3 x3_1 (ji25)) (ji29)).f0)) ∧ w'.cell? ⟨gb329, 1, none⟩ = some (.int .i64 ((rd_T46 (rd_L3 x3_1 (ji25)) (ji29)).f1)) ∧ w'.cell? (ad323.add ((ji25)).toNat) = some (.slice A343_0 (rd_L3 x3_1 (ji25)).length c343_0)) (ds := [10]) y9_1 (by kernel_rfl) rfl rfl ⟨(blk_cell BK329.out 0).trans rfl, (blk_cell BK329.out 1).trans rfl, hx343_0⟩ (fun hHeld => ?_); refine with_tabW impl_FlatOf.tab17 impl_FlatOf.bits17 (fun HT_ HW_ => ?_)
    generalize w89.drew = w90 at HO_3 HO_4 HO_304001 HO311 HO316 HL323_0 HL325_0 HL326_0 BK303 BK328 BK329 HB HL343_0 HR343_0 HX343_0 hx343_0 hHeld ⊢
    refine pzv (i := 0) (N := 76) (v := ?_) (a' := ?_) y9_4 HT_ ?_ ?_ ?_
    rotate_left
    ·intro w'
     go_simp; with_reducible rfl
    rotate_left
    ·exact x9_put
    refine pzv (i := 1) (N := 77) (v := ?_) (a' := ?_) y9_7 HT_ ?_ ?_ ?_
    rotate_left
    ·intro w'
     go_simp; with_reducible rfl
    rotate_left
    ·exact x9_put
    refine pzv (i := 2) (N := 78) (v := ?_) (a' := ?_) y9_13 HT_ ?_ ?_ ?_
    rotate_left
    ·intro w'
     go_simp; with_reducible rfl
    rotate_left
    ·exact x9_put
    refine pzv (i := 4) (N := 80) (v := ?_) (a' := ?_) y9_16 HT_ ?_ ?_ ?_
    rotate_left
    ·intro w'
     go_simp; with_reducible rfl
    rotate_left
    ·exact x9_put
    refine pzv (i := 6) (N := 82) (v := ?_) (a' := ?_) y9_17 HT_ ?_ ?_ ?_
    rotate_left
    ·intro w'
     go_simp; with_reducible rfl
    rotate_left
    ·exact x9_put
    refine take_ (i := 3) (N := some 79) (v := ?_) (a' := ?_) y9_21 rfl rfl (take_ofW HT_.out HW_.out (by kernel_rfl)) (fun _ _ _ h => h) (Or.inl ⟨by rfl, ?_⟩) hHeld ?_ ?_
    rotate_left
    ·rintro w' ⟨s0, s1, s2⟩
     go_simp; with_reducible rfl
    rotate_left
    ·exact x9_put
    refine take_ (i := 5) (N := some 81) (v := ?_) (a' := ?_) y9_23 rfl rfl (take_ofW HT_.out HW_.out (by kernel_rfl)) (fun _ _ _ h => h) (Or.inl ⟨by rfl, ?_⟩) hHeld ?_ ?_
    rotate_left
    ·rintro w' ⟨s0, s1, s2⟩
     go_simp; with_reducible rfl
    rotate_left
    ·exact x9_put
    refine one_ (i := 7) (N := some 83) y9_26 rfl rfl (one_of HT_.out (by kernel_rfl)) (by decide) (fun K hK => ?_)
    refine goes_ Try.func29 (by kernel_rfl) rfl #[.int .i64 (rd l0_0 x20_1), .agg #[.int .i64 ((rd_T46 (rd_L3 x3_1 (ji25)) (ji29)).f0), .int .i64 ((rd_T46 (rd_L3 x3_1 (ji25)) (ji29)).f1)], .slice Ao73 y307.length co73] (by rfl) rfl rfl z9_73 ?_
    with_reducible refine (impl_flatten.calls k1 (rd l0_0 x20_1) ((rd_T46 (rd_L3 x3_1 (ji25)) (ji29)).f0) ((rd_T46 (rd_L3 x3_1 (ji25)) (ji29)).f1) _ _ y307 t344 _ ?side1 ?side2 A70.out).mono ?_
    (case side1 => exact z9_61)
    (case side2 => exact (Kd.V_reads' HO311.out).2.1)
    rintro e w91 ⟨v345, rfl, ho0, hb⟩
    have HS2_ := (hb.cell (World.block_lt_of_cell? _ _ (hHeld.2.2))).trans (hHeld.2.2)
    refine ⟨_, rfl, ?_⟩
    have n0_ := mk0 (Kd.S_elder' (pkS HO_3) (Kd.R_base ho0) hb)
    have n1_ := mk0 (Kd.V_elder' (pkV HO_4) (Kd.R_base ho0) hb)
    have n2_ := mk0 (Kd.V_elder' (pkV HO_304001) (Kd.R_base ho0) hb)
    have n3_ := mk0 (Kd.V_elder' (pkV HO311) (Kd.R_base ho0) hb)
    have n4_ := mk0 (Kd.V_elder' (pkV HO316) (Kd.R_base ho0) hb)
    have n5_ := mk0 (Kd.R_elder' (pkR HL323_0) (Kd.R_base ho0) hb)
    have n6_ := mk0 (Kd.R_elder' (pkR HL325_0) (Kd.R_base ho0) hb)
    have n7_ := mk0 (Kd.R_elder' (pkR HL326_0) (Kd.R_base ho0) hb)
    have n8_ := mk0 (Kd.R_elder' (pkR HL343_0) (Kd.R_base ho0) hb)
    have n9_ := mk0 (Kd.R_lower (Kd.R_newB (Kd.R_newB (Kd.R_new' (Kd.R_new' (Kd.R_new' (Kd.R_new' (Kd.R_newM (M := fun k_ => (w.heap.size ≤ k_)) ho0 (below_size z9_34) (fun k_ h_ => h_)) (Kd.R_lt (pkR HL323_0))) (Kd.R_lt (pkR HL325_0))) (Kd.R_lt (pkR HL326_0))) (Kd.R_lt (pkR HL343_0))) (g := gb328) (o := .cells #[.int .i64 ((rd_T46 (rd_L3 x3_1 (ji25)) 0).f0), .int .i64 ((rd_T46 (rd_L3 x3_1 (ji25)) 0).f1)] 46 (0, 0)) (pkb BK328)) (g := gb329) (o := .cells #[.int .i64 ((rd_T46 (rd_L3 x3_1 (ji25)) (ji29)).f0), .int .i64 ((rd_T46 (rd_L3 x3_1 (ji25)) (ji29)).f1)] 46 (0, 0)) (pkb BK329)) (below_size z9_34))
    have n10_ := mk0 (blk_belowB BK303 (pkb BK303) hb)
    have n11_ := mk0 (blk_belowB BK328 (pkb BK328) hb)
    have n12_ := mk0 (blk_belowB BK329 (pkb BK329) hb)
    have n13_ := mk0 (Kd.C_below (by repeat (first | (with_reducible exact HR343_0.out) | (with_reducible refine Kd.C_alloc ?_ _) | (with_reducible refine Kd.C_drewN ?_ _) | (with_reducible refine Kd.C_drew ?_) | exact HR343_0.out)) hb)
    have n14_ := mk0 (pw_cell_below hb HX343_0.out)
    have n15_ := mk0 (below_step z9_34 hb)
    clear HO_3 HO_4 HO_304001 HO311 HO316 HL323_0 HL325_0 HL326_0 HL343_0 BK303 BK328 BK329 HR343_0 HX343_0 HB; have HO_3 := n0_; have HO_4 := n1_; have HO_304001 := n2_; have HO311 := n3_; have HO316 := n4_; have HL323_0 := n5_; have HL325_0 := n6_; have HL326_0 := n7_; have HL343_0 := n8_; have HO346 := n9_; have BK303 := n10_; have BK328 := n11_; have BK329 := n12_; have HR343_0 := n13_; have HX343_0 := n14_; have HB := n15_; clear n0_ n1_ n2_ n3_ n4_ n5_ n6_ n7_ n8_ n9_ n10_ n11_ n12_ n13_ n14_ n15_; (try clear hb); (try clear hb2); (try clear hk); (try clear hi); (try clear ho0)
    have n_ := mk0 (Kd.S_mono (ok' := (fun k_ => (w.heap.size ≤ k_) ∧ some k_ ≠ (v345 : Value).ownBlock ∧ k_ ≠ gb328 ∧ k_ ≠ gb329)) HO_3.out (fun k_ hk => ⟨hk.1.1, ⟨hk.2, ⟨hk.1.2.1, hk.1.2.2⟩⟩⟩))
    clear HO_3; have HO_3 := n_; clear n_
    obtain ⟨Ao94, co94, eo94⟩ := Kd.R_slice HO346.out
    (first | subst eo94 | (injection eo94 with f1_ f2_ f3_; have f4_ := f1_.symm; have f5_ := f3_.symm; clear f1_ f2_ f3_; subst f4_; subst f5_))
    obtain ⟨go92, co92, eo92, gb92, gl92, cl92, HG92⟩ := Kd.S_form HO_3.out (by have h_ : ((ji25) : Int) < ((x3_1.length : Int) : Int) := of_decide_eq_true (by first | (with_reducible assumption) | assumption); have h2_ : 0 ≤ ((ji25) : Int) := (of_decide_eq_true (by first | (with_reducible assumption) | assumption)); omega)
    (first | cases eo92 | (injection eo92 with ea_ en_ ec_; (first | subst ea_ | (injection ea_ with ea_; subst ea_)); subst ec_; clear en_))
    have GB92 := mk0 gb92
    have GG92 := mk0 HG92
    clear gb92 gl92 HG92
    (first | simp only [add_plain] at hx323_0 | skip)
    (first | simp only [add_plain] at hx325_0 | skip)
    (first | simp only [add_plain] at hx326_0 | skip)
    (first | simp only [add_plain] at hx343_0 | skip)
    obtain ⟨oki92, ce92, hcl92, hM92, hcc92, _, _, hH92⟩ := Kd.S_elem HO_3.out [] ((ji25) : Int) (of_decide_eq_true (by first | (with_reducible assumption) | assumption)) (by have h_ : ((ji25) : Int) < ((x3_1.length : Int) : Int) := of_decide_eq_true (by first | (with_reducible assumption) | assumption); first | exact h_ | (have e_ := (Kd.S_reads' HO_3.out).1; omega) | simpa using h_)
    obtain ⟨ve92_0, rfl, ge92_0⟩ := hM92
    have hv92 := hcc92 0 _ rfl
    have hX92 := HX343_0.out
    (try simp only [add_plain] at hX92)
    (try simp only [Nat.add_zero] at hv92)
    (try rw [show ((Kd.slice 46 k46)).sz = 1 from rfl, Nat.mul_one] at hv92)
    replace hv92 := Option.some.inj (hv92.symm.trans hX92)
    subst hv92; clear hX92 hcc92 hcl92
    have UU92 := mk0 (show Kd.R k46 46 _ w.heap.size oki92 (.slice A343_0 (rd_L3 x3_1 (ji25)).length c343_0) (rd_L3 x3_1 (ji25)) from ge92_0)
    have HH92 := mk0 hH92
    have HN92 := mk0 (Kd.S_reads' HO_3.out).1
    clear hH92 ge92_0
    refine hK.out _ _ ⟨(blk_cell BK329.out 0).trans rfl, (blk_cell BK329.out 1).trans rfl, HS2_⟩ (fun hHeld => ?_)
    clear hK K
    refine norm_ (a' := ?_) ?_ ?_
    rotate_left
    ·show Act.put _ (some 83) _ = _
     simp only [Act.put, List.setIfInBounds_toArray, List.set_cons_zero, List.set_cons_succ, i64_w, i32_w]
     rfl
    refine one_ (i := 8) (N := some 84) y9_28 rfl rfl (one_of HT_.out (by kernel_rfl)) (by decide) (fun K hK => ?_)
    refine Kd.R_append_rows_step k46 (w0 := w) w.heap.size (by rfl) (.tmp 79) (.tmp 83) 29 46 (.agg #[(.int .i64 0), (.int .i64 0)]) 16 rfl Try.underlying29 info46 rfl (by decide) (by omega) (.slice A343_0 (rd_L3 x3_1 (ji25)).length c343_0) (rd_L3 x3_1 (ji25)) t344 _ _ _ (fun k_ => oki92 k_ ∨ ((fun k_ => (w.heap.size ≤ k_) ∧ some k_ ≠ (.slice Ao94 t344.length co94 : Value).ownBlock ∧ k_ ≠ gb328 ∧ k_ ≠ gb329)) k_ ∧ w91.heap.size ≤ k_) (fun _ => False) rfl rfl ?aO ?aR (fun _ _ h => h) (fun _ h => h.elim) ?aF ?aB ?aS ?aL ?_
    (case aR => repeat (first | exact (Kd.R_reads' HO346.out).2.2 | (with_reducible refine Kd.C_alloc ?_ _) | (with_reducible refine Kd.C_drewN ?_ _) | (with_reducible refine Kd.C_drew ?_)))
    (case aB => exact z9_34)
    (case aF => exact (fun k_ hk => .inr ⟨⟨(Nat.le_trans (below_size z9_34) hk), Kd.fresh' (Kd.R_lt (pkR HO346)) k_ hk, Kd.freshB (g := gb328) (o := .cells #[.int .i64 ((rd_T46 (rd_L3 x3_1 (ji25)) 0).f0), .int .i64 ((rd_T46 (rd_L3 x3_1 (ji25)) 0).f1)] 46 (0, 0)) (pkb BK328) k_ hk, Kd.freshB (g := gb329) (o := .cells #[.int .i64 ((rd_T46 (rd_L3 x3_1 (ji25)) (ji29)).f0), .int .i64 ((rd_T46 (rd_L3 x3_1 (ji25)) (ji29)).f1)] 46 (0, 0)) (pkb BK329) k_ hk⟩, hk⟩))
    (case aO => exact (by (with_reducible repeat (first | apply Kd.R_alloc | apply Kd.R_drewN | apply Kd.R_drew)); exact Kd.R_mono UU92.out (fun _ hk => .inl hk)))
    (case aS => exact (below_size z9_34))
    (case aL => have := LMc71.out; omega)
    intro v348 w93 ho hb hg hat
    (first | have HS2_ := cell_grown hg (hHeld.2.2) z9_91 | have HS2_ := cell_grown hg (cell_unalloc (hHeld.2.2) z9_62) z9_91)
    rw [← Ny347.out] at ho
    have n0_ := mk0 (Kd.V_grown (pkV HO_4) hg z9_88)
    have n1_ := mk0 (Kd.V_grown (pkV HO_304001) hg z9_88)
    have n2_ := mk0 (blk_grown (g := gb303) (o := .cells #[.slice (some ad305) l0_0.length c0_0, .slice A0_1 l0_1.length c0_1] 31 (0, 0)) (pkb BK303) hg (Kd.R_ne HL343_0.out BK303.out (by decide)))
    have n3_ := mk0 (Kd.V_grown (pkV HO311) hg z9_88)
    have n4_ := mk0 (Kd.V_grown (pkV HO316) hg z9_88)
    have n5_ := mk0 (blk_grown (g := gb328) (o := .cells #[.int .i64 ((rd_T46 (rd_L3 x3_1 (ji25)) 0).f0), .int .i64 ((rd_T46 (rd_L3 x3_1 (ji25)) 0).f1)] 46 (0, 0)) (pkb BK328) hg (Kd.R_away HL343_0.out (fun _ hk => hk.1.1.2.1)))
    have n6_ := mk0 (blk_grown (g := gb329) (o := .cells #[.int .i64 ((rd_T46 (rd_L3 x3_1 (ji25)) (ji29)).f0), .int .i64 ((rd_T46 (rd_L3 x3_1 (ji25)) (ji29)).f1)] 46 (0, 0)) (pkb BK329) hg (Kd.R_away HL343_0.out (fun _ hk => hk.1.1.2.2)))
    have n7_ := mk0 (Kd.R_grown2 (pkR HO346) rfl hg (fun k_ e_ => (HL343_0.out.1 k_ e_).2))
    have n8_ := mk0 (hb)
    have n9_ := mk0 (Kd.H_grown (Kd.H_widen (by repeat (first | exact HH92.out | refine Kd.H_alloc ?_ _ | refine Kd.H_drewN ?_ _ | refine Kd.H_drew ?_))) hg (fun k_ e_ => .inl (UU92.out.1 k_ e_)))
    have n10_ := mk0 (ho)
    clear HO_4 HO_304001 BK303 HO311 HO316 BK328 BK329 HO346 HB HH92 HO_3 UU92 HL323_0 HL325_0 HL326_0 HL343_0; have HO_4 := n0_; have HO_304001 := n1_; have BK303 := n2_; have HO311 := n3_; have HO316 := n4_; have BK328 := n5_; have BK329 := n6_; have HO346 := n7_; have HB := n8_; have HH92 := n9_; have HO349 := n10_; clear n0_ n1_ n2_ n3_ n4_ n5_ n6_ n7_ n8_ n9_ n10_ ho hb hg hat
    obtain ⟨Ao97, co97, eo97⟩ := Kd.R_slice HO349.out
    (first | subst eo97 | (injection eo97 with f1_ f2_ f3_; have f4_ := f1_.symm; have f5_ := f3_.symm; clear f1_ f2_ f3_; subst f4_; subst f5_))
    obtain ⟨_, _, hraw95, _, _, hcc95, _⟩ := Kd.H_raw HH92.out (of_decide_eq_true (by first | (with_reducible assumption) | assumption)) (by have h_ : ((ji25) : Int) < ((x3_1.length : Int) : Int) := of_decide_eq_true (by first | (with_reducible assumption) | assumption); first | exact h_ | (have e_ := (HN92.out); omega) | simpa using h_)
    obtain ⟨_, hfr95⟩ := Kd.H_at HH92.out (of_decide_eq_true (by first | (with_reducible assumption) | assumption)) (by have h_ : ((ji25) : Int) < ((x3_1.length : Int) : Int) := of_decide_eq_true (by first | (with_reducible assumption) | assumption); first | exact h_ | (have e_ := (HN92.out); omega) | simpa using h_)
    have hx95_0 := hcc95 0 _ rfl
    have hf95_0 := hfr95 0
    (try simp only [Nat.add_zero] at hx95_0 hf95_0)
    (try rw [show ((Kd.slice 46 k46)).sz = 1 from rfl, Nat.mul_one] at hx95_0)
    (try rw [show ((Kd.slice 46 k46)).sz = 1 from rfl, Nat.mul_one] at hf95_0)
    have HP95 := Kd.S_seg0 HH92.out (of_decide_eq_true (by first | (with_reducible assumption) | assumption)) (by have h_ : ((ji25) : Int) < ((x3_1.length : Int) : Int) := of_decide_eq_true (by first | (with_reducible assumption) | assumption); first | exact h_ | (have e_ := (HN92.out); omega) | simpa using h_) (seg := [.slice Ao97 y347.length co97]) (j := 0) (show 1 ≤ 1 from by decide) (x' := y347) (Kd.M_row HO349.out) (fun _ hk => hk)
    (try simp only [show ((Kd.slice 46 k46)).sz = 1 from rfl, Nat.mul_one, Nat.add_zero] at HP95)
    clear hcc95 hfr95
    have HNB303_go92 := mk0 (show gb303 ≠ go92 from by have h_ := Kd.R_ne hraw95 BK303.out (by decide); intro e_; exact h_ (by rw [e_]; rfl))
    have HNB328_go92 := mk0 (show gb328 ≠ go92 from by have h_ := Kd.R_ne hraw95 BK328.out (by decide); intro e_; exact h_ (by rw [e_]; rfl))
    have HNB329_go92 := mk0 (show gb329 ≠ go92 from by have h_ := Kd.R_ne hraw95 BK329.out (by decide); intro e_; exact h_ (by rw [e_]; rfl))
    have HS95 := HP95.1
    rw [← Ny350.out] at HS95
    have HQ95 := mk0 HS95
    obtain ⟨_, hgg95⟩ := Kd.R_typed hraw95 go92 rfl
    have GG95_ := mk0 hgg95
    clear HP95 HS95 hgg95
    refine hK.out _ _ ⟨(blk_cell BK329.out 0).trans rfl, (blk_cell BK329.out 1).trans rfl, HS2_⟩ (fun hHeld => ?_)
    clear hK K
    refine norm_ (a' := ?_) ?_ ?_
    rotate_left
    ·show Act.put _ (some 84) _ = _
     simp only [Act.put, List.setIfInBounds_toArray, List.set_cons_zero, List.set_cons_succ, i64_w, i32_w]
     rfl
    refine pzv (i := 9) (N := 85) (v := ?_) (a' := ?_) y9_30 HT_ ?_ ?_ ?_
    rotate_left
    ·intro w'
     go_simp; with_reducible rfl
    rotate_left
    ·exact x9_put
    refine last_ (i := 10) (N := none) y9_41 rfl rfl (one_of HT_.out (by kernel_rfl)) (by decide) (fun K hK => ?_)
    refine skip_ (w1 := ?_) ?hwx ?hN ?_ ?_; (case hwx => rfl); (case hN => rfl)
    rotate_left
    ·go_simp
     rfl
    refine hK.out _ _ ?_
    clear hK K
    refine done_ (done_of HT_.out (by kernel_rfl)) ?_
    try go_wp2
    go_roundg k1
    case measure => have := HK1.out; omega
    case rel => exact ⟨(y350), (y312), (wrap64 (x20_1 + 1)), rs0, H', ⟨(by have := HK1.out; omega)⟩, ⟨(by (with_reducible repeat (first | apply Kd.S_alloc | apply Kd.S_drewN | apply Kd.S_drew)); exact Kd.S_mono HQ95.out (fun _ hk => hk.1))⟩, ⟨(by (with_reducible repeat (first | apply Kd.V_alloc | apply Kd.V_drewN | apply Kd.V_drew)); exact Kd.V_mono (Kd.V_far (p := ⟨go92, ((ji25) : Int).toNat, none⟩) (Kd.V_mono HO316.out (fun k_ hk => (⟨hk, fun e_ => hk.1.2.1 (by rw [e_]; rfl)⟩ : _ ∧ k_ ≠ go92))) (fun _ hk => hk.2) (.slice Ao97 y347.length co97)) (fun _ hk => ⟨hk.1.1.1, ⟨hk.1.1.2.1, hk.1.1.2.2.1⟩⟩))⟩, ⟨(by (with_reducible repeat (first | apply Kd.V_alloc | apply Kd.V_drewN | apply Kd.V_drew)); exact Kd.V_mono (Kd.V_far (p := ⟨go92, ((ji25) : Int).toNat, none⟩) (Kd.V_mono HO_304001.out (fun k_ hk => (⟨hk, fun e_ => hk.1.2.1 (by rw [e_]; rfl)⟩ : _ ∧ k_ ≠ go92))) (fun _ hk => hk.2) (.slice Ao97 y347.length co97)) (fun _ hk => ⟨hk.1.1.1, ⟨hk.1.1.2.1, hk.1.1.2.2.1⟩⟩))⟩, ⟨(by (with_reducible repeat (first | refine blk_drewN ?_ _ | refine blk_drew ?_ | refine blk_alloc ?_ _)); refine blk_far ?_ HNB303_go92.out _; (with_reducible repeat (first | refine blk_drewN ?_ _ | refine blk_drew ?_ | refine blk_alloc ?_ _)); exact BK303.out)⟩, ⟨(by repeat (first | (with_reducible first | exact HB.out | apply below_alloc | apply pw_below_drewN | apply below_drew1 | refine below_set ?_ GB92.out | refine below_set ?_ GE303.out | refine below_set ?_ GE328.out | refine below_set ?_ GE329.out) | exact HB.out))⟩⟩
   rw [if_pos c33] at H
   have c33b0 : (!(((rd_T46 (rd_L3 x3_1 (ji25)) 0).f0) == ((rd_T46 (rd_L3 x3_1 (ji25)) (ji29)).f0)) || (!(((rd_T46 (rd_L3 x3_1 (ji25)) 0).f1) == ((rd_T46 (rd_L3 x3_1 (ji25)) (ji29)).f1)))) = true := c33
   clear c33
   by_cases c34 : (rd_L3 x3_1 (ji25)).length < 8796093022208
   rotate_left
   ·rw [if_neg c34] at H
    exact absurd H (by simp)
   rw [if_pos c34] at H
   have LMc34 := mk0 c34
   clear c34
   obtain ⟨y331, hy_⟩ : ∃ y_ : List (S46), y_ = ((rd_L3 x3_1 (ji25)) ++ [(⟨(rd_T46 (rd_L3 x3_1 (ji25)) 0).f0, (rd_T46 (rd_L3 x3_1 (ji25)) 0).f1⟩ : S46)]) := ⟨_, rfl⟩
   replace H : ((some (x3_1.set ((ji25) : Int).toNat y331 : List (List (S46)))).bind fun y334 => ((impl_flatten.f k1 (rd l0_0 x20_1) ((rd_T46 (rd_L3 x3_1 (ji25)) (ji29)).f0) ((rd_T46 (rd_L3 x3_1 (ji25)) (ji29)).f1) y307).bind fun t336 => (if (rd_L3 y334 (ji25)).length + t336.length < 8796093022208 then (impl_FlatOf.l0 k1 (y334.set ((ji25) : Int).toNat ((rd_L3 y334 (ji25)) ++ t336)) y312 l0_0 (l0_0.length : Int) (wrap64 (x20_1 + 1))) else (none)))) = some r := z9_38
   have Ny331 := mk0 hy_
   clear hy_
   obtain ⟨y334, hy_⟩ : ∃ y_ : List (List (S46)), y_ = (x3_1.set ((ji25) : Int).toNat y331) := ⟨_, rfl⟩
   replace H : ((impl_flatten.f k1 (rd l0_0 x20_1) ((rd_T46 (rd_L3 x3_1 (ji25)) (ji29)).f0) ((rd_T46 (rd_L3 x3_1 (ji25)) (ji29)).f1) y307).bind fun t336 => (if (rd_L3 y334 (ji25)).length + t336.length < 8796093022208 then (impl_FlatOf.l0 k1 (y334.set ((ji25) : Int).toNat ((rd_L3 y334 (ji25)) ++ t336)) y312 l0_0 (l0_0.length : Int) (wrap64 (x20_1 + 1))) else (none))) = some r := z9_38
   have Ny334 := mk0 hy_
   clear hy_
   replace H := Option.bind_eq_some_iff.mp H
   obtain ⟨t336, A350, H⟩ := H
   try dsimp only at H
   have A35 := mk0 A350
   clear A350
   by_cases c36 : (rd_L3 y334 (ji25)).length + t336.length < 8796093022208
   rotate_left
   ·rw [if_neg c36] at H
    exact absurd H (by simp)
   rw [if_pos c36] at H
   have LMc36 := mk0 c36
   clear c36
   obtain ⟨y339, hy_⟩ : ∃ y_ : List (S46), y_ = ((rd_L3 y334 (ji25)) ++ t336) := ⟨_, rfl⟩
   replace H : (impl_FlatOf.l0 k1 (y334.set ((ji25) : Int).toNat y339) y312 l0_0 (l0_0.length : Int) (wrap64 (x20_1 + 1))) = some r := z9_38
   have Ny339 := mk0 hy_
   clear hy_
   obtain ⟨y342, hy_⟩ : ∃ y_ : List (List (S46)), y_ = (y334.set ((ji25) : Int).toNat y339) := ⟨_, rfl⟩
   replace H : (impl_FlatOf.l0 k1 y342 y312 l0_0 (l0_0.length : Int) (wrap64 (x20_1 + 1))) = some r := z9_38
   have Ny342 := mk0 hy_
   clear hy_
   have H' := mk0 H
   clear H
   have p305 : 0 ≤ (x20_1 : Int) := of_decide_eq_true (by first | (with_reducible assumption) | assumption)
   have q305 : x20_1 < (l0_0.length : Int) := of_decide_eq_true (by first | (with_reducible assumption) | assumption)
   obtain ⟨ad305, e305, hx305_0⟩ := Kd.at_int HR0_0.out x20_1 p305 q305
   cases e305
   replace hx305_0 := cell_go HB hx305_0
   replace p305 := eq_true p305
   replace q305 := eq_true q305
   try go_wp2_with (first | ((with_reducible refine gate_callee (f := 28) rfl ?_); refine goesL_ (some 25) rfl rfl Try.func28 (by kernel_rfl) rfl #[.int .i64 (rd l0_0 x20_1)] rfl z9_59 ?_; (with_reducible refine (impl_NeedOf.calls k1 (rd l0_0 x20_1) t306 _ A11.out).mono ?_); rintro e w' ⟨rfl, ⟨nd, rfl⟩⟩; refine ⟨_, rfl, ?_⟩; (try (rw [drewN_self wr]; generalize hq_ : World.drewN wr _ = wr; have n0_ : Aside0 (Kd.S (Kd.slice 46 k46) 29 wr w.heap.size (fun k_ => (w.heap.size ≤ k_)) u3 x3_1) := ⟨(by rw [← hq_]; exact (pkS HO_3))⟩; have n1_ : Aside0 (Kd.V k46 46 wr w.heap.size (fun k_ => ((P0_1_ k_) ∧ k_ < w.heap.size) ∧ some k_ ≠ (u3 : Value).ownBlock ∧ k_ ≠ gb303) (.slice A0_1 l0_1.length c0_1) l0_1) := ⟨(by rw [← hq_]; exact (pkV HO_304001))⟩; have n2_ : Aside0 (Kd.V k46 46 wr w.heap.size (fun k_ => ((P0_1_ k_) ∧ k_ < w.heap.size) ∧ some k_ ≠ (u3 : Value).ownBlock ∧ k_ ≠ gb303) u4 x4_1) := ⟨(by rw [← hq_]; exact (pkV HO_4))⟩; have n3_ : Aside0 (wr.heap[gb303]? = some (.cells #[.slice (some ad305) l0_0.length c0_0, .slice A0_1 l0_1.length c0_1] 31 (0, 0))) := ⟨(by rw [← hq_]; exact (pkb BK303))⟩; have n4_ : Aside0 (Below w.heap.size w wr) := ⟨(by rw [← hq_]; exact z9_35)⟩; clear HO_3 HO_304001 HO_4 BK303 HB hq_; have HO_3 := n0_; have HO_304001 := n1_; have HO_4 := n2_; have BK303 := n3_; have HB := n4_; clear n0_ n1_ n2_ n3_ n4_)); obtain ⟨Ao38, co38, eo38⟩ := Kd.V_slice HO_4.out; subst eo38; have q37 : (t306 : Int) ≤ ((x4_1.length : Int) : Int) := of_decide_eq_true (by first | (with_reducible assumption) | assumption); obtain ⟨i037, hi037, _, hsz37, _⟩ := info_parts info46; have hroom37 : x4_1.length ≤ co38 := (Kd.V_reads' HO_4.out).2.1; have hC37 : Kd.F k46 _ _ Ao38 x4_1.length x4_1 := (Kd.V_at (base := w.heap.size) HO_4.out).2.2; have hcut37 := cut_to (P := Try.prog) 29 46 .i64 Try.underlying29 hi037 Ao38 x4_1.length co38 t306 (of_decide_eq_true (by first | (with_reducible assumption) | assumption)) q37 hroom37; have hr37 := Kd.F_take (m := (t306 : Int).toNat) hC37 (by omega); have hy37 : y307.length = (t306 : Int).toNat := (by rw [Ny307.out, List.length_take]; omega); rw [← Ny307.out] at hr37; rw [← hy37] at hcut37; have HO311 := mk0 (show Kd.V k46 46 _ w.heap.size _ (.slice Ao38 y307.length co38) y307 from Kd.V_mk (by omega) hr37); have HC311 := mk0 (show y307.length ≤ co38 from by omega); clear hr37 hC37 hroom37 hi037 hsz37; have KY37 := mk0 hy37; clear hy37; replace q37 := eq_true q37; have q39 : (t306 : Int) ≤ ((x4_1.length : Int) : Int) := of_decide_eq_true (by first | (with_reducible assumption) | assumption); obtain ⟨i039, hi039, _, hsz39, _⟩ := info_parts info46; have hroom39 : x4_1.length ≤ co38 := (Kd.V_reads' HO_4.out).2.1; have hC39 : Kd.F k46 _ _ Ao38 x4_1.length x4_1 := (Kd.V_at (base := w.heap.size) HO_4.out).2.2; have q039 : (0 : Int) ≤ (t306 : Int) := of_decide_eq_true (by first | (with_reducible assumption) | assumption); have hcut39 := cut_from (P := Try.prog) 29 46 .i64 Try.underlying29 hi039 2 hsz39 Ao38 x4_1.length co38 t306 q039 q39; have hr39 := Kd.F_cut (m := (t306 : Int).toNat) (c := co38) hC39 (by omega) hroom39; obtain ⟨A39, hA39⟩ : ∃ A1, A1 = (if co38 = (t306 : Int).toNat then Ao38 else (Ao38 : Option Addr).map (·.add ((t306 : Int).toNat * 2))) := ⟨_, rfl⟩; obtain ⟨c39, hc39⟩ : ∃ c1, c1 = co38 - (t306 : Int).toNat := ⟨_, rfl⟩; have hy39 : y312.length = x4_1.length - (t306 : Int).toNat := (by rw [Ny312.out, List.length_drop] <;> omega); rw [show (x4_1).drop (t306 : Int).toNat = y312 from Ny312.out.symm] at hr39; replace hr39 : Kd.F k46 _ _ A39 y312.length y312 := (by rw [hA39]; exact hr39); rw [← hy39, ← hA39, ← hc39] at hcut39; have HO316 := mk0 (show Kd.V k46 46 _ w.heap.size _ (.slice A39 y312.length c39) y312 from Kd.V_mk (by rw [hy39, hc39]; exact Nat.sub_le_sub_right hroom39 _) hr39); have HC316 := mk0 (show y312.length ≤ c39 from by rw [hy39, hc39]; exact Nat.sub_le_sub_right hroom39 _); clear hr39 hC39 hroom39 hi039 hsz39 hc39; have KY39 := mk0 hy39; have KA39 := mk0 hA39; clear hy39 hA39; replace q39 := eq_true q39; obtain ⟨Ao40, co40, eo40⟩ := Kd.S_slice HO_3.out; subst eo40))
   have n0_ := mk0 (Kd.S_drew HO_3.out)
   have n1_ := mk0 (Kd.V_drew HO_4.out)
   have n2_ := mk0 (Kd.V_drew HO_304001.out)
   have n3_ := mk0 (Kd.V_drew HO311.out)
   have n4_ := mk0 (Kd.V_drew HO316.out)
   have n5_ := mk0 (blk_drew BK303.out)
   have n6_ := mk0 (below_drew1 HB.out)
   clear HO_3 HO_4 HO_304001 HO311 HO316 BK303 HB; have HO_3 := n0_; have HO_4 := n1_; have HO_304001 := n2_; have HO311 := n3_; have HO316 := n4_; have BK303 := n5_; have HB := n6_; clear n0_ n1_ n2_ n3_ n4_ n5_ n6_
   have p323 : 0 ≤ ((ji25) : Int) := of_decide_eq_true (by first | (with_reducible assumption) | assumption)
   have q323 : (ji25) < (x3_1.length : Int) := of_decide_eq_true (by first | (with_reducible assumption) | assumption)
   obtain ⟨ad323, A323_0, c323_0, e323, hx323_0, hl323_0, hi323_0⟩ := at_L3 (Kd.S_reads' HO_3.out).2.2 (ji25) p323 q323
   cases e323
   obtain ⟨ce323, hce323, hMe323, hcc323⟩ := Kd.S_get HO_3.out [] (ji25) p323 z9_82
   obtain ⟨ve323_0, rfl, ge323_0⟩ := hMe323
   have hv323_0 := hcc323 0 _ rfl
   rw [Nat.add_zero, show ((Kd.slice 46 k46)).sz = 1 from rfl, Nat.mul_one] at hv323_0
   replace hv323_0 := Option.some.inj (hv323_0.symm.trans hx323_0)
   rw [hv323_0] at ge323_0
   have HL323_0 := mk0 (show Kd.R k46 46 _ _ _ _ (rd_L3 x3_1 (ji25)) from ge323_0)
   clear hv323_0 ge323_0
   have HX323_0 := mk0 hx323_0
   clear hcc323 hce323
   have HR323_0 := mk0 hi323_0
   have HC323_0 := mk0 hl323_0
   clear hi323_0 hl323_0
   replace p323 := eq_true p323
   replace q323 := eq_true q323
   have p324 : 0 ≤ (0 : Int) := (by omega)
   have q324 : 0 < ((rd_L3 x3_1 (ji25)).length : Int) := of_decide_eq_true (by first | (with_reducible assumption) | assumption)
   obtain ⟨ad324, e324, hx324_0, hx324_1⟩ := at_T46 z9_36 0 p324 q324
   cases e324
   have qi324 : (0 < (rd_L3 x3_1 (ji25)).length) = True := eq_true (by omega)
   (try rw [show ((0 : Int)).toNat = 0 from rfl] at hx324_0)
   (try rw [show 0 * 2 = 0 from rfl] at hx324_0)
   (try rw [Addr.add_zero'] at hx324_0)
   (try rw [show ((0 : Int)).toNat = 0 from rfl] at hx324_1)
   (try rw [show 0 * 2 = 0 from rfl] at hx324_1)
   (try rw [Addr.add_zero'] at hx324_1)
   replace p324 := eq_true p324
   replace q324 := eq_true q324
   have p325 : 0 ≤ ((ji25) : Int) := of_decide_eq_true (by first | (with_reducible assumption) | assumption)
   have q325 : (ji25) < (x3_1.length : Int) := of_decide_eq_true (by first | (with_reducible assumption) | assumption)
   obtain ⟨ad325, A325_0, c325_0, e325, hx325_0, hl325_0, hi325_0⟩ := at_L3 (Kd.S_reads' HO_3.out).2.2 (ji25) p325 q325
   obtain rfl : ad323 = ad325 := (by injection e325)
   obtain ⟨ce325, hce325, hMe325, hcc325⟩ := Kd.S_get HO_3.out [] (ji25) p325 z9_83
   obtain ⟨ve325_0, rfl, ge325_0⟩ := hMe325
   have hv325_0 := hcc325 0 _ rfl
   rw [Nat.add_zero, show ((Kd.slice 46 k46)).sz = 1 from rfl, Nat.mul_one] at hv325_0
   replace hv325_0 := Option.some.inj (hv325_0.symm.trans hx325_0)
   rw [hv325_0] at ge325_0
   have HL325_0 := mk0 (show Kd.R k46 46 _ _ _ _ (rd_L3 x3_1 (ji25)) from ge325_0)
   clear hv325_0 ge325_0
   have HX325_0 := mk0 hx325_0
   clear hcc325 hce325
   have HR325_0 := mk0 hi325_0
   have HC325_0 := mk0 hl325_0
   clear hi325_0 hl325_0
   replace p325 := eq_true p325
   replace q325 := eq_true q325
   have ea_ := Option.some.inj (hx323_0.symm.trans hx325_0)
   injection ea_ with ea_ en_ ec_
   subst ea_; subst ec_; clear en_
   have p326 : 0 ≤ ((ji25) : Int) := of_decide_eq_true (by first | (with_reducible assumption) | assumption)
   have q326 : (ji25) < (x3_1.length : Int) := of_decide_eq_true (by first | (with_reducible assumption) | assumption)
   obtain ⟨ad326, A326_0, c326_0, e326, hx326_0, hl326_0, hi326_0⟩ := at_L3 (Kd.S_reads' HO_3.out).2.2 (ji25) p326 q326
   obtain rfl : ad323 = ad326 := (by injection e326)
   obtain ⟨ce326, hce326, hMe326, hcc326⟩ := Kd.S_get HO_3.out [] (ji25) p326 z9_84
   obtain ⟨ve326_0, rfl, ge326_0⟩ := hMe326
   have hv326_0 := hcc326 0 _ rfl
   rw [Nat.add_zero, show ((Kd.slice 46 k46)).sz = 1 from rfl, Nat.mul_one] at hv326_0
   replace hv326_0 := Option.some.inj (hv326_0.symm.trans hx326_0)
   rw [hv326_0] at ge326_0
   have HL326_0 := mk0 (show Kd.R k46 46 _ _ _ _ (rd_L3 x3_1 (ji25)) from ge326_0)
   clear hv326_0 ge326_0
   have HX326_0 := mk0 hx326_0
   clear hcc326 hce326
   have HR326_0 := mk0 hi326_0
   have HC326_0 := mk0 hl326_0
   clear hi326_0 hl326_0
   replace p326 := eq_true p326
   replace q326 := eq_true q326
   have ea_ := Option.some.inj (hx323_0.symm.trans hx326_0)
   injection ea_ with ea_ en_ ec_
   subst ea_; subst ec_; clear en_
   have p327 : 0 ≤ ((ji29) : Int) := of_decide_eq_true (by first | (with_reducible assumption) | assumption)
   have q327 : (ji29) < ((rd_L3 x3_1 (ji25)).length : Int) := of_decide_eq_true (by first | (with_reducible assumption) | assumption)
   obtain ⟨ad327, e327, hx327_0, hx327_1⟩ := at_T46 z9_37 (ji29) p327 q327
   cases e327
   replace p327 := eq_true p327
   replace q327 := eq_true q327
   go_wp2
   refine start_ (n := 19) (S := fun w' => w'.cell? (ad323.add ((ji25)).toNat) = some (.slice (some ad324) (rd_L3 x3_1 (ji25)).length c323_0) ∧ w'.cell? ad324 = some (.int .i64 ((rd_T46 (rd_L3 x3_1 (ji25)) 0).f0)) ∧ w'.cell? ⟨ad324.block, ad324.off + 1, none⟩ = some (.int .i64 ((rd_T46 (rd_L3 x3_1 (ji25)) 0).f1)) ∧ w'.cell? (ad323.add ((ji25)).toNat) = some (.slice (some ad324) (rd_L3 x3_1 (ji25)).length c323_0) ∧ w'.cell? (ad323.add ((ji25)).toNat) = some (.slice (some ad324) (rd_L3 x3_1 (ji25)).length c323_0) ∧ w'.cell? (ad324.add (((ji29)).toNat * 2)) = some (.int .i64 ((rd_T46 (rd_L3 x3_1 (ji25)) (ji29)).f0)) ∧ w'.cell? ⟨(ad324.add (((ji29)).toNat * 2)).block, (ad324.add (((ji29)).toNat * 2)).off + 1, none⟩ = some (.int .i64 ((rd_T46 (rd_L3 x3_1 (ji25)) (ji29)).f1))) (ds := []) y9_0 (by kernel_rfl) rfl rfl ⟨hx323_0, hx324_0, hx324_1, hx325_0, hx326_0, hx327_0, hx327_1⟩ (fun hHeld => ?_); refine with_tabW impl_FlatOf.tab14 impl_FlatOf.bits14 (fun HT_ HW_ => ?_)
   generalize wr.drew = w41 at HO_3 HO_4 HO_304001 HO311 HO316 BK303 HB HL323_0 HL325_0 HL326_0 HR323_0 HR325_0 HR326_0 HX323_0 HX325_0 HX326_0 hx323_0 hx324_0 hx324_1 hx325_0 hx326_0 hx327_0 hx327_1 hHeld ⊢
   refine pzv (i := 0) (N := 46) (v := ?_) (a' := ?_) y9_3 HT_ ?_ ?_ ?_
   rotate_left
   ·intro w'
    go_simp; with_reducible rfl
   rotate_left
   ·exact x9_put
   refine pzv (i := 1) (N := 47) (v := ?_) (a' := ?_) y9_6 HT_ ?_ ?_ ?_
   rotate_left
   ·intro w'
    go_simp; with_reducible rfl
   rotate_left
   ·exact x9_put
   refine pzv (i := 5) (N := 51) (v := ?_) (a' := ?_) y9_9 HT_ ?_ ?_ ?_
   rotate_left
   ·intro w'
    go_simp; with_reducible rfl
   rotate_left
   ·exact x9_put
   refine pzv (i := 6) (N := 52) (v := ?_) (a' := ?_) y9_10 HT_ ?_ ?_ ?_
   rotate_left
   ·intro w'
    go_simp; with_reducible rfl
   rotate_left
   ·exact x9_put
   refine pzv (i := 8) (N := 54) (v := ?_) (a' := ?_) y9_11 HT_ ?_ ?_ ?_
   rotate_left
   ·intro w'
    go_simp; with_reducible rfl
   rotate_left
   ·exact x9_put
   refine pzv (i := 9) (N := 55) (v := ?_) (a' := ?_) y9_12 HT_ ?_ ?_ ?_
   rotate_left
   ·intro w'
    go_simp; with_reducible rfl
   rotate_left
   ·exact x9_put
   refine take_ (i := 2) (N := some 48) (v := ?_) (a' := ?_) y9_15 rfl rfl (take_ofW HT_.out HW_.out (by kernel_rfl)) (fun _ _ _ h => h) (Or.inl ⟨by rfl, ?_⟩) hHeld ?_ ?_
   rotate_left
   ·rintro w' ⟨s0, s1, s2, s3, s4, s5, s6⟩
    go_simp; with_reducible rfl
   rotate_left
   ·exact x9_put
   refine pzv (i := 3) (N := 49) (v := ?_) (a' := ?_) y9_19 HT_ ?_ ?_ ?_
   rotate_left
   ·intro w'
    go_simp; with_reducible rfl
   rotate_left
   ·exact x9_put
   refine take_ (i := 4) (N := some 50) (v := ?_) (a' := ?_) y9_25 rfl rfl (take_ofW HT_.out HW_.out (by kernel_rfl)) (fun _ _ _ h => h) (Or.inl ⟨by rfl, ?_⟩) hHeld ?_ ?_
   rotate_left
   ·rintro w' ⟨s0, s1, s2, s3, s4, s5, s6⟩
    go_simp; with_reducible rfl
   rotate_left
   ·exact x9_put
   refine take_ (i := 7) (N := some 53) (v := ?_) (a' := ?_) y9_29 rfl rfl (take_ofW HT_.out HW_.out (by kernel_rfl)) (fun _ _ _ h => h) (Or.inl ⟨by rfl, ?_⟩) hHeld ?_ ?_
   rotate_left
   ·rintro w' ⟨s0, s1, s2, s3, s4, s5, s6⟩
    go_simp; with_reducible rfl
   rotate_left
   ·exact x9_put
   refine take_ (i := 10) (N := some 56) (v := ?_) (a' := ?_) y9_31 rfl rfl (take_ofW HT_.out HW_.out (by kernel_rfl)) (fun _ _ _ h => h) (Or.inl ⟨by rfl, ?_⟩) hHeld ?_ ?_
   rotate_left
   ·rintro w' ⟨s0, s1, s2, s3, s4, s5, s6⟩
    go_simp; with_reducible rfl
   rotate_left
   ·exact x9_put
   refine pzv (i := 11) (N := 57) (v := ?_) (a' := ?_) y9_32 HT_ ?_ ?_ ?_
   rotate_left
   ·intro w'
    go_simp; with_reducible rfl
   rotate_left
   ·exact x9_put
   refine pzv (i := 12) (N := 58) (v := ?_) (a' := ?_) y9_33 HT_ ?_ ?_ ?_
   rotate_left
   ·intro w'
    go_simp; with_reducible rfl
   rotate_left
   ·exact x9_put
   refine pzv (i := 13) (N := 59) (v := ?_) (a' := ?_) y9_34 HT_ ?_ ?_ ?_
   rotate_left
   ·intro w'
    go_simp; with_reducible rfl
   rotate_left
   ·exact x9_put
   refine take_ (i := 14) (N := some 60) (v := ?_) (a' := ?_) y9_35 rfl rfl (take_ofW HT_.out HW_.out (by kernel_rfl)) (fun _ _ _ h => h) (Or.inl ⟨by rfl, ?_⟩) hHeld ?_ ?_
   rotate_left
   ·rintro w' ⟨s0, s1, s2, s3, s4, s5, s6⟩
    go_simp; with_reducible rfl
   rotate_left
   ·exact x9_put
   refine join_ (σ := Nat × Nat) 2 y9_38 (fun s_ => [(10, .pointer (some ⟨s_.1, 0, none⟩)), (11, .pointer (some ⟨s_.2, 0, none⟩))]) (fun s_ w' => (w'.cell? (ad323.add ((ji25)).toNat) = some (.slice (some ad324) (rd_L3 x3_1 (ji25)).length c323_0) ∧ w'.cell? ad324 = some (.int .i64 ((rd_T46 (rd_L3 x3_1 (ji25)) 0).f0)) ∧ w'.cell? ⟨ad324.block, ad324.off + 1, none⟩ = some (.int .i64 ((rd_T46 (rd_L3 x3_1 (ji25)) 0).f1)) ∧ w'.cell? (ad323.add ((ji25)).toNat) = some (.slice (some ad324) (rd_L3 x3_1 (ji25)).length c323_0) ∧ w'.cell? (ad323.add ((ji25)).toNat) = some (.slice (some ad324) (rd_L3 x3_1 (ji25)).length c323_0) ∧ w'.cell? (ad324.add (((ji29)).toNat * 2)) = some (.int .i64 ((rd_T46 (rd_L3 x3_1 (ji25)) (ji29)).f0)) ∧ w'.cell? ⟨(ad324.add (((ji29)).toNat * 2)).block, (ad324.add (((ji29)).toNat * 2)).off + 1, none⟩ = some (.int .i64 ((rd_T46 (rd_L3 x3_1 (ji25)) (ji29)).f1))) ∧ (Kd.R k46 46 w' w.heap.size (fun k_ => (w.heap.size ≤ k_) ∧ some k_ ≠ (.slice (some ad323) x3_1.length co40 : Value).ownBlock ∧ k_ ≠ s_.1 ∧ k_ ≠ s_.2) (.slice (some ad324) (rd_L3 x3_1 (ji25)).length c323_0) (rd_L3 x3_1 (ji25))) ∧ (Kd.R k46 46 w' w.heap.size (fun k_ => (w.heap.size ≤ k_) ∧ some k_ ≠ (.slice (some ad323) x3_1.length co40 : Value).ownBlock ∧ k_ ≠ s_.1 ∧ k_ ≠ s_.2) (.slice (some ad324) (rd_L3 x3_1 (ji25)).length c323_0) (rd_L3 x3_1 (ji25))) ∧ (Kd.R k46 46 w' w.heap.size (fun k_ => (w.heap.size ≤ k_) ∧ some k_ ≠ (.slice (some ad323) x3_1.length co40 : Value).ownBlock ∧ k_ ≠ s_.1 ∧ k_ ≠ s_.2) (.slice (some ad324) (rd_L3 x3_1 (ji25)).length c323_0) (rd_L3 x3_1 (ji25))) ∧ (Kd.V k46 46 w' w.heap.size (fun k_ => ((P0_1_ k_) ∧ k_ < w.heap.size) ∧ some k_ ≠ (.slice (some ad323) x3_1.length co40 : Value).ownBlock ∧ k_ ≠ gb303 ∧ k_ ≠ s_.1 ∧ k_ ≠ s_.2) (.slice Ao38 y307.length co38) y307) ∧ (Kd.V k46 46 w' w.heap.size (fun k_ => ((P0_1_ k_) ∧ k_ < w.heap.size) ∧ some k_ ≠ (.slice (some ad323) x3_1.length co40 : Value).ownBlock ∧ k_ ≠ gb303 ∧ k_ ≠ s_.1 ∧ k_ ≠ s_.2) (.slice A39 y312.length c39) y312) ∧ (Kd.S (Kd.slice 46 k46) 29 w' w.heap.size (fun k_ => (w.heap.size ≤ k_) ∧ k_ ≠ s_.1 ∧ k_ ≠ s_.2) (.slice (some ad323) x3_1.length co40) x3_1) ∧ (Kd.V k46 46 w' w.heap.size (fun k_ => ((P0_1_ k_) ∧ k_ < w.heap.size) ∧ some k_ ≠ (.slice (some ad323) x3_1.length co40 : Value).ownBlock ∧ k_ ≠ gb303 ∧ k_ ≠ s_.1 ∧ k_ ≠ s_.2) (.slice A0_1 l0_1.length c0_1) l0_1) ∧ (Kd.V k46 46 w' w.heap.size (fun k_ => ((P0_1_ k_) ∧ k_ < w.heap.size) ∧ some k_ ≠ (.slice (some ad323) x3_1.length co40 : Value).ownBlock ∧ k_ ≠ gb303 ∧ k_ ≠ s_.1 ∧ k_ ≠ s_.2) (.slice Ao38 x4_1.length co38) x4_1) ∧ (w'.cell? (ad323.add ((ji25)).toNat) = some (.slice (some ad324) (rd_L3 x3_1 (ji25)).length c323_0)) ∧ (w'.cell? (ad323.add ((ji25)).toNat) = some (.slice (some ad324) (rd_L3 x3_1 (ji25)).length c323_0)) ∧ (w'.cell? (ad323.add ((ji25)).toNat) = some (.slice (some ad324) (rd_L3 x3_1 (ji25)).length c323_0)) ∧ (w'.heap[gb303]? = some (.cells #[.slice (some ad305) l0_0.length c0_0, .slice A0_1 l0_1.length c0_1] 31 (0, 0))) ∧ (w'.heap[s_.1]? = some (.cells #[.int .i64 0, .int .i64 0] 46 (0, 0))) ∧ (w'.heap[s_.2]? = some (.cells #[.int .i64 0, .int .i64 0] 46 (0, 0))) ∧ (w.heap.size ≤ s_.1) ∧ (w.heap.size ≤ s_.1) ∧ (gb303 ≠ s_.1) ∧ (s_.1 ≠ gb303) ∧ (s_.2 ≠ s_.1) ∧ (s_.1 ≠ s_.2) ∧ (w.heap.size ≤ s_.2) ∧ (w.heap.size ≤ s_.2) ∧ (gb303 ≠ s_.2) ∧ (s_.2 ≠ gb303) ∧ (Below w.heap.size w w')) ?_ ?_
   rotate_left
   ·intro hCont
    refine two_ (i := 15) (j := 16) (Ni := some 10) (Nj := some 11) y9_37 y9_36 rfl rfl rfl rfl (two_of HT_.out (by kernel_rfl)) (by decide) (by decide) (fun K hK => ?_) (fun K hK => ?_)
    ·skip
     refine box_step ?hg (N := 10) ?hd (cs := #[.int .i64 0, .int .i64 0]) (t := 46) ?hr ?_; (case hd => rfl); (case hg => rfl); (case hr => first | (go_simp; done) | (go_simp; rfl))
     intro gb328 hg w42 hbox hb
     have HS0_ := (hb.cell (World.block_lt_of_cell? _ _ (hHeld.1))).trans (hHeld.1)
     have HS1_ := (hb.cell (World.block_lt_of_cell? _ _ (hHeld.2.1))).trans (hHeld.2.1)
     have HS2_ := (hb.cell (World.block_lt_of_cell? _ _ (hHeld.2.2.1))).trans (hHeld.2.2.1)
     have HS3_ := (hb.cell (World.block_lt_of_cell? _ _ (hHeld.2.2.2.1))).trans (hHeld.2.2.2.1)
     have HS4_ := (hb.cell (World.block_lt_of_cell? _ _ (hHeld.2.2.2.2.1))).trans (hHeld.2.2.2.2.1)
     have HS5_ := (hb.cell (World.block_lt_of_cell? _ _ (hHeld.2.2.2.2.2.1))).trans (hHeld.2.2.2.2.2.1)
     have HS6_ := (hb.cell (World.block_lt_of_cell? _ _ (hHeld.2.2.2.2.2.2))).trans (hHeld.2.2.2.2.2.2)
     have n0_ := mk0 (Kd.S_below (Kd.S_elderB (pkS HO_3) gb328 (Nat.le_of_eq hg.symm)) hb)
     have n1_ := mk0 (Kd.V_below (Kd.V_elderB (pkV HO_4) gb328 (Nat.le_of_eq hg.symm)) hb)
     have n2_ := mk0 (Kd.V_below (Kd.V_elderB (pkV HO_304001) gb328 (Nat.le_of_eq hg.symm)) hb)
     have n3_ := mk0 (Kd.V_below (Kd.V_elderB (pkV HO311) gb328 (Nat.le_of_eq hg.symm)) hb)
     have n4_ := mk0 (Kd.V_below (Kd.V_elderB (pkV HO316) gb328 (Nat.le_of_eq hg.symm)) hb)
     have n5_ := mk0 (Kd.R_below (Kd.R_elderB (pkR HL323_0) gb328 (Nat.le_of_eq hg.symm)) hb)
     have n6_ := mk0 (Kd.R_below (Kd.R_elderB (pkR HL325_0) gb328 (Nat.le_of_eq hg.symm)) hb)
     have n7_ := mk0 (Kd.R_below (Kd.R_elderB (pkR HL326_0) gb328 (Nat.le_of_eq hg.symm)) hb)
     have n8_ := mk0 (blk_belowB BK303 (pkb BK303) hb)
     have n9_ := mk0 (Kd.C_below z9_36 hb)
     have n10_ := mk0 (pw_cell_below hb HX323_0.out)
     have n11_ := mk0 (Kd.C_below z9_37 hb)
     have n12_ := mk0 (pw_cell_below hb HX325_0.out)
     have n13_ := mk0 (Kd.C_below z9_41 hb)
     have n14_ := mk0 (pw_cell_below hb HX326_0.out)
     have n15_ := mk0 (below_step z9_35 hb)
     have n16_ := mk0 (hbox)
     have n17_ := mk0 (ge_go (a := w.heap.size) hg (below_size z9_35))
     have n18_ := mk0 (ge_go (a := w.heap.size) hg (below_size z9_35))
     have n19_ := mk0 (nb_lt hg (blk_ltB BK303 (pkb BK303)))
     have n20_ := mk0 (nb_gt hg (blk_ltB BK303 (pkb BK303)))
     clear HO_3 HO_4 HO_304001 HO311 HO316 HL323_0 HL325_0 HL326_0 BK303 HR323_0 HX323_0 HR325_0 HX325_0 HR326_0 HX326_0 HB; have HO_3 := n0_; have HO_4 := n1_; have HO_304001 := n2_; have HO311 := n3_; have HO316 := n4_; have HL323_0 := n5_; have HL325_0 := n6_; have HL326_0 := n7_; have BK303 := n8_; have HR323_0 := n9_; have HX323_0 := n10_; have HR325_0 := n11_; have HX325_0 := n12_; have HR326_0 := n13_; have HX326_0 := n14_; have HB := n15_; have BK328 := n16_; have GW328 := n17_; have GE328 := n18_; have NB303_328 := n19_; have NB328_303 := n20_; clear n0_ n1_ n2_ n3_ n4_ n5_ n6_ n7_ n8_ n9_ n10_ n11_ n12_ n13_ n14_ n15_ n16_ n17_ n18_ n19_ n20_ hb hbox hg
     refine hK.out _ _ ⟨HS0_, HS1_, HS2_, HS3_, HS4_, HS5_, HS6_⟩ (fun hHeld => ?_)
     clear hK K
     refine norm_ (a' := ?_) ?_ ?_
     rotate_left
     ·show Act.put _ (some 10) _ = _
      simp only [Act.put, List.setIfInBounds_toArray, List.set_cons_zero, List.set_cons_succ, i64_w, i32_w]
      rfl
     refine one_ (i := 16) (N := some 11) y9_38 rfl rfl (one_of HT_.out (by kernel_rfl)) (by decide) (fun K hK => ?_)
     refine box_step ?hg (N := 11) ?hd (cs := #[.int .i64 0, .int .i64 0]) (t := 46) ?hr ?_; (case hd => rfl); (case hg => rfl); (case hr => first | (go_simp; done) | (go_simp; rfl))
     intro gb329 hg w43 hbox hb
     have HS0_ := (hb.cell (World.block_lt_of_cell? _ _ (hHeld.1))).trans (hHeld.1)
     have HS1_ := (hb.cell (World.block_lt_of_cell? _ _ (hHeld.2.1))).trans (hHeld.2.1)
     have HS2_ := (hb.cell (World.block_lt_of_cell? _ _ (hHeld.2.2.1))).trans (hHeld.2.2.1)
     have HS3_ := (hb.cell (World.block_lt_of_cell? _ _ (hHeld.2.2.2.1))).trans (hHeld.2.2.2.1)
     have HS4_ := (hb.cell (World.block_lt_of_cell? _ _ (hHeld.2.2.2.2.1))).trans (hHeld.2.2.2.2.1)
     have HS5_ := (hb.cell (World.block_lt_of_cell? _ _ (hHeld.2.2.2.2.2.1))).trans (hHeld.2.2.2.2.2.1)
     have HS6_ := (hb.cell (World.block_lt_of_cell? _ _ (hHeld.2.2.2.2.2.2))).trans (hHeld.2.2.2.2.2.2)
     have n0_ := mk0 (Kd.S_below (Kd.S_elderB (pkS HO_3) gb329 (Nat.le_of_eq hg.symm)) hb)
     have n1_ := mk0 (Kd.V_below (Kd.V_elderB (pkV HO_4) gb329 (Nat.le_of_eq hg.symm)) hb)
     have n2_ := mk0 (Kd.V_below (Kd.V_elderB (pkV HO_304001) gb329 (Nat.le_of_eq hg.symm)) hb)
     have n3_ := mk0 (Kd.V_below (Kd.V_elderB (pkV HO311) gb329 (Nat.le_of_eq hg.symm)) hb)
     have n4_ := mk0 (Kd.V_below (Kd.V_elderB (pkV HO316) gb329 (Nat.le_of_eq hg.symm)) hb)
     have n5_ := mk0 (Kd.R_below (Kd.R_elderB (pkR HL323_0) gb329 (Nat.le_of_eq hg.symm)) hb)
     have n6_ := mk0 (Kd.R_below (Kd.R_elderB (pkR HL325_0) gb329 (Nat.le_of_eq hg.symm)) hb)
     have n7_ := mk0 (Kd.R_below (Kd.R_elderB (pkR HL326_0) gb329 (Nat.le_of_eq hg.symm)) hb)
     have n8_ := mk0 (blk_belowB BK303 (pkb BK303) hb)
     have n9_ := mk0 (Kd.C_below z9_36 hb)
     have n10_ := mk0 (pw_cell_below hb HX323_0.out)
     have n11_ := mk0 (Kd.C_below z9_37 hb)
     have n12_ := mk0 (pw_cell_below hb HX325_0.out)
     have n13_ := mk0 (Kd.C_below z9_41 hb)
     have n14_ := mk0 (pw_cell_below hb HX326_0.out)
     have n15_ := mk0 (blk_belowB BK328 (pkb BK328) hb)
     have n16_ := mk0 (below_step z9_46 hb)
     have n17_ := mk0 (hbox)
     have n18_ := mk0 (ge_go (a := w.heap.size) hg (below_size z9_46))
     have n19_ := mk0 (ge_go (a := w.heap.size) hg (below_size z9_46))
     have n20_ := mk0 (nb_lt hg (blk_ltB BK303 (pkb BK303)))
     have n21_ := mk0 (nb_gt hg (blk_ltB BK303 (pkb BK303)))
     have n22_ := mk0 (nb_lt hg (blk_ltB BK328 (pkb BK328)))
     have n23_ := mk0 (nb_gt hg (blk_ltB BK328 (pkb BK328)))
     clear HO_3 HO_4 HO_304001 HO311 HO316 HL323_0 HL325_0 HL326_0 BK303 HR323_0 HX323_0 HR325_0 HX325_0 HR326_0 HX326_0 BK328 HB; have HO_3 := n0_; have HO_4 := n1_; have HO_304001 := n2_; have HO311 := n3_; have HO316 := n4_; have HL323_0 := n5_; have HL325_0 := n6_; have HL326_0 := n7_; have BK303 := n8_; have HR323_0 := n9_; have HX323_0 := n10_; have HR325_0 := n11_; have HX325_0 := n12_; have HR326_0 := n13_; have HX326_0 := n14_; have BK328 := n15_; have HB := n16_; have BK329 := n17_; have GW329 := n18_; have GE329 := n19_; have NB303_329 := n20_; have NB329_303 := n21_; have NB328_329 := n22_; have NB329_328 := n23_; clear n0_ n1_ n2_ n3_ n4_ n5_ n6_ n7_ n8_ n9_ n10_ n11_ n12_ n13_ n14_ n15_ n16_ n17_ n18_ n19_ n20_ n21_ n22_ n23_ hb hbox hg
     refine hK.out _ _ ⟨HS0_, HS1_, HS2_, HS3_, HS4_, HS5_, HS6_⟩ (fun hHeld => ?_)
     clear hK K
     refine norm_ (a' := ?_) ?_ ?_
     rotate_left
     ·show Act.put _ (some 11) _ = _
      simp only [Act.put, List.setIfInBounds_toArray, List.set_cons_zero, List.set_cons_succ, i64_w, i32_w]
      rfl
     exact norm_ z9_63 (hCont (gb328, gb329) _ ⟨hHeld, z9_74, z9_75, z9_76, z9_67, z9_68, z9_80, z9_65, z9_71, HX323_0.out, HX325_0.out, HX326_0.out, (pkb BK303), (pkb BK328), (pkb BK329), GW328.out, GE328.out, NB303_328.out, NB328_303.out, NB329_328.out, NB328_329.out, GW329.out, GE329.out, NB303_329.out, NB329_303.out, z9_34⟩)
    skip
    refine box_step ?hg (N := 11) ?hd (cs := #[.int .i64 0, .int .i64 0]) (t := 46) ?hr ?_; (case hd => rfl); (case hg => rfl); (case hr => first | (go_simp; done) | (go_simp; rfl))
    intro gb329 hg w42 hbox hb
    have HS0_ := (hb.cell (World.block_lt_of_cell? _ _ (hHeld.1))).trans (hHeld.1)
    have HS1_ := (hb.cell (World.block_lt_of_cell? _ _ (hHeld.2.1))).trans (hHeld.2.1)
    have HS2_ := (hb.cell (World.block_lt_of_cell? _ _ (hHeld.2.2.1))).trans (hHeld.2.2.1)
    have HS3_ := (hb.cell (World.block_lt_of_cell? _ _ (hHeld.2.2.2.1))).trans (hHeld.2.2.2.1)
    have HS4_ := (hb.cell (World.block_lt_of_cell? _ _ (hHeld.2.2.2.2.1))).trans (hHeld.2.2.2.2.1)
    have HS5_ := (hb.cell (World.block_lt_of_cell? _ _ (hHeld.2.2.2.2.2.1))).trans (hHeld.2.2.2.2.2.1)
    have HS6_ := (hb.cell (World.block_lt_of_cell? _ _ (hHeld.2.2.2.2.2.2))).trans (hHeld.2.2.2.2.2.2)
    have n0_ := mk0 (Kd.S_below (Kd.S_elderB (pkS HO_3) gb329 (Nat.le_of_eq hg.symm)) hb)
    have n1_ := mk0 (Kd.V_below (Kd.V_elderB (pkV HO_4) gb329 (Nat.le_of_eq hg.symm)) hb)
    have n2_ := mk0 (Kd.V_below (Kd.V_elderB (pkV HO_304001) gb329 (Nat.le_of_eq hg.symm)) hb)
    have n3_ := mk0 (Kd.V_below (Kd.V_elderB (pkV HO311) gb329 (Nat.le_of_eq hg.symm)) hb)
    have n4_ := mk0 (Kd.V_below (Kd.V_elderB (pkV HO316) gb329 (Nat.le_of_eq hg.symm)) hb)
    have n5_ := mk0 (Kd.R_below (Kd.R_elderB (pkR HL323_0) gb329 (Nat.le_of_eq hg.symm)) hb)
    have n6_ := mk0 (Kd.R_below (Kd.R_elderB (pkR HL325_0) gb329 (Nat.le_of_eq hg.symm)) hb)
    have n7_ := mk0 (Kd.R_below (Kd.R_elderB (pkR HL326_0) gb329 (Nat.le_of_eq hg.symm)) hb)
    have n8_ := mk0 (blk_belowB BK303 (pkb BK303) hb)
    have n9_ := mk0 (Kd.C_below z9_36 hb)
    have n10_ := mk0 (pw_cell_below hb HX323_0.out)
    have n11_ := mk0 (Kd.C_below z9_37 hb)
    have n12_ := mk0 (pw_cell_below hb HX325_0.out)
    have n13_ := mk0 (Kd.C_below z9_41 hb)
    have n14_ := mk0 (pw_cell_below hb HX326_0.out)
    have n15_ := mk0 (below_step z9_35 hb)
    have n16_ := mk0 (hbox)
    have n17_ := mk0 (ge_go (a := w.heap.size) hg (below_size z9_35))
    have n18_ := mk0 (ge_go (a := w.heap.size) hg (below_size z9_35))
    have n19_ := mk0 (nb_lt hg (blk_ltB BK303 (pkb BK303)))
    have n20_ := mk0 (nb_gt hg (blk_ltB BK303 (pkb BK303)))
    clear HO_3 HO_4 HO_304001 HO311 HO316 HL323_0 HL325_0 HL326_0 BK303 HR323_0 HX323_0 HR325_0 HX325_0 HR326_0 HX326_0 HB; have HO_3 := n0_; have HO_4 := n1_; have HO_304001 := n2_; have HO311 := n3_; have HO316 := n4_; have HL323_0 := n5_; have HL325_0 := n6_; have HL326_0 := n7_; have BK303 := n8_; have HR323_0 := n9_; have HX323_0 := n10_; have HR325_0 := n11_; have HX325_0 := n12_; have HR326_0 := n13_; have HX326_0 := n14_; have HB := n15_; have BK329 := n16_; have GW329 := n17_; have GE329 := n18_; have NB303_329 := n19_; have NB329_303 := n20_; clear n0_ n1_ n2_ n3_ n4_ n5_ n6_ n7_ n8_ n9_ n10_ n11_ n12_ n13_ n14_ n15_ n16_ n17_ n18_ n19_ n20_ hb hbox hg
    refine hK.out _ _ ⟨HS0_, HS1_, HS2_, HS3_, HS4_, HS5_, HS6_⟩ (fun hHeld => ?_)
    clear hK K
    refine norm_ (a' := ?_) ?_ ?_
    rotate_left
    ·show Act.put _ (some 11) _ = _
     simp only [Act.put, List.setIfInBounds_toArray, List.set_cons_zero, List.set_cons_succ, i64_w, i32_w]
     rfl
    refine one_ (i := 15) (N := some 10) y9_38 rfl rfl (one_of HT_.out (by kernel_rfl)) (by decide) (fun K hK => ?_)
    refine box_step ?hg (N := 10) ?hd (cs := #[.int .i64 0, .int .i64 0]) (t := 46) ?hr ?_; (case hd => rfl); (case hg => rfl); (case hr => first | (go_simp; done) | (go_simp; rfl))
    intro gb328 hg w43 hbox hb
    have HS0_ := (hb.cell (World.block_lt_of_cell? _ _ (hHeld.1))).trans (hHeld.1)
    have HS1_ := (hb.cell (World.block_lt_of_cell? _ _ (hHeld.2.1))).trans (hHeld.2.1)
    have HS2_ := (hb.cell (World.block_lt_of_cell? _ _ (hHeld.2.2.1))).trans (hHeld.2.2.1)
    have HS3_ := (hb.cell (World.block_lt_of_cell? _ _ (hHeld.2.2.2.1))).trans (hHeld.2.2.2.1)
    have HS4_ := (hb.cell (World.block_lt_of_cell? _ _ (hHeld.2.2.2.2.1))).trans (hHeld.2.2.2.2.1)
    have HS5_ := (hb.cell (World.block_lt_of_cell? _ _ (hHeld.2.2.2.2.2.1))).trans (hHeld.2.2.2.2.2.1)
    have HS6_ := (hb.cell (World.block_lt_of_cell? _ _ (hHeld.2.2.2.2.2.2))).trans (hHeld.2.2.2.2.2.2)
    have n0_ := mk0 (Kd.S_below (Kd.S_elderB (pkS HO_3) gb328 (Nat.le_of_eq hg.symm)) hb)
    have n1_ := mk0 (Kd.V_below (Kd.V_elderB (pkV HO_4) gb328 (Nat.le_of_eq hg.symm)) hb)
    have n2_ := mk0 (Kd.V_below (Kd.V_elderB (pkV HO_304001) gb328 (Nat.le_of_eq hg.symm)) hb)
    have n3_ := mk0 (Kd.V_below (Kd.V_elderB (pkV HO311) gb328 (Nat.le_of_eq hg.symm)) hb)
    have n4_ := mk0 (Kd.V_below (Kd.V_elderB (pkV HO316) gb328 (Nat.le_of_eq hg.symm)) hb)
    have n5_ := mk0 (Kd.R_below (Kd.R_elderB (pkR HL323_0) gb328 (Nat.le_of_eq hg.symm)) hb)
    have n6_ := mk0 (Kd.R_below (Kd.R_elderB (pkR HL325_0) gb328 (Nat.le_of_eq hg.symm)) hb)
    have n7_ := mk0 (Kd.R_below (Kd.R_elderB (pkR HL326_0) gb328 (Nat.le_of_eq hg.symm)) hb)
    have n8_ := mk0 (blk_belowB BK303 (pkb BK303) hb)
    have n9_ := mk0 (Kd.C_below z9_36 hb)
    have n10_ := mk0 (pw_cell_below hb HX323_0.out)
    have n11_ := mk0 (Kd.C_below z9_37 hb)
    have n12_ := mk0 (pw_cell_below hb HX325_0.out)
    have n13_ := mk0 (Kd.C_below z9_41 hb)
    have n14_ := mk0 (pw_cell_below hb HX326_0.out)
    have n15_ := mk0 (blk_belowB BK329 (pkb BK329) hb)
    have n16_ := mk0 (below_step z9_47 hb)
    have n17_ := mk0 (hbox)
    have n18_ := mk0 (ge_go (a := w.heap.size) hg (below_size z9_47))
    have n19_ := mk0 (ge_go (a := w.heap.size) hg (below_size z9_47))
    have n20_ := mk0 (nb_lt hg (blk_ltB BK303 (pkb BK303)))
    have n21_ := mk0 (nb_gt hg (blk_ltB BK303 (pkb BK303)))
    have n22_ := mk0 (nb_lt hg (blk_ltB BK329 (pkb BK329)))
    have n23_ := mk0 (nb_gt hg (blk_ltB BK329 (pkb BK329)))
    clear HO_3 HO_4 HO_304001 HO311 HO316 HL323_0 HL325_0 HL326_0 BK303 HR323_0 HX323_0 HR325_0 HX325_0 HR326_0 HX326_0 BK329 HB; have HO_3 := n0_; have HO_4 := n1_; have HO_304001 := n2_; have HO311 := n3_; have HO316 := n4_; have HL323_0 := n5_; have HL325_0 := n6_; have HL326_0 := n7_; have BK303 := n8_; have HR323_0 := n9_; have HX323_0 := n10_; have HR325_0 := n11_; have HX325_0 := n12_; have HR326_0 := n13_; have HX326_0 := n14_; have BK329 := n15_; have HB := n16_; have BK328 := n17_; have GW328 := n18_; have GE328 := n19_; have NB303_328 := n20_; have NB328_303 := n21_; have NB329_328 := n22_; have NB328_329 := n23_; clear n0_ n1_ n2_ n3_ n4_ n5_ n6_ n7_ n8_ n9_ n10_ n11_ n12_ n13_ n14_ n15_ n16_ n17_ n18_ n19_ n20_ n21_ n22_ n23_ hb hbox hg
    refine hK.out _ _ ⟨HS0_, HS1_, HS2_, HS3_, HS4_, HS5_, HS6_⟩ (fun hHeld => ?_)
    clear hK K
    refine norm_ (a' := ?_) ?_ ?_
    rotate_left
    ·show Act.put _ (some 10) _ = _
     simp only [Act.put, List.setIfInBounds_toArray, List.set_cons_zero, List.set_cons_succ, i64_w, i32_w]
     rfl
    exact norm_ z9_63 (hCont (gb328, gb329) _ ⟨hHeld, z9_77, z9_78, z9_79, z9_69, z9_70, z9_81, z9_66, z9_72, HX323_0.out, HX325_0.out, HX326_0.out, (pkb BK303), (pkb BK328), (pkb BK329), GW328.out, GE328.out, NB303_328.out, NB328_303.out, NB329_328.out, NB328_329.out, GW329.out, GE329.out, NB303_329.out, NB329_303.out, z9_64⟩)
   rintro ⟨gb328, gb329⟩ w44 ⟨hS_, h0_, h1_, h2_, h3_, h4_, h5_, h6_, h7_, h8_, h9_, h10_, h11_, h12_, h13_, h14_, h15_, h16_, h17_, h18_, h19_, h20_, h21_, h22_, h23_, h24_⟩
   have n0_ : Aside0 (Kd.R k46 46 w44 w.heap.size (fun k_ => (w.heap.size ≤ k_) ∧ some k_ ≠ (.slice (some ad323) x3_1.length co40 : Value).ownBlock ∧ k_ ≠ gb328 ∧ k_ ≠ gb329) (.slice (some ad324) (rd_L3 x3_1 (ji25)).length c323_0) (rd_L3 x3_1 (ji25))) := ⟨h0_⟩
   have n1_ : Aside0 (Kd.R k46 46 w44 w.heap.size (fun k_ => (w.heap.size ≤ k_) ∧ some k_ ≠ (.slice (some ad323) x3_1.length co40 : Value).ownBlock ∧ k_ ≠ gb328 ∧ k_ ≠ gb329) (.slice (some ad324) (rd_L3 x3_1 (ji25)).length c323_0) (rd_L3 x3_1 (ji25))) := ⟨h1_⟩
   have n2_ : Aside0 (Kd.R k46 46 w44 w.heap.size (fun k_ => (w.heap.size ≤ k_) ∧ some k_ ≠ (.slice (some ad323) x3_1.length co40 : Value).ownBlock ∧ k_ ≠ gb328 ∧ k_ ≠ gb329) (.slice (some ad324) (rd_L3 x3_1 (ji25)).length c323_0) (rd_L3 x3_1 (ji25))) := ⟨h2_⟩
   have n3_ : Aside0 (Kd.V k46 46 w44 w.heap.size (fun k_ => ((P0_1_ k_) ∧ k_ < w.heap.size) ∧ some k_ ≠ (.slice (some ad323) x3_1.length co40 : Value).ownBlock ∧ k_ ≠ gb303 ∧ k_ ≠ gb328 ∧ k_ ≠ gb329) (.slice Ao38 y307.length co38) y307) := ⟨h3_⟩
   have n4_ : Aside0 (Kd.V k46 46 w44 w.heap.size (fun k_ => ((P0_1_ k_) ∧ k_ < w.heap.size) ∧ some k_ ≠ (.slice (some ad323) x3_1.length co40 : Value).ownBlock ∧ k_ ≠ gb303 ∧ k_ ≠ gb328 ∧ k_ ≠ gb329) (.slice A39 y312.length c39) y312) := ⟨h4_⟩
   have n5_ : Aside0 (Kd.S (Kd.slice 46 k46) 29 w44 w.heap.size (fun k_ => (w.heap.size ≤ k_) ∧ k_ ≠ gb328 ∧ k_ ≠ gb329) (.slice (some ad323) x3_1.length co40) x3_1) := ⟨h5_⟩
   have n6_ : Aside0 (Kd.V k46 46 w44 w.heap.size (fun k_ => ((P0_1_ k_) ∧ k_ < w.heap.size) ∧ some k_ ≠ (.slice (some ad323) x3_1.length co40 : Value).ownBlock ∧ k_ ≠ gb303 ∧ k_ ≠ gb328 ∧ k_ ≠ gb329) (.slice A0_1 l0_1.length c0_1) l0_1) := ⟨h6_⟩
   have n7_ : Aside0 (Kd.V k46 46 w44 w.heap.size (fun k_ => ((P0_1_ k_) ∧ k_ < w.heap.size) ∧ some k_ ≠ (.slice (some ad323) x3_1.length co40 : Value).ownBlock ∧ k_ ≠ gb303 ∧ k_ ≠ gb328 ∧ k_ ≠ gb329) (.slice Ao38 x4_1.length co38) x4_1) := ⟨h7_⟩
   have n8_ : Aside0 (w44.cell? (ad323.add ((ji25)).toNat) = some (.slice (some ad324) (rd_L3 x3_1 (ji25)).length c323_0)) := ⟨h8_⟩
   have n9_ : Aside0 (w44.cell? (ad323.add ((ji25)).toNat) = some (.slice (some ad324) (rd_L3 x3_1 (ji25)).length c323_0)) := ⟨h9_⟩
   have n10_ : Aside0 (w44.cell? (ad323.add ((ji25)).toNat) = some (.slice (some ad324) (rd_L3 x3_1 (ji25)).length c323_0)) := ⟨h10_⟩
   have n11_ : Aside0 (w44.heap[gb303]? = some (.cells #[.slice (some ad305) l0_0.length c0_0, .slice A0_1 l0_1.length c0_1] 31 (0, 0))) := ⟨h11_⟩
   have n12_ : Aside0 (w44.heap[gb328]? = some (.cells #[.int .i64 0, .int .i64 0] 46 (0, 0))) := ⟨h12_⟩
   have n13_ : Aside0 (w44.heap[gb329]? = some (.cells #[.int .i64 0, .int .i64 0] 46 (0, 0))) := ⟨h13_⟩
   have n14_ : Aside0 (w.heap.size ≤ gb328) := ⟨h14_⟩
   have n15_ : Aside0 (w.heap.size ≤ gb328) := ⟨h15_⟩
   have n16_ : Aside0 (gb303 ≠ gb328) := ⟨h16_⟩
   have n17_ : Aside0 (gb328 ≠ gb303) := ⟨h17_⟩
   have n18_ : Aside0 (gb329 ≠ gb328) := ⟨h18_⟩
   have n19_ : Aside0 (gb328 ≠ gb329) := ⟨h19_⟩
   have n20_ : Aside0 (w.heap.size ≤ gb329) := ⟨h20_⟩
   have n21_ : Aside0 (w.heap.size ≤ gb329) := ⟨h21_⟩
   have n22_ : Aside0 (gb303 ≠ gb329) := ⟨h22_⟩
   have n23_ : Aside0 (gb329 ≠ gb303) := ⟨h23_⟩
   have n24_ : Aside0 (Below w.heap.size w w44) := ⟨h24_⟩
   clear HO_3 HO_4 HO_304001 HO311 HO316 BK303 HB h0_ h1_ h2_ h3_ h4_ h5_ h6_ h7_ h8_ h9_ h10_ h11_ h12_ h13_ h14_ h15_ h16_ h17_ h18_ h19_ h20_ h21_ h22_ h23_ h24_; have HL323_0 := n0_; have HL325_0 := n1_; have HL326_0 := n2_; have HO311 := n3_; have HO316 := n4_; have HO_3 := n5_; have HO_304001 := n6_; have HO_4 := n7_; have HX323_0 := n8_; have HX325_0 := n9_; have HX326_0 := n10_; have BK303 := n11_; have BK328 := n12_; have BK329 := n13_; have GW328 := n14_; have GE328 := n15_; have NB303_328 := n16_; have NB328_303 := n17_; have NB329_328 := n18_; have NB328_329 := n19_; have GW329 := n20_; have GE329 := n21_; have NB303_329 := n22_; have NB329_303 := n23_; have HB := n24_; clear n0_ n1_ n2_ n3_ n4_ n5_ n6_ n7_ n8_ n9_ n10_ n11_ n12_ n13_ n14_ n15_ n16_ n17_ n18_ n19_ n20_ n21_ n22_ n23_ n24_
   have hHeld : w44.cell? (ad323.add ((ji25)).toNat) = some (.slice (some ad324) (rd_L3 x3_1 (ji25)).length c323_0) ∧ w44.cell? ad324 = some (.int .i64 ((rd_T46 (rd_L3 x3_1 (ji25)) 0).f0)) ∧ w44.cell? ⟨ad324.block, ad324.off + 1, none⟩ = some (.int .i64 ((rd_T46 (rd_L3 x3_1 (ji25)) 0).f1)) ∧ w44.cell? (ad323.add ((ji25)).toNat) = some (.slice (some ad324) (rd_L3 x3_1 (ji25)).length c323_0) ∧ w44.cell? (ad323.add ((ji25)).toNat) = some (.slice (some ad324) (rd_L3 x3_1 (ji25)).length c323_0) ∧ w44.cell? (ad324.add (((ji29)).toNat * 2)) = some (.int .i64 ((rd_T46 (rd_L3 x3_1 (ji25)) (ji29)).f0)) ∧ w44.cell? ⟨(ad324.add (((ji29)).toNat * 2)).block, (ad324.add (((ji29)).toNat * 2)).off + 1, none⟩ = some (.int .i64 ((rd_T46 (rd_L3 x3_1 (ji25)) (ji29)).f1)) := hS_
   refine norm_ (a' := ?_) ?_ ?_
   rotate_left
   ·simp only [putAll, Act.put, List.setIfInBounds_toArray, List.set_cons_zero, List.set_cons_succ]
    rfl
   refine one_ (i := 17) (N := none) y9_39 rfl rfl (one_of HT_.out (by kernel_rfl)) (by decide) (fun K hK => ?_)
   have hs45 : w44.cell? ⟨gb328, 0, none⟩ = some (.int .i64 0) := (blk_cell BK328.out 0).trans rfl
   have hfs45 := blk_frozen BK328.out 0
   have hns45_0 := NB303_328.out; have hns45_2 := NB329_328.out; have hms45_0 := NB328_303.out; have hms45_2 := NB328_329.out
   have hs46 : w44.cell? ⟨gb328, 1, none⟩ = some (.int .i64 0) := (blk_cell BK328.out 1).trans rfl
   have hfs46 := blk_frozen BK328.out 1
   have hns46_0 := NB303_328.out; have hns46_2 := NB329_328.out; have hms46_0 := NB328_303.out; have hms46_2 := NB328_329.out
   refine skip_ (w1 := ?_) ?hwx ?hN ?_ ?_; (case hwx => rfl); (case hN => rfl)
   rotate_left
   ·go_simp
    rfl
   refine hK.out _ _ ⟨(by refine (cell_far (p := ⟨gb328, _, none⟩) ?_ _).trans ((cell_far (p := ⟨gb328, _, none⟩) ?_ _).trans (hHeld.1)) <;> ((try dsimp only); exact z9_39)), (by refine (cell_far (p := ⟨gb328, _, none⟩) ?_ _).trans ((cell_far (p := ⟨gb328, _, none⟩) ?_ _).trans (hHeld.2.1)) <;> ((try dsimp only); exact z9_42)), (by refine (cell_far (p := ⟨gb328, _, none⟩) ?_ _).trans ((cell_far (p := ⟨gb328, _, none⟩) ?_ _).trans (hHeld.2.2.1)) <;> ((try dsimp only); exact z9_42)), (by refine (cell_far (p := ⟨gb328, _, none⟩) ?_ _).trans ((cell_far (p := ⟨gb328, _, none⟩) ?_ _).trans (hHeld.2.2.2.1)) <;> ((try dsimp only); exact z9_39)), (by refine (cell_far (p := ⟨gb328, _, none⟩) ?_ _).trans ((cell_far (p := ⟨gb328, _, none⟩) ?_ _).trans (hHeld.2.2.2.2.1)) <;> ((try dsimp only); exact z9_39)), (by refine (cell_far (p := ⟨gb328, _, none⟩) ?_ _).trans ((cell_far (p := ⟨gb328, _, none⟩) ?_ _).trans (hHeld.2.2.2.2.2.1)) <;> ((try dsimp only); exact z9_43)), (by refine (cell_far (p := ⟨gb328, _, none⟩) ?_ _).trans ((cell_far (p := ⟨gb328, _, none⟩) ?_ _).trans (hHeld.2.2.2.2.2.2)) <;> ((try dsimp only); exact z9_43))⟩ (fun hHeld => ?_)
   clear hK K
   refine one_ (i := 18) (N := none) y9_40 rfl rfl (one_of HT_.out (by kernel_rfl)) (by decide) (fun K hK => ?_)
   have hs47 : w44.cell? ⟨gb329, 0, none⟩ = some (.int .i64 0) := (blk_cell BK329.out 0).trans rfl
   have hfs47 := blk_frozen BK329.out 0
   have hns47_0 := NB303_329.out; have hns47_1 := NB328_329.out; have hms47_0 := NB329_303.out; have hms47_1 := NB329_328.out
   have hs48 : w44.cell? ⟨gb329, 1, none⟩ = some (.int .i64 0) := (blk_cell BK329.out 1).trans rfl
   have hfs48 := blk_frozen BK329.out 1
   have hns48_0 := NB303_329.out; have hns48_1 := NB328_329.out; have hms48_0 := NB329_303.out; have hms48_1 := NB329_328.out
   refine skip_ (w1 := ?_) ?hwx ?hN ?_ ?_; (case hwx => rfl); (case hN => rfl)
   rotate_left
   ·go_simp
    rfl
   refine hK.out _ _ ⟨(by refine (cell_far (p := ⟨gb329, _, none⟩) ?_ _).trans ((cell_far (p := ⟨gb329, _, none⟩) ?_ _).trans (hHeld.1)) <;> ((try dsimp only); exact z9_40)), (by refine (cell_far (p := ⟨gb329, _, none⟩) ?_ _).trans ((cell_far (p := ⟨gb329, _, none⟩) ?_ _).trans (hHeld.2.1)) <;> ((try dsimp only); exact z9_44)), (by refine (cell_far (p := ⟨gb329, _, none⟩) ?_ _).trans ((cell_far (p := ⟨gb329, _, none⟩) ?_ _).trans (hHeld.2.2.1)) <;> ((try dsimp only); exact z9_44)), (by refine (cell_far (p := ⟨gb329, _, none⟩) ?_ _).trans ((cell_far (p := ⟨gb329, _, none⟩) ?_ _).trans (hHeld.2.2.2.1)) <;> ((try dsimp only); exact z9_40)), (by refine (cell_far (p := ⟨gb329, _, none⟩) ?_ _).trans ((cell_far (p := ⟨gb329, _, none⟩) ?_ _).trans (hHeld.2.2.2.2.1)) <;> ((try dsimp only); exact z9_40)), (by refine (cell_far (p := ⟨gb329, _, none⟩) ?_ _).trans ((cell_far (p := ⟨gb329, _, none⟩) ?_ _).trans (hHeld.2.2.2.2.2.1)) <;> ((try dsimp only); exact z9_45)), (by refine (cell_far (p := ⟨gb329, _, none⟩) ?_ _).trans ((cell_far (p := ⟨gb329, _, none⟩) ?_ _).trans (hHeld.2.2.2.2.2.2)) <;> ((try dsimp only); exact z9_45))⟩ (fun hHeld => ?_)
   clear hK K
   refine done_ (done_of HT_.out (by kernel_rfl)) ?_
   have hnb49 := NB328_303.out; have hnc49 := NB303_328.out; have hnb50 := NB328_329.out; have hnc50 := NB329_328.out
   obtain ⟨_, _, _, _⟩ := be_2 BK328.out
   have hnb52 := NB329_303.out; have hnc52 := NB303_329.out
   obtain ⟨_, _, _, _⟩ := be_2 BK329.out
   try go_wp2
   obtain ⟨w54, hw_⟩ : ∃ w_ : World, w_ = ((((w44.setCell ⟨gb328, 0, none⟩ (.int .i64 ((rd_T46 (rd_L3 x3_1 (ji25)) 0).f0))).setCell ⟨gb328, 1, none⟩ (.int .i64 ((rd_T46 (rd_L3 x3_1 (ji25)) 0).f1))).setCell ⟨gb329, 0, none⟩ (.int .i64 ((rd_T46 (rd_L3 x3_1 (ji25)) (ji29)).f0))).setCell ⟨gb329, 1, none⟩ (.int .i64 ((rd_T46 (rd_L3 x3_1 (ji25)) (ji29)).f1))) := ⟨_, rfl⟩
   have n0_ : Aside0 (Kd.S (Kd.slice 46 k46) 29 w54 w.heap.size (fun k_ => (w.heap.size ≤ k_) ∧ k_ ≠ gb328 ∧ k_ ≠ gb329) (.slice (some ad323) x3_1.length co40) x3_1) := ⟨z9_57⟩
   have n1_ : Aside0 (Kd.V k46 46 w54 w.heap.size (fun k_ => ((P0_1_ k_) ∧ k_ < w.heap.size) ∧ some k_ ≠ (.slice (some ad323) x3_1.length co40 : Value).ownBlock ∧ k_ ≠ gb303 ∧ k_ ≠ gb328 ∧ k_ ≠ gb329) (.slice Ao38 x4_1.length co38) x4_1) := ⟨z9_53⟩
   have n2_ : Aside0 (Kd.V k46 46 w54 w.heap.size (fun k_ => ((P0_1_ k_) ∧ k_ < w.heap.size) ∧ some k_ ≠ (.slice (some ad323) x3_1.length co40 : Value).ownBlock ∧ k_ ≠ gb303 ∧ k_ ≠ gb328 ∧ k_ ≠ gb329) (.slice A0_1 l0_1.length c0_1) l0_1) := ⟨z9_49⟩
   have n3_ : Aside0 (Kd.V k46 46 w54 w.heap.size (fun k_ => ((P0_1_ k_) ∧ k_ < w.heap.size) ∧ some k_ ≠ (.slice (some ad323) x3_1.length co40 : Value).ownBlock ∧ k_ ≠ gb303 ∧ k_ ≠ gb328 ∧ k_ ≠ gb329) (.slice Ao38 y307.length co38) y307) := ⟨z9_51⟩
   have n4_ : Aside0 (Kd.V k46 46 w54 w.heap.size (fun k_ => ((P0_1_ k_) ∧ k_ < w.heap.size) ∧ some k_ ≠ (.slice (some ad323) x3_1.length co40 : Value).ownBlock ∧ k_ ≠ gb303 ∧ k_ ≠ gb328 ∧ k_ ≠ gb329) (.slice A39 y312.length c39) y312) := ⟨z9_52⟩
   have n5_ : Aside0 (Kd.R k46 46 w54 w.heap.size (fun k_ => (w.heap.size ≤ k_) ∧ some k_ ≠ (.slice (some ad323) x3_1.length co40 : Value).ownBlock ∧ k_ ≠ gb328 ∧ k_ ≠ gb329) (.slice (some ad324) (rd_L3 x3_1 (ji25)).length c323_0) (rd_L3 x3_1 (ji25))) := ⟨z9_54⟩
   have n6_ : Aside0 (Kd.R k46 46 w54 w.heap.size (fun k_ => (w.heap.size ≤ k_) ∧ some k_ ≠ (.slice (some ad323) x3_1.length co40 : Value).ownBlock ∧ k_ ≠ gb328 ∧ k_ ≠ gb329) (.slice (some ad324) (rd_L3 x3_1 (ji25)).length c323_0) (rd_L3 x3_1 (ji25))) := ⟨z9_55⟩
   have n7_ : Aside0 (Kd.R k46 46 w54 w.heap.size (fun k_ => (w.heap.size ≤ k_) ∧ some k_ ≠ (.slice (some ad323) x3_1.length co40 : Value).ownBlock ∧ k_ ≠ gb328 ∧ k_ ≠ gb329) (.slice (some ad324) (rd_L3 x3_1 (ji25)).length c323_0) (rd_L3 x3_1 (ji25))) := ⟨z9_56⟩
   have n8_ : Aside0 (w54.heap[gb303]? = some (.cells #[.slice (some ad305) l0_0.length c0_0, .slice A0_1 l0_1.length c0_1] 31 (0, 0))) := ⟨z9_58⟩
   have n9_ : Aside0 (w54.heap[gb328]? = some (.cells #[.int .i64 ((rd_T46 (rd_L3 x3_1 (ji25)) 0).f0), .int .i64 ((rd_T46 (rd_L3 x3_1 (ji25)) 0).f1)] 46 (0, 0))) := ⟨z9_50⟩
   have n10_ : Aside0 (w54.heap[gb329]? = some (.cells #[.int .i64 ((rd_T46 (rd_L3 x3_1 (ji25)) (ji29)).f0), .int .i64 ((rd_T46 (rd_L3 x3_1 (ji25)) (ji29)).f1)] 46 (0, 0))) := ⟨z9_48⟩
   have n11_ : Aside0 (Below w.heap.size w w54) := ⟨(by rw [hw_]; exact z9_34)⟩
   (try clear HO_3); (try clear HO_4); (try clear HO_304001); (try clear HO311); (try clear HO316); (try clear HL323_0); (try clear HL325_0); (try clear HL326_0); (try clear BK303); (try clear BK328); (try clear BK329); (try clear HB)
   rw [← hw_]; clear hw_; have HO_3 := n0_; have HO_4 := n1_; have HO_304001 := n2_; have HO311 := n3_; have HO316 := n4_; have HL323_0 := n5_; have HL325_0 := n6_; have HL326_0 := n7_; have BK303 := n8_; have BK328 := n9_; have BK329 := n10_; have HB := n11_; clear n0_ n1_ n2_ n3_ n4_ n5_ n6_ n7_ n8_ n9_ n10_ n11_
   have n0_ := mk0 (Kd.S_drew HO_3.out)
   have n1_ := mk0 (Kd.V_drew HO_4.out)
   have n2_ := mk0 (Kd.V_drew HO_304001.out)
   have n3_ := mk0 (Kd.V_drew HO311.out)
   have n4_ := mk0 (Kd.V_drew HO316.out)
   have n5_ := mk0 (Kd.R_drew HL323_0.out)
   have n6_ := mk0 (Kd.R_drew HL325_0.out)
   have n7_ := mk0 (Kd.R_drew HL326_0.out)
   have n8_ := mk0 (blk_drew BK303.out)
   have n9_ := mk0 (blk_drew BK328.out)
   have n10_ := mk0 (blk_drew BK329.out)
   have n11_ := mk0 (below_drew1 HB.out)
   clear HO_3 HO_4 HO_304001 HO311 HO316 HL323_0 HL325_0 HL326_0 BK303 BK328 BK329 HB; have HO_3 := n0_; have HO_4 := n1_; have HO_304001 := n2_; have HO311 := n3_; have HO316 := n4_; have HL323_0 := n5_; have HL325_0 := n6_; have HL326_0 := n7_; have BK303 := n8_; have BK328 := n9_; have BK329 := n10_; have HB := n11_; clear n0_ n1_ n2_ n3_ n4_ n5_ n6_ n7_ n8_ n9_ n10_ n11_
   have p330 : 0 ≤ ((ji25) : Int) := of_decide_eq_true (by first | (with_reducible assumption) | assumption)
   have q330 : (ji25) < (x3_1.length : Int) := of_decide_eq_true (by first | (with_reducible assumption) | assumption)
   obtain ⟨ad330, A330_0, c330_0, e330, hx330_0, hl330_0, hi330_0⟩ := at_L3 (Kd.S_reads' HO_3.out).2.2 (ji25) p330 q330
   obtain rfl : ad323 = ad330 := (by injection e330)
   obtain ⟨ce330, hce330, hMe330, hcc330⟩ := Kd.S_get HO_3.out [] (ji25) p330 (by first | exact q330 | exact of_decide_eq_true (by first | (with_reducible assumption) | assumption) | (have e_ := (Kd.S_reads' HO_3.out).1; omega))
   obtain ⟨ve330_0, rfl, ge330_0⟩ := hMe330
   have hv330_0 := hcc330 0 _ rfl
   rw [Nat.add_zero, show ((Kd.slice 46 k46)).sz = 1 from rfl, Nat.mul_one] at hv330_0
   replace hv330_0 := Option.some.inj (hv330_0.symm.trans hx330_0)
   rw [hv330_0] at ge330_0
   have HL330_0 := mk0 (show Kd.R k46 46 _ _ _ _ (rd_L3 x3_1 (ji25)) from ge330_0)
   clear hv330_0 ge330_0
   have HX330_0 := mk0 hx330_0
   clear hcc330 hce330
   have HR330_0 := mk0 hi330_0
   have HC330_0 := mk0 hl330_0
   clear hi330_0 hl330_0
   replace p330 := eq_true p330
   replace q330 := eq_true q330
   obtain ⟨go56, co56, eo56, gb56, gl56, cl56, HG56⟩ := Kd.S_form HO_3.out (by have h_ : ((ji25) : Int) < ((x3_1.length : Int) : Int) := of_decide_eq_true (by first | (with_reducible assumption) | assumption); have h2_ : 0 ≤ ((ji25) : Int) := (of_decide_eq_true (by first | (with_reducible assumption) | assumption)); omega)
   (first | cases eo56 | (injection eo56 with ea_ en_ ec_; (first | subst ea_ | (injection ea_ with ea_; subst ea_)); subst ec_; clear en_))
   have GB56 := mk0 gb56
   have GG56 := mk0 HG56
   clear gb56 gl56 HG56
   (first | simp only [add_plain] at hx323_0 | skip)
   (first | simp only [add_plain] at hx325_0 | skip)
   (first | simp only [add_plain] at hx326_0 | skip)
   (first | simp only [add_plain] at hx330_0 | skip)
   obtain ⟨oki56, ce56, hcl56, hM56, hcc56, _, _, hH56⟩ := Kd.S_elem HO_3.out [] ((ji25) : Int) (of_decide_eq_true (by first | (with_reducible assumption) | assumption)) (by have h_ : ((ji25) : Int) < ((x3_1.length : Int) : Int) := of_decide_eq_true (by first | (with_reducible assumption) | assumption); first | exact h_ | (have e_ := (Kd.S_reads' HO_3.out).1; omega) | simpa using h_)
   obtain ⟨ve56_0, rfl, ge56_0⟩ := hM56
   have hv56 := hcc56 0 _ rfl
   have hX56 := HX330_0.out
   (try simp only [add_plain] at hX56)
   (try simp only [Nat.add_zero] at hv56)
   (try rw [show ((Kd.slice 46 k46)).sz = 1 from rfl, Nat.mul_one] at hv56)
   replace hv56 := Option.some.inj (hv56.symm.trans hX56)
   subst hv56; clear hX56 hcc56 hcl56
   have UU56 := mk0 (show Kd.R k46 46 _ w.heap.size oki56 (.slice A330_0 (rd_L3 x3_1 (ji25)).length c330_0) (rd_L3 x3_1 (ji25)) from ge56_0)
   have HH56 := mk0 hH56
   have HN56 := mk0 (Kd.S_reads' HO_3.out).1
   clear hH56 ge56_0
   refine start_ (n := 9) (S := fun w' => w'.cell? ⟨gb328, 0, none⟩ = some (.int .i64 ((rd_T46 (rd_L3 x3_1 (ji25)) 0).f0)) ∧ w'.cell? ⟨gb328, 1, none⟩ = some (.int .i64 ((rd_T46 (rd_L3 x3_1 (ji25)) 0).f1)) ∧ w'.cell? ⟨go56, ((ji25)).toNat, none⟩ = some (.slice A330_0 (rd_L3 x3_1 (ji25)).length c330_0)) (ds := [8]) #[false, false, false, false, false, false, false, false, false] (by kernel_rfl) rfl rfl ⟨(blk_cell BK328.out 0).trans rfl, (blk_cell BK328.out 1).trans rfl, hx330_0⟩ (fun hHeld => ?_); refine with_tabW impl_FlatOf.tab16 impl_FlatOf.bits16 (fun HT_ HW_ => ?_)
   generalize w54.drew = w55 at HO_3 HO_4 HO_304001 HO311 HO316 HL323_0 HL325_0 HL326_0 BK303 BK328 BK329 HB GG56 HH56 HL330_0 HR330_0 HX330_0 UU56 hx323_0 hx325_0 hx326_0 hx330_0 hHeld ⊢
   refine pzv (i := 0) (N := 68) (v := ?_) (a' := ?_) (bA 9 1) HT_ ?_ ?_ ?_
   rotate_left
   ·intro w'
    go_simp; with_reducible rfl
   rotate_left
   ·exact x9_put
   refine pzv (i := 1) (N := 69) (v := ?_) (a' := ?_) (bA 9 3) HT_ ?_ ?_ ?_
   rotate_left
   ·intro w'
    go_simp; with_reducible rfl
   rotate_left
   ·exact x9_put
   refine pzv (i := 2) (N := 70) (v := ?_) (a' := ?_) (bA 9 7) HT_ ?_ ?_ ?_
   rotate_left
   ·intro w'
    go_simp; with_reducible rfl
   rotate_left
   ·exact x9_put
   refine take_ (i := 3) (N := some 71) (v := ?_) (a' := ?_) (bA 9 15) rfl rfl (take_ofW HT_.out HW_.out (by kernel_rfl)) (fun _ _ _ h => h) (Or.inl ⟨by rfl, ?_⟩) hHeld ?_ ?_
   rotate_left
   ·rintro w' ⟨s0, s1, s2⟩
    go_simp; with_reducible rfl
   rotate_left
   ·exact x9_put
   refine take_ (i := 4) (N := some 72) (v := ?_) (a' := ?_) (bA 9 31) rfl rfl (take_ofW HT_.out HW_.out (by kernel_rfl)) (fun _ _ _ h => h) (Or.inl ⟨by rfl, ?_⟩) hHeld ?_ ?_
   rotate_left
   ·rintro w' ⟨s0, s1, s2⟩
    go_simp; with_reducible rfl
   rotate_left
   ·exact x9_put
   refine one_ (i := 5) (N := some 73) (bA 9 63) rfl rfl (one_of HT_.out (by kernel_rfl)) (by decide) (fun K hK => ?_)
   refine value_ (w1 := ?_) (v := ?_) (by rfl) rfl ?_ ?_
   rotate_left 2
   ·go_simp
    constructor
    ·rfl
    rfl
   refine hK.out _ _ ⟨(blk_cell (blk_alloc BK328.out _) 0).trans rfl, (blk_cell (blk_alloc BK328.out _) 1).trans rfl, (World.cell?_alloc_lt _ _ _ (World.block_lt_of_cell? _ _ (hHeld.2.2))).trans (hHeld.2.2)⟩ (fun hHeld => ?_)
   clear hK K
   refine norm_ (a' := ?_) ?_ ?_
   rotate_left
   ·show Act.put _ (some 73) _ = _
    simp only [Act.put, List.setIfInBounds_toArray, List.set_cons_zero, List.set_cons_succ, i64_w, i32_w]
    rfl
   refine one_ (i := 6) (N := some 74) (bA 9 127) rfl rfl (one_of HT_.out (by kernel_rfl)) (by decide) (fun K hK => ?_)
   refine Kd.R_append_step k46 (w0 := w) w.heap.size (by rfl) (.tmp 71) (.tmp 73) 29 46 (.agg #[(.int .i64 0), (.int .i64 0)]) 16 rfl Try.underlying29 info46 rfl (by decide) (by omega) (.slice A330_0 (rd_L3 x3_1 (ji25)).length c330_0) (rd_L3 x3_1 (ji25)) (⟨(rd_T46 (rd_L3 x3_1 (ji25)) 0).f0, (rd_T46 (rd_L3 x3_1 (ji25)) 0).f1⟩ : S46) [.int .i64 ((rd_T46 (rd_L3 x3_1 (ji25)) 0).f0), .int .i64 ((rd_T46 (rd_L3 x3_1 (ji25)) 0).f1)] (fun k_ => oki56 k_ ∨ ((fun k_ => (w.heap.size ≤ k_) ∧ k_ ≠ gb328 ∧ k_ ≠ gb329)) k_ ∧ w55.heap.size ≤ k_) (fun _ => False) rfl rfl ?aP (fun _ hk => hk.elim) ?aF ?aO ?aB ?aS ?aL ?_
   (case aP => exact k46_mkM _ _ _ (⟨(rd_T46 (rd_L3 x3_1 (ji25)) 0).f0, (rd_T46 (rd_L3 x3_1 (ji25)) 0).f1⟩ : S46))
   (case aB => exact z9_34)
   (case aF => exact (fun k_ hk => .inr ⟨⟨(Nat.le_trans (below_size z9_34) hk), Kd.freshB (g := gb328) (o := .cells #[.int .i64 ((rd_T46 (rd_L3 x3_1 (ji25)) 0).f0), .int .i64 ((rd_T46 (rd_L3 x3_1 (ji25)) 0).f1)] 46 (0, 0)) (pkb BK328) k_ hk, Kd.freshB (g := gb329) (o := .cells #[.int .i64 ((rd_T46 (rd_L3 x3_1 (ji25)) (ji29)).f0), .int .i64 ((rd_T46 (rd_L3 x3_1 (ji25)) (ji29)).f1)] 46 (0, 0)) (pkb BK329) k_ hk⟩, hk⟩))
   (case aO => exact (by (with_reducible repeat (first | apply Kd.R_alloc | apply Kd.R_drewN | apply Kd.R_drew)); exact Kd.R_mono UU56.out (fun _ hk => .inl hk)))
   (case aS => exact (below_size z9_34))
   (case aL => have := LMc34.out; omega)
   intro v332 w57 ho hb hg hat
   (first | have HS2_ := cell_grown hg (hHeld.2.2) z9_94 | have HS2_ := cell_grown hg (cell_unalloc (hHeld.2.2) z9_62) z9_94)
   rw [← Ny331.out] at ho
   have n0_ := mk0 (Kd.V_grown (pkV HO_4) hg z9_93)
   have n1_ := mk0 (Kd.V_grown (pkV HO_304001) hg z9_93)
   have n2_ := mk0 (blk_grown (g := gb303) (o := .cells #[.slice (some ad305) l0_0.length c0_0, .slice A0_1 l0_1.length c0_1] 31 (0, 0)) (pkb BK303) hg (Kd.R_ne HL330_0.out BK303.out (by decide)))
   have n3_ := mk0 (Kd.V_grown (pkV HO311) hg z9_93)
   have n4_ := mk0 (Kd.V_grown (pkV HO316) hg z9_93)
   have n5_ := mk0 (blk_grown (g := gb328) (o := .cells #[.int .i64 ((rd_T46 (rd_L3 x3_1 (ji25)) 0).f0), .int .i64 ((rd_T46 (rd_L3 x3_1 (ji25)) 0).f1)] 46 (0, 0)) (pkb BK328) hg (Kd.R_away HL330_0.out (fun _ hk => hk.1.2.1)))
   have n6_ := mk0 (blk_grown (g := gb329) (o := .cells #[.int .i64 ((rd_T46 (rd_L3 x3_1 (ji25)) (ji29)).f0), .int .i64 ((rd_T46 (rd_L3 x3_1 (ji25)) (ji29)).f1)] 46 (0, 0)) (pkb BK329) hg (Kd.R_away HL330_0.out (fun _ hk => hk.1.2.2)))
   have n7_ := mk0 (hb)
   have n8_ := mk0 (Kd.H_grown (Kd.H_widen (by repeat (first | exact HH56.out | refine Kd.H_alloc ?_ _ | refine Kd.H_drewN ?_ _ | refine Kd.H_drew ?_))) hg (fun k_ e_ => .inl (UU56.out.1 k_ e_)))
   have n9_ := mk0 (ho)
   clear HO_4 HO_304001 BK303 HO311 HO316 BK328 BK329 HB HH56 HO_3 UU56 HL323_0 HL325_0 HL326_0 HL330_0; have HO_4 := n0_; have HO_304001 := n1_; have BK303 := n2_; have HO311 := n3_; have HO316 := n4_; have BK328 := n5_; have BK329 := n6_; have HB := n7_; have HH56 := n8_; have HO333 := n9_; clear n0_ n1_ n2_ n3_ n4_ n5_ n6_ n7_ n8_ n9_ ho hb hg hat
   obtain ⟨Ao60, co60, eo60⟩ := Kd.R_slice HO333.out
   (first | subst eo60 | (injection eo60 with f1_ f2_ f3_; have f4_ := f1_.symm; have f5_ := f3_.symm; clear f1_ f2_ f3_; subst f4_; subst f5_))
   obtain ⟨_, _, hraw58, _, _, hcc58, _⟩ := Kd.H_raw HH56.out (of_decide_eq_true (by first | (with_reducible assumption) | assumption)) (by have h_ : ((ji25) : Int) < ((x3_1.length : Int) : Int) := of_decide_eq_true (by first | (with_reducible assumption) | assumption); first | exact h_ | (have e_ := (HN56.out); omega) | simpa using h_)
   obtain ⟨_, hfr58⟩ := Kd.H_at HH56.out (of_decide_eq_true (by first | (with_reducible assumption) | assumption)) (by have h_ : ((ji25) : Int) < ((x3_1.length : Int) : Int) := of_decide_eq_true (by first | (with_reducible assumption) | assumption); first | exact h_ | (have e_ := (HN56.out); omega) | simpa using h_)
   have hx58_0 := hcc58 0 _ rfl
   have hf58_0 := hfr58 0
   (try simp only [Nat.add_zero] at hx58_0 hf58_0)
   (try rw [show ((Kd.slice 46 k46)).sz = 1 from rfl, Nat.mul_one] at hx58_0)
   (try rw [show ((Kd.slice 46 k46)).sz = 1 from rfl, Nat.mul_one] at hf58_0)
   have HP58 := Kd.S_seg0 HH56.out (of_decide_eq_true (by first | (with_reducible assumption) | assumption)) (by have h_ : ((ji25) : Int) < ((x3_1.length : Int) : Int) := of_decide_eq_true (by first | (with_reducible assumption) | assumption); first | exact h_ | (have e_ := (HN56.out); omega) | simpa using h_) (seg := [.slice Ao60 y331.length co60]) (j := 0) (show 1 ≤ 1 from by decide) (x' := y331) (Kd.M_row HO333.out) (fun _ hk => hk)
   (try simp only [show ((Kd.slice 46 k46)).sz = 1 from rfl, Nat.mul_one, Nat.add_zero] at HP58)
   clear hcc58 hfr58
   have HNB303_go56 := mk0 (show gb303 ≠ go56 from by have h_ := Kd.R_ne hraw58 BK303.out (by decide); intro e_; exact h_ (by rw [e_]; rfl))
   have HNB328_go56 := mk0 (show gb328 ≠ go56 from by have h_ := Kd.R_ne hraw58 BK328.out (by decide); intro e_; exact h_ (by rw [e_]; rfl))
   have HNB329_go56 := mk0 (show gb329 ≠ go56 from by have h_ := Kd.R_ne hraw58 BK329.out (by decide); intro e_; exact h_ (by rw [e_]; rfl))
   have HS58 := HP58.1
   rw [← Ny334.out] at HS58
   have HQ58 := mk0 HS58
   obtain ⟨_, hgg58⟩ := Kd.R_typed hraw58 go56 rfl
   have GG58_ := mk0 hgg58
   clear HP58 HS58 hgg58
   refine hK.out _ _ ⟨(blk_cell BK328.out 0).trans rfl, (blk_cell BK328.out 1).trans rfl, HS2_⟩ (fun hHeld => ?_)
   clear hK K
   refine norm_ (a' := ?_) ?_ ?_
   rotate_left
   ·show Act.put _ (some 74) _ = _
    simp only [Act.put, List.setIfInBounds_toArray, List.set_cons_zero, List.set_cons_succ, i64_w, i32_w]
    rfl
   refine pzv (i := 7) (N := 75) (v := ?_) (a' := ?_) (bA 9 255) HT_ ?_ ?_ ?_
   rotate_left
   ·intro w'
    go_simp; with_reducible rfl
   rotate_left
   ·exact x9_put
   refine last_ (i := 8) (N := none) (bA 9 511) rfl rfl (one_of HT_.out (by kernel_rfl)) (by decide) (fun K hK => ?_)
   refine skip_ (w1 := ?_) ?hwx ?hN ?_ ?_; (case hwx => rfl); (case hN => rfl)
   rotate_left
   ·go_simp
    rfl
   refine hK.out _ _ ?_
   clear hK K
   refine done_ (done_of HT_.out (by kernel_rfl)) ?_
   try go_wp2
   obtain ⟨w61, hw_⟩ : ∃ w_ : World, w_ = (w57.setCell ⟨go56, ((ji25) : Int).toNat, none⟩ (.slice Ao60 y331.length co60)) := ⟨_, rfl⟩
   have n0_ : Aside0 (Kd.V k46 46 w61 w.heap.size (fun k_ => ((P0_1_ k_) ∧ k_ < w.heap.size) ∧ some k_ ≠ (.slice (some ⟨go56, 0, none⟩) x3_1.length co40 : Value).ownBlock ∧ k_ ≠ gb303 ∧ k_ ≠ gb328 ∧ k_ ≠ gb329) (.slice Ao38 x4_1.length co38) x4_1) := ⟨(by rw [hw_]; exact (by (with_reducible repeat (first | apply Kd.V_alloc | apply Kd.V_drewN | apply Kd.V_drew)); exact Kd.V_mono (Kd.V_far (p := ⟨go56, ((ji25) : Int).toNat, none⟩) (Kd.V_mono HO_4.out (fun k_ hk => (⟨hk, fun e_ => hk.2.1 (by rw [e_]; rfl)⟩ : _ ∧ k_ ≠ go56))) (fun _ hk => hk.2) (.slice Ao60 y331.length co60)) (fun _ hk => ⟨hk.1.1, ⟨hk.1.2.1, ⟨hk.1.2.2.1, ⟨hk.1.2.2.2.1, hk.1.2.2.2.2⟩⟩⟩⟩)))⟩
   have n1_ : Aside0 (Kd.V k46 46 w61 w.heap.size (fun k_ => ((P0_1_ k_) ∧ k_ < w.heap.size) ∧ some k_ ≠ (.slice (some ⟨go56, 0, none⟩) x3_1.length co40 : Value).ownBlock ∧ k_ ≠ gb303 ∧ k_ ≠ gb328 ∧ k_ ≠ gb329) (.slice A0_1 l0_1.length c0_1) l0_1) := ⟨(by rw [hw_]; exact (by (with_reducible repeat (first | apply Kd.V_alloc | apply Kd.V_drewN | apply Kd.V_drew)); exact Kd.V_mono (Kd.V_far (p := ⟨go56, ((ji25) : Int).toNat, none⟩) (Kd.V_mono HO_304001.out (fun k_ hk => (⟨hk, fun e_ => hk.2.1 (by rw [e_]; rfl)⟩ : _ ∧ k_ ≠ go56))) (fun _ hk => hk.2) (.slice Ao60 y331.length co60)) (fun _ hk => ⟨hk.1.1, ⟨hk.1.2.1, ⟨hk.1.2.2.1, ⟨hk.1.2.2.2.1, hk.1.2.2.2.2⟩⟩⟩⟩)))⟩
   have n2_ : Aside0 (Kd.V k46 46 w61 w.heap.size (fun k_ => ((P0_1_ k_) ∧ k_ < w.heap.size) ∧ some k_ ≠ (.slice (some ⟨go56, 0, none⟩) x3_1.length co40 : Value).ownBlock ∧ k_ ≠ gb303 ∧ k_ ≠ gb328 ∧ k_ ≠ gb329) (.slice Ao38 y307.length co38) y307) := ⟨(by rw [hw_]; exact (by (with_reducible repeat (first | apply Kd.V_alloc | apply Kd.V_drewN | apply Kd.V_drew)); exact Kd.V_mono (Kd.V_far (p := ⟨go56, ((ji25) : Int).toNat, none⟩) (Kd.V_mono HO311.out (fun k_ hk => (⟨hk, fun e_ => hk.2.1 (by rw [e_]; rfl)⟩ : _ ∧ k_ ≠ go56))) (fun _ hk => hk.2) (.slice Ao60 y331.length co60)) (fun _ hk => ⟨hk.1.1, ⟨hk.1.2.1, ⟨hk.1.2.2.1, ⟨hk.1.2.2.2.1, hk.1.2.2.2.2⟩⟩⟩⟩)))⟩
   have n3_ : Aside0 (Kd.V k46 46 w61 w.heap.size (fun k_ => ((P0_1_ k_) ∧ k_ < w.heap.size) ∧ some k_ ≠ (.slice (some ⟨go56, 0, none⟩) x3_1.length co40 : Value).ownBlock ∧ k_ ≠ gb303 ∧ k_ ≠ gb328 ∧ k_ ≠ gb329) (.slice A39 y312.length c39) y312) := ⟨(by rw [hw_]; exact (by (with_reducible repeat (first | apply Kd.V_alloc | apply Kd.V_drewN | apply Kd.V_drew)); exact Kd.V_mono (Kd.V_far (p := ⟨go56, ((ji25) : Int).toNat, none⟩) (Kd.V_mono HO316.out (fun k_ hk => (⟨hk, fun e_ => hk.2.1 (by rw [e_]; rfl)⟩ : _ ∧ k_ ≠ go56))) (fun _ hk => hk.2) (.slice Ao60 y331.length co60)) (fun _ hk => ⟨hk.1.1, ⟨hk.1.2.1, ⟨hk.1.2.2.1, ⟨hk.1.2.2.2.1, hk.1.2.2.2.2⟩⟩⟩⟩)))⟩
   have n4_ : Aside0 (Kd.S (Kd.slice 46 k46) 29 w61 w.heap.size (fun k_ => (w.heap.size ≤ k_) ∧ k_ ≠ gb328 ∧ k_ ≠ gb329) (.slice (some ⟨go56, 0, none⟩) x3_1.length co40) y334) := ⟨(by rw [hw_]; exact pkS HQ58)⟩
   have n5_ : Aside0 (w61.heap[gb303]? = some (.cells #[.slice (some ad305) l0_0.length c0_0, .slice A0_1 l0_1.length c0_1] 31 (0, 0))) := ⟨(by rw [hw_]; exact z9_86)⟩
   have n6_ : Aside0 (w61.heap[gb328]? = some (.cells #[.int .i64 ((rd_T46 (rd_L3 x3_1 (ji25)) 0).f0), .int .i64 ((rd_T46 (rd_L3 x3_1 (ji25)) 0).f1)] 46 (0, 0))) := ⟨(by rw [hw_]; exact (by (with_reducible repeat (first | refine blk_drewN ?_ _ | refine blk_drew ?_ | refine blk_alloc ?_ _)); refine blk_far ?_ HNB328_go56.out _; (with_reducible repeat (first | refine blk_drewN ?_ _ | refine blk_drew ?_ | refine blk_alloc ?_ _)); exact BK328.out))⟩
   have n7_ : Aside0 (w61.heap[gb329]? = some (.cells #[.int .i64 ((rd_T46 (rd_L3 x3_1 (ji25)) (ji29)).f0), .int .i64 ((rd_T46 (rd_L3 x3_1 (ji25)) (ji29)).f1)] 46 (0, 0))) := ⟨(by rw [hw_]; exact (by (with_reducible repeat (first | refine blk_drewN ?_ _ | refine blk_drew ?_ | refine blk_alloc ?_ _)); refine blk_far ?_ HNB329_go56.out _; (with_reducible repeat (first | refine blk_drewN ?_ _ | refine blk_drew ?_ | refine blk_alloc ?_ _)); exact BK329.out))⟩
   have n8_ : Aside0 (Below w.heap.size w w61) := ⟨(by rw [hw_]; exact z9_85)⟩
   (try clear HO_4); (try clear HO_304001); (try clear HO311); (try clear HO316); (try clear HO_3); (try clear BK303); (try clear BK328); (try clear BK329); (try clear HB)
   rw [← hw_]; clear hw_; have HO_4 := n0_; have HO_304001 := n1_; have HO311 := n2_; have HO316 := n3_; have HO_3 := n4_; have BK303 := n5_; have BK328 := n6_; have BK329 := n7_; have HB := n8_; clear n0_ n1_ n2_ n3_ n4_ n5_ n6_ n7_ n8_
   have n0_ := mk0 (Kd.V_drew HO_4.out)
   have n1_ := mk0 (Kd.V_drew HO_304001.out)
   have n2_ := mk0 (Kd.V_drew HO311.out)
   have n3_ := mk0 (Kd.V_drew HO316.out)
   have n4_ := mk0 (Kd.S_drew HO_3.out)
   have n5_ := mk0 (blk_drew BK303.out)
   have n6_ := mk0 (blk_drew BK328.out)
   have n7_ := mk0 (blk_drew BK329.out)
   have n8_ := mk0 (below_drew1 HB.out)
   clear HO_4 HO_304001 HO311 HO316 HO_3 BK303 BK328 BK329 HB; have HO_4 := n0_; have HO_304001 := n1_; have HO311 := n2_; have HO316 := n3_; have HO_3 := n4_; have BK303 := n5_; have BK328 := n6_; have BK329 := n7_; have HB := n8_; clear n0_ n1_ n2_ n3_ n4_ n5_ n6_ n7_ n8_
   have p335 : 0 ≤ ((ji25) : Int) := of_decide_eq_true (by first | (with_reducible assumption) | assumption)
   have q335 : (ji25) < (y334.length : Int) := (by have h_ : ((ji25) : Int) < ((x3_1.length : Int) : Int) := of_decide_eq_true (by first | (with_reducible assumption) | assumption); first | (have e_ := (Kd.S_reads' HO_3.out).1; omega) | simpa only [Ny334.out, List.length_set] using h_)
   have ql335 : (((ji25) : Int) < ((x3_1.length : Int) : Int)) = True := eq_true (of_decide_eq_true (by first | (with_reducible assumption) | assumption))
   obtain ⟨ad335, A335_0, c335_0, e335, hx335_0, hl335_0, hi335_0⟩ := at_L3 (Kd.S_reads' HO_3.out).2.2 (ji25) p335 q335
   obtain rfl : (⟨go56, 0, none⟩ : Addr) = ad335 := (by injection e335)
   obtain ⟨ce335, hce335, hMe335, hcc335⟩ := Kd.S_get HO_3.out [] (ji25) p335 (by first | exact q335 | exact of_decide_eq_true (by first | (with_reducible assumption) | assumption) | (have e_ := (Kd.S_reads' HO_3.out).1; omega))
   obtain ⟨ve335_0, rfl, ge335_0⟩ := hMe335
   have hv335_0 := hcc335 0 _ rfl
   rw [Nat.add_zero, show ((Kd.slice 46 k46)).sz = 1 from rfl, Nat.mul_one] at hv335_0
   replace hv335_0 := Option.some.inj (hv335_0.symm.trans hx335_0)
   rw [hv335_0] at ge335_0
   have HL335_0 := mk0 (show Kd.R k46 46 _ _ _ _ (rd_L3 y334 (ji25)) from ge335_0)
   clear hv335_0 ge335_0
   have HX335_0 := mk0 hx335_0
   clear hcc335 hce335
   (first | simp only [add_plain] at hx335_0 | simp only [add_at] at hx335_0 | simp only [Addr.add, Nat.zero_add] at hx335_0 | skip)
   have HR335_0 := mk0 hi335_0
   have HC335_0 := mk0 hl335_0
   clear hi335_0 hl335_0
   replace p335 := eq_true p335
   replace q335 := eq_true q335
   refine start_ (n := 11) (S := fun w' => w'.cell? ⟨gb329, 0, none⟩ = some (.int .i64 ((rd_T46 (rd_L3 x3_1 (ji25)) (ji29)).f0)) ∧ w'.cell? ⟨gb329, 1, none⟩ = some (.int .i64 ((rd_T46 (rd_L3 x3_1 (ji25)) (ji29)).f1)) ∧ w'.cell? ⟨go56, ((ji25)).toNat, none⟩ = some (.slice A335_0 (rd_L3 y334 (ji25)).length c335_0)) (ds := [10]) y9_1 (by kernel_rfl) rfl rfl ⟨(blk_cell BK329.out 0).trans rfl, (blk_cell BK329.out 1).trans rfl, hx335_0⟩ (fun hHeld => ?_); refine with_tabW impl_FlatOf.tab17 impl_FlatOf.bits17 (fun HT_ HW_ => ?_)
   generalize w61.drew = w62 at HO_4 HO_304001 HO311 HO316 HO_3 BK303 BK328 BK329 HB HL335_0 HQ58 HR335_0 HX335_0 hx335_0 hHeld ⊢
   refine pzv (i := 0) (N := 76) (v := ?_) (a' := ?_) y9_4 HT_ ?_ ?_ ?_
   rotate_left
   ·intro w'
    go_simp; with_reducible rfl
   rotate_left
   ·exact x9_put
   refine pzv (i := 1) (N := 77) (v := ?_) (a' := ?_) y9_7 HT_ ?_ ?_ ?_
   rotate_left
   ·intro w'
    go_simp; with_reducible rfl
   rotate_left
   ·exact x9_put
   refine pzv (i := 2) (N := 78) (v := ?_) (a' := ?_) y9_13 HT_ ?_ ?_ ?_
   rotate_left
   ·intro w'
    go_simp; with_reducible rfl
   rotate_left
   ·exact x9_put
   refine pzv (i := 4) (N := 80) (v := ?_) (a' := ?_) y9_16 HT_ ?_ ?_ ?_
   rotate_left
   ·intro w'
    go_simp; with_reducible rfl
   rotate_left
   ·exact x9_put
   refine pzv (i := 6) (N := 82) (v := ?_) (a' := ?_) y9_17 HT_ ?_ ?_ ?_
   rotate_left
   ·intro w'
    go_simp; with_reducible rfl
   rotate_left
   ·exact x9_put
   refine take_ (i := 3) (N := some 79) (v := ?_) (a' := ?_) y9_21 rfl rfl (take_ofW HT_.out HW_.out (by kernel_rfl)) (fun _ _ _ h => h) (Or.inl ⟨by rfl, ?_⟩) hHeld ?_ ?_
   rotate_left
   ·rintro w' ⟨s0, s1, s2⟩
    go_simp; with_reducible rfl
   rotate_left
   ·exact x9_put
   refine take_ (i := 5) (N := some 81) (v := ?_) (a' := ?_) y9_23 rfl rfl (take_ofW HT_.out HW_.out (by kernel_rfl)) (fun _ _ _ h => h) (Or.inl ⟨by rfl, ?_⟩) hHeld ?_ ?_
   rotate_left
   ·rintro w' ⟨s0, s1, s2⟩
    go_simp; with_reducible rfl
   rotate_left
   ·exact x9_put
   refine one_ (i := 7) (N := some 83) y9_26 rfl rfl (one_of HT_.out (by kernel_rfl)) (by decide) (fun K hK => ?_)
   refine goes_ Try.func29 (by kernel_rfl) rfl #[.int .i64 (rd l0_0 x20_1), .agg #[.int .i64 ((rd_T46 (rd_L3 x3_1 (ji25)) (ji29)).f0), .int .i64 ((rd_T46 (rd_L3 x3_1 (ji25)) (ji29)).f1)], .slice Ao38 y307.length co38] (by rfl) rfl rfl z9_73 ?_
   with_reducible refine (impl_flatten.calls k1 (rd l0_0 x20_1) ((rd_T46 (rd_L3 x3_1 (ji25)) (ji29)).f0) ((rd_T46 (rd_L3 x3_1 (ji25)) (ji29)).f1) _ _ y307 t336 _ ?side1 ?side2 A35.out).mono ?_
   (case side1 => exact z9_61)
   (case side2 => exact (Kd.V_reads' HO311.out).2.1)
   rintro e w63 ⟨v337, rfl, ho0, hb⟩
   have HS2_ := (hb.cell (World.block_lt_of_cell? _ _ (hHeld.2.2))).trans (hHeld.2.2)
   refine ⟨_, rfl, ?_⟩
   have n0_ := mk0 (Kd.V_elder' (pkV HO_4) (Kd.R_base ho0) hb)
   have n1_ := mk0 (Kd.V_elder' (pkV HO_304001) (Kd.R_base ho0) hb)
   have n2_ := mk0 (Kd.V_elder' (pkV HO311) (Kd.R_base ho0) hb)
   have n3_ := mk0 (Kd.V_elder' (pkV HO316) (Kd.R_base ho0) hb)
   have n4_ := mk0 (Kd.S_elder' (pkS HO_3) (Kd.R_base ho0) hb)
   have n5_ := mk0 (Kd.R_elder' (pkR HL335_0) (Kd.R_base ho0) hb)
   have n6_ := mk0 (Kd.R_lower (Kd.R_newB (Kd.R_newB (Kd.R_new' (Kd.R_newM (M := fun k_ => (w.heap.size ≤ k_)) ho0 (below_size z9_34) (fun k_ h_ => h_)) (Kd.R_lt (pkR HL335_0))) (g := gb328) (o := .cells #[.int .i64 ((rd_T46 (rd_L3 x3_1 (ji25)) 0).f0), .int .i64 ((rd_T46 (rd_L3 x3_1 (ji25)) 0).f1)] 46 (0, 0)) (pkb BK328)) (g := gb329) (o := .cells #[.int .i64 ((rd_T46 (rd_L3 x3_1 (ji25)) (ji29)).f0), .int .i64 ((rd_T46 (rd_L3 x3_1 (ji25)) (ji29)).f1)] 46 (0, 0)) (pkb BK329)) (below_size z9_34))
   have n7_ := mk0 (blk_belowB BK303 (pkb BK303) hb)
   have n8_ := mk0 (blk_belowB BK328 (pkb BK328) hb)
   have n9_ := mk0 (blk_belowB BK329 (pkb BK329) hb)
   have n10_ := mk0 (Kd.C_below (by repeat (first | (with_reducible exact HR335_0.out) | (with_reducible refine Kd.C_alloc ?_ _) | (with_reducible refine Kd.C_drewN ?_ _) | (with_reducible refine Kd.C_drew ?_) | exact HR335_0.out)) hb)
   have n11_ := mk0 (pw_cell_below hb HX335_0.out)
   have n12_ := mk0 (below_step z9_34 hb)
   clear HO_4 HO_304001 HO311 HO316 HO_3 HL335_0 BK303 BK328 BK329 HR335_0 HX335_0 HB; have HO_4 := n0_; have HO_304001 := n1_; have HO311 := n2_; have HO316 := n3_; have HO_3 := n4_; have HL335_0 := n5_; have HO338 := n6_; have BK303 := n7_; have BK328 := n8_; have BK329 := n9_; have HR335_0 := n10_; have HX335_0 := n11_; have HB := n12_; clear n0_ n1_ n2_ n3_ n4_ n5_ n6_ n7_ n8_ n9_ n10_ n11_ n12_; (try clear hb); (try clear hb2); (try clear hk); (try clear hi); (try clear ho0)
   have n_ := mk0 (Kd.S_mono (ok' := (fun k_ => (w.heap.size ≤ k_) ∧ some k_ ≠ (v337 : Value).ownBlock ∧ k_ ≠ gb328 ∧ k_ ≠ gb329)) HO_3.out (fun k_ hk => ⟨hk.1.1, ⟨hk.2, ⟨hk.1.2.1, hk.1.2.2⟩⟩⟩))
   clear HO_3; have HO_3 := n_; clear n_
   obtain ⟨Ao66, co66, eo66⟩ := Kd.R_slice HO338.out
   (first | subst eo66 | (injection eo66 with f1_ f2_ f3_; have f4_ := f1_.symm; have f5_ := f3_.symm; clear f1_ f2_ f3_; subst f4_; subst f5_))
   obtain ⟨oki64, ce64, hcl64, hM64, hcc64, _, _, hH64⟩ := Kd.S_elem HO_3.out [] ((ji25) : Int) (of_decide_eq_true (by first | (with_reducible assumption) | assumption)) (by have h_ : ((ji25) : Int) < ((x3_1.length : Int) : Int) := of_decide_eq_true (by first | (with_reducible assumption) | assumption); first | exact h_ | (have e_ := (Kd.S_reads' HO_3.out).1; omega) | simpa using h_)
   obtain ⟨ve64_0, rfl, ge64_0⟩ := hM64
   have hv64 := hcc64 0 _ rfl
   have hX64 := HX335_0.out
   (try simp only [add_plain] at hX64)
   (try simp only [Nat.add_zero] at hv64)
   (try rw [show ((Kd.slice 46 k46)).sz = 1 from rfl, Nat.mul_one] at hv64)
   replace hv64 := Option.some.inj (hv64.symm.trans hX64)
   subst hv64; clear hX64 hcc64 hcl64
   have UU64 := mk0 (show Kd.R k46 46 _ w.heap.size oki64 (.slice A335_0 (rd_L3 y334 (ji25)).length c335_0) (rd_L3 y334 (ji25)) from ge64_0)
   have HH64 := mk0 hH64
   have HN64 := mk0 (Kd.S_reads' HO_3.out).1
   clear hH64 ge64_0
   refine hK.out _ _ ⟨(blk_cell BK329.out 0).trans rfl, (blk_cell BK329.out 1).trans rfl, HS2_⟩ (fun hHeld => ?_)
   clear hK K
   refine norm_ (a' := ?_) ?_ ?_
   rotate_left
   ·show Act.put _ (some 83) _ = _
    simp only [Act.put, List.setIfInBounds_toArray, List.set_cons_zero, List.set_cons_succ, i64_w, i32_w]
    rfl
   refine one_ (i := 8) (N := some 84) y9_28 rfl rfl (one_of HT_.out (by kernel_rfl)) (by decide) (fun K hK => ?_)
   refine Kd.R_append_rows_step k46 (w0 := w) w.heap.size (by rfl) (.tmp 79) (.tmp 83) 29 46 (.agg #[(.int .i64 0), (.int .i64 0)]) 16 rfl Try.underlying29 info46 rfl (by decide) (by omega) (.slice A335_0 (rd_L3 y334 (ji25)).length c335_0) (rd_L3 y334 (ji25)) t336 _ _ _ (fun k_ => oki64 k_ ∨ ((fun k_ => (w.heap.size ≤ k_) ∧ some k_ ≠ (.slice Ao66 t336.length co66 : Value).ownBlock ∧ k_ ≠ gb328 ∧ k_ ≠ gb329)) k_ ∧ w63.heap.size ≤ k_) (fun _ => False) rfl rfl ?aO ?aR (fun _ _ h => h) (fun _ h => h.elim) ?aF ?aB ?aS ?aL ?_
   (case aR => repeat (first | exact (Kd.R_reads' HO338.out).2.2 | (with_reducible refine Kd.C_alloc ?_ _) | (with_reducible refine Kd.C_drewN ?_ _) | (with_reducible refine Kd.C_drew ?_)))
   (case aB => exact z9_34)
   (case aF => exact (fun k_ hk => .inr ⟨⟨(Nat.le_trans (below_size z9_34) hk), Kd.fresh' (Kd.R_lt (pkR HO338)) k_ hk, Kd.freshB (g := gb328) (o := .cells #[.int .i64 ((rd_T46 (rd_L3 x3_1 (ji25)) 0).f0), .int .i64 ((rd_T46 (rd_L3 x3_1 (ji25)) 0).f1)] 46 (0, 0)) (pkb BK328) k_ hk, Kd.freshB (g := gb329) (o := .cells #[.int .i64 ((rd_T46 (rd_L3 x3_1 (ji25)) (ji29)).f0), .int .i64 ((rd_T46 (rd_L3 x3_1 (ji25)) (ji29)).f1)] 46 (0, 0)) (pkb BK329) k_ hk⟩, hk⟩))
   (case aO => exact (by (with_reducible repeat (first | apply Kd.R_alloc | apply Kd.R_drewN | apply Kd.R_drew)); exact Kd.R_mono UU64.out (fun _ hk => .inl hk)))
   (case aS => exact (below_size z9_34))
   (case aL => have := LMc36.out; omega)
   intro v340 w65 ho hb hg hat
   (first | have HS2_ := cell_grown hg (hHeld.2.2) z9_90 | have HS2_ := cell_grown hg (cell_unalloc (hHeld.2.2) z9_62) z9_90)
   rw [← Ny339.out] at ho
   have n0_ := mk0 (Kd.V_grown (pkV HO_4) hg z9_87)
   have n1_ := mk0 (Kd.V_grown (pkV HO_304001) hg z9_87)
   have n2_ := mk0 (blk_grown (g := gb303) (o := .cells #[.slice (some ad305) l0_0.length c0_0, .slice A0_1 l0_1.length c0_1] 31 (0, 0)) (pkb BK303) hg (Kd.R_ne HL335_0.out BK303.out (by decide)))
   have n3_ := mk0 (Kd.V_grown (pkV HO311) hg z9_87)
   have n4_ := mk0 (Kd.V_grown (pkV HO316) hg z9_87)
   have n5_ := mk0 (blk_grown (g := gb328) (o := .cells #[.int .i64 ((rd_T46 (rd_L3 x3_1 (ji25)) 0).f0), .int .i64 ((rd_T46 (rd_L3 x3_1 (ji25)) 0).f1)] 46 (0, 0)) (pkb BK328) hg (Kd.R_away HL335_0.out (fun _ hk => hk.1.1.2.1)))
   have n6_ := mk0 (blk_grown (g := gb329) (o := .cells #[.int .i64 ((rd_T46 (rd_L3 x3_1 (ji25)) (ji29)).f0), .int .i64 ((rd_T46 (rd_L3 x3_1 (ji25)) (ji29)).f1)] 46 (0, 0)) (pkb BK329) hg (Kd.R_away HL335_0.out (fun _ hk => hk.1.1.2.2)))
   have n7_ := mk0 (Kd.R_grown2 (pkR HO338) rfl hg (fun k_ e_ => (HL335_0.out.1 k_ e_).2))
   have n8_ := mk0 (hb)
   have n9_ := mk0 (Kd.H_grown (Kd.H_widen (by repeat (first | exact HH64.out | refine Kd.H_alloc ?_ _ | refine Kd.H_drewN ?_ _ | refine Kd.H_drew ?_))) hg (fun k_ e_ => .inl (UU64.out.1 k_ e_)))
   have n10_ := mk0 (ho)
   clear HO_4 HO_304001 BK303 HO311 HO316 BK328 BK329 HO338 HB HH64 HO_3 UU64 HL335_0; have HO_4 := n0_; have HO_304001 := n1_; have BK303 := n2_; have HO311 := n3_; have HO316 := n4_; have BK328 := n5_; have BK329 := n6_; have HO338 := n7_; have HB := n8_; have HH64 := n9_; have HO341 := n10_; clear n0_ n1_ n2_ n3_ n4_ n5_ n6_ n7_ n8_ n9_ n10_ ho hb hg hat
   obtain ⟨Ao69, co69, eo69⟩ := Kd.R_slice HO341.out
   (first | subst eo69 | (injection eo69 with f1_ f2_ f3_; have f4_ := f1_.symm; have f5_ := f3_.symm; clear f1_ f2_ f3_; subst f4_; subst f5_))
   obtain ⟨_, _, hraw67, _, _, hcc67, _⟩ := Kd.H_raw HH64.out (of_decide_eq_true (by first | (with_reducible assumption) | assumption)) (by have h_ : ((ji25) : Int) < ((x3_1.length : Int) : Int) := of_decide_eq_true (by first | (with_reducible assumption) | assumption); first | exact h_ | (have e_ := (HN64.out); omega) | simpa using h_)
   obtain ⟨_, hfr67⟩ := Kd.H_at HH64.out (of_decide_eq_true (by first | (with_reducible assumption) | assumption)) (by have h_ : ((ji25) : Int) < ((x3_1.length : Int) : Int) := of_decide_eq_true (by first | (with_reducible assumption) | assumption); first | exact h_ | (have e_ := (HN64.out); omega) | simpa using h_)
   have hx67_0 := hcc67 0 _ rfl
   have hf67_0 := hfr67 0
   (try simp only [Nat.add_zero] at hx67_0 hf67_0)
   (try rw [show ((Kd.slice 46 k46)).sz = 1 from rfl, Nat.mul_one] at hx67_0)
   (try rw [show ((Kd.slice 46 k46)).sz = 1 from rfl, Nat.mul_one] at hf67_0)
   have HP67 := Kd.S_seg0 HH64.out (of_decide_eq_true (by first | (with_reducible assumption) | assumption)) (by have h_ : ((ji25) : Int) < ((x3_1.length : Int) : Int) := of_decide_eq_true (by first | (with_reducible assumption) | assumption); first | exact h_ | (have e_ := (HN64.out); omega) | simpa using h_) (seg := [.slice Ao69 y339.length co69]) (j := 0) (show 1 ≤ 1 from by decide) (x' := y339) (Kd.M_row HO341.out) (fun _ hk => hk)
   (try simp only [show ((Kd.slice 46 k46)).sz = 1 from rfl, Nat.mul_one, Nat.add_zero] at HP67)
   clear hcc67 hfr67
   have HNB303_go56 := mk0 (show gb303 ≠ go56 from by have h_ := Kd.R_ne hraw67 BK303.out (by decide); intro e_; exact h_ (by rw [e_]; rfl))
   have HNB328_go56 := mk0 (show gb328 ≠ go56 from by have h_ := Kd.R_ne hraw67 BK328.out (by decide); intro e_; exact h_ (by rw [e_]; rfl))
   have HNB329_go56 := mk0 (show gb329 ≠ go56 from by have h_ := Kd.R_ne hraw67 BK329.out (by decide); intro e_; exact h_ (by rw [e_]; rfl))
   have HS67 := HP67.1
   rw [← Ny342.out] at HS67
   have HQ67 := mk0 HS67
   obtain ⟨_, hgg67⟩ := Kd.R_typed hraw67 go56 rfl
   have GG67_ := mk0 hgg67
   clear HP67 HS67 hgg67
   refine hK.out _ _ ⟨(blk_cell BK329.out 0).trans rfl, (blk_cell BK329.out 1).trans rfl, HS2_⟩ (fun hHeld => ?_)
   clear hK K
   refine norm_ (a' := ?_) ?_ ?_
   rotate_left
   ·show Act.put _ (some 84) _ = _
    simp only [Act.put, List.setIfInBounds_toArray, List.set_cons_zero, List.set_cons_succ, i64_w, i32_w]
    rfl
   refine pzv (i := 9) (N := 85) (v := ?_) (a' := ?_) y9_30 HT_ ?_ ?_ ?_
   rotate_left
   ·intro w'
    go_simp; with_reducible rfl
   rotate_left
   ·exact x9_put
   refine last_ (i := 10) (N := none) y9_41 rfl rfl (one_of HT_.out (by kernel_rfl)) (by decide) (fun K hK => ?_)
   refine skip_ (w1 := ?_) ?hwx ?hN ?_ ?_; (case hwx => rfl); (case hN => rfl)
   rotate_left
   ·go_simp
    rfl
   refine hK.out _ _ ?_
   clear hK K
   refine done_ (done_of HT_.out (by kernel_rfl)) ?_
   try go_wp2
   go_roundg k1
   case measure => have := HK1.out; omega
   case rel => exact ⟨(y342), (y312), (wrap64 (x20_1 + 1)), rs0, H', ⟨(by have := HK1.out; omega)⟩, ⟨(by (with_reducible repeat (first | apply Kd.S_alloc | apply Kd.S_drewN | apply Kd.S_drew)); exact Kd.S_mono HQ67.out (fun _ hk => hk.1))⟩, ⟨(by (with_reducible repeat (first | apply Kd.V_alloc | apply Kd.V_drewN | apply Kd.V_drew)); exact Kd.V_mono (Kd.V_far (p := ⟨go56, ((ji25) : Int).toNat, none⟩) (Kd.V_mono HO316.out (fun k_ hk => (⟨hk, fun e_ => hk.1.2.1 (by rw [e_]; rfl)⟩ : _ ∧ k_ ≠ go56))) (fun _ hk => hk.2) (.slice Ao69 y339.length co69)) (fun _ hk => ⟨hk.1.1.1, ⟨hk.1.1.2.1, hk.1.1.2.2.1⟩⟩))⟩, ⟨(by (with_reducible repeat (first | apply Kd.V_alloc | apply Kd.V_drewN | apply Kd.V_drew)); exact Kd.V_mono (Kd.V_far (p := ⟨go56, ((ji25) : Int).toNat, none⟩) (Kd.V_mono HO_304001.out (fun k_ hk => (⟨hk, fun e_ => hk.1.2.1 (by rw [e_]; rfl)⟩ : _ ∧ k_ ≠ go56))) (fun _ hk => hk.2) (.slice Ao69 y339.length co69)) (fun _ hk => ⟨hk.1.1.1, ⟨hk.1.1.2.1, hk.1.1.2.2.1⟩⟩))⟩, ⟨z9_86⟩, ⟨z9_85⟩⟩

end Go.Proofs.Ytdpnimngndemiaa.MFnExactFlatOf
