/- The row of laws_FnExactNodeOk: out of its pure statement and the printed contract. Printed by rowgen.py (this session's own). -/
import Derived.Test.YtghbenapnhcllaaRows
import Derived.Test.YtghbenapnhcllaaTFnExactNodeOk
import Derived.Test.YtghbenapnhcllaaQFnExactNodeOk
import Derived.WalkKit
import Derived.ProofKit
import Derived.OpenShut
import Derived.ShutString
import Derived.ChangeOld
import Derived.Below
import Derived.SizedLaws
namespace Go.Proofs.Ytghbenapnhcllaa.fnExactNodeOk
open Go.ChangeShapes Go.WideShapes Go.ChangeAt Go.RowKit Go.Proofs.Ytghbenapnhcllaa.Op Go.Proofs.YtghbenapnhcllaaW.PrintWords Go.Proofs.YtghbenapnhcllaaW.PrintLast Go.Proofs.Ytghbenapnhcllaa.MFnExactNodeOk Go.Proofs.Ytghbenapnhcllaa.TFnExactNodeOk
open Go.ChangeMaps (open_string shut_string)
set_option linter.unusedVariables false
theorem own : ownKnob Try.prog.godebug = none := by kernel_rfl
theorem laidOut : laidOutB Try.prog = true := by kernel_rfl
set_option maxHeartbeats 8000000 in
set_option maxRecDepth 100000 in
theorem lifted (os : Os) (started : os.Started) (H : Type) (enc : TypeId × Value → H) :
    ReturnsInHanded {} Try.checked os 4 .any (Rows.fnExactNodeOkSpec.pre6 enc Try.prog Try.f4 Rows.fnExactNodeOkRow.domain false) (Rows.fnExactNodeOkSpec.post enc Try.prog Try.f4 false true false false) := by
  refine returnsInHanded_of_change_sized (C := Try.checked) own started (by kernel_rfl) Try.func4
    (ChangeSpec.witness6 (enc := enc) (C := Try.checked) false ⟨#[], #[.agg #[.int .i64 0, .int .i64 0, .bool false, .int .i64 0, .int .i64 0, .int .i64 0, .int .i64 0, .int .i64 0, .int .i64 0, .slice none 0 0, .slice none 0 0, .bool false, .int .i64 0, .slice none 0 0, .int .i64 0, .int .i64 0, .int .i64 0, .int .i64 0, .int .i64 0, .int .i64 0, .int .i64 0, .int .i64 0, .int .i64 0, .int .i64 0, .int .i64 0, .int .i64 0, .int .i64 0, .int .i64 0, .int .i64 0, .slice none 0 0, .slice none 0 0]], []⟩ 8 (by kernel_rfl) (by kernel_rfl) (by kernel_rfl) (by kernel_rfl)) ?_
  intro W base args ds gs before hval0 hW hcnd hsz0 _
  have hval : ∀ (j : Nat) t v, Try.f4.params[j]? = some t → args[j]? = some v → Value.okWide Try.prog W .any base t v := hval0
  have hW' := hW
  obtain ⟨p, q, hA0, hV, rfl, hfz, hnd⟩ := hW
  have hA : DataW.TrodAll enc Try.prog W 0 (fun _ => true) true Try.f4.params.toList args.toList ds p := hA0
  rw [Try.params4] at hA hval
  obtain ⟨v0, vs0, d0, ds0, p0, q0, hargs, rfl, rfl, h0, r0⟩ := trodAll_cons hA
  obtain ⟨rfl, rfl, rfl⟩ := trodAll_nil r0
  obtain rfl : args = #[v0] := by cases args; simp_all
  obtain ⟨rfl, rfl⟩ := trodVars_none hV
  obtain ⟨cs0, rfl, hsz0⟩ := okWide_struct Try.underlying47 (hval 0 47 v0 rfl rfl)
  have k0 := h0
  have lt0 : ∀ x ∈ p0, x.block < W.heap.size := by obtain ⟨m, hm⟩ := k0; exact DataW.trod_lt m _ _ _ hm
  obtain ⟨fuel0, hf0⟩ := h0
  obtain ⟨x0, hK0, hw0⟩ := (opn_pair (P := Try.prog) Try.underlying47 (by kernel_rfl) (opnF_cons rfl (by kernel_rfl) (opn_int Try.underlying3) (opnF_cons rfl (by kernel_rfl) (opn_int Try.underlying3) (opnF_cons rfl (by kernel_rfl) (opn_bool Try.underlying4) (opnF_cons rfl (by kernel_rfl) (opn_pair (P := Try.prog) Try.underlying39 (by kernel_rfl) (opnF_cons rfl (by kernel_rfl) (opn_int Try.underlying3) (opnF_cons rfl (by kernel_rfl) (opn_int Try.underlying3) (opnF_cons rfl (by kernel_rfl) (opn_int Try.underlying3) (opnF_cons rfl (by kernel_rfl) (opn_int Try.underlying3) (opnF_cons rfl (by kernel_rfl) (opn_int Try.underlying3) (opnF_one rfl (by kernel_rfl) (opn_int Try.underlying3)))))))) (opnF_cons rfl (by kernel_rfl) (opn_pair (P := Try.prog) Try.underlying25 (by kernel_rfl) (opnF_cons rfl (by kernel_rfl) (opn_slice (k := (Kd.int .i64)) Try.underlying22 (by kernel_rfl) (opn_int Try.underlying3)) (opnF_one rfl (by kernel_rfl) (opn_slice (k := k43) Try.underlying23 (by kernel_rfl) opn43)))) (opnF_cons rfl (by kernel_rfl) (opn_bool Try.underlying4) (opnF_cons rfl (by kernel_rfl) (opn_int Try.underlying3) (opnF_cons rfl (by kernel_rfl) (opn_slice (k := (Kd.int .i64)) Try.underlying22 (by kernel_rfl) (opn_int Try.underlying3)) (opnF_cons rfl (by kernel_rfl) (opn_pair (P := Try.prog) Try.underlying45 (by kernel_rfl) (opnF_cons rfl (by kernel_rfl) (opn_int Try.underlying3) (opnF_cons rfl (by kernel_rfl) (opn_pair (P := Try.prog) Try.underlying41 (by kernel_rfl) (opnF_cons rfl (by kernel_rfl) (opn_int Try.underlying3) (opnF_cons rfl (by kernel_rfl) (opn_int Try.underlying3) (opnF_cons rfl (by kernel_rfl) (opn_int Try.underlying3) (opnF_one rfl (by kernel_rfl) (opn_int Try.underlying3)))))) (opnF_cons rfl (by kernel_rfl) (opn_pair (P := Try.prog) Try.underlying41 (by kernel_rfl) (opnF_cons rfl (by kernel_rfl) (opn_int Try.underlying3) (opnF_cons rfl (by kernel_rfl) (opn_int Try.underlying3) (opnF_cons rfl (by kernel_rfl) (opn_int Try.underlying3) (opnF_one rfl (by kernel_rfl) (opn_int Try.underlying3)))))) (opnF_cons rfl (by kernel_rfl) (opn_pair (P := Try.prog) Try.underlying43 (by kernel_rfl) (opnF_cons rfl (by kernel_rfl) (opn_int Try.underlying3) (opnF_one rfl (by kernel_rfl) (opn_int Try.underlying3)))) (opnF_one rfl (by kernel_rfl) (opn_pair (P := Try.prog) Try.underlying43 (by kernel_rfl) (opnF_cons rfl (by kernel_rfl) (opn_int Try.underlying3) (opnF_one rfl (by kernel_rfl) (opn_int Try.underlying3)))))))))) (opnF_cons rfl (by kernel_rfl) (opn_int Try.underlying3) (opnF_cons rfl (by kernel_rfl) (opn_int Try.underlying3) (opnF_one rfl (by kernel_rfl) (opn_pair (P := Try.prog) Try.underlying25 (by kernel_rfl) (opnF_cons rfl (by kernel_rfl) (opn_slice (k := (Kd.int .i64)) Try.underlying22 (by kernel_rfl) (opn_int Try.underlying3)) (opnF_one rfl (by kernel_rfl) (opn_slice (k := k43) Try.underlying23 (by kernel_rfl) opn43))))))))))))))))) _ enc W _ _ fuel0 _ _ hf0
  obtain ⟨cl0, hcl0, hK0⟩ : ∃ cl, (Value.agg cs0).cells.toList = cl ∧ _ := ⟨_, rfl, hK0⟩
  obtain ⟨a0_0, ⟨a0_1, ⟨a0_2, ⟨⟨a0_3, ⟨a0_4, ⟨a0_5, ⟨a0_6, ⟨a0_7, a0_8⟩⟩⟩⟩⟩, ⟨⟨l0_9, l0_10⟩, ⟨a0_11, ⟨a0_12, ⟨l0_13, ⟨⟨a0_14, ⟨⟨a0_15, ⟨a0_16, ⟨a0_17, a0_18⟩⟩⟩, ⟨⟨a0_19, ⟨a0_20, ⟨a0_21, a0_22⟩⟩⟩, ⟨⟨a0_23, a0_24⟩, ⟨a0_25, a0_26⟩⟩⟩⟩⟩, ⟨a0_27, ⟨a0_28, ⟨l0_29, l0_30⟩⟩⟩⟩⟩⟩⟩⟩⟩⟩⟩⟩ := x0
  obtain ⟨_, _, rfl, rfl, ⟨_, _, rfl, rfl, ⟨_, _, rfl, rfl, ⟨_, _, rfl, ⟨_, _, rfl, rfl, ⟨_, _, rfl, rfl, ⟨_, _, rfl, rfl, ⟨_, _, rfl, rfl, ⟨_, _, rfl, rfl, rfl⟩⟩⟩⟩⟩, ⟨_, _, rfl, ⟨_, _, rfl, ⟨A0_9, c0_9, rfl, hc0_9, hr0_9⟩, ⟨A0_10, c0_10, rfl, hc0_10, hr0_10⟩⟩, ⟨_, _, rfl, rfl, ⟨_, _, rfl, rfl, ⟨_, _, rfl, ⟨A0_13, c0_13, rfl, hc0_13, hr0_13⟩, ⟨_, _, rfl, ⟨_, _, rfl, rfl, ⟨_, _, rfl, ⟨_, _, rfl, rfl, ⟨_, _, rfl, rfl, ⟨_, _, rfl, rfl, rfl⟩⟩⟩, ⟨_, _, rfl, ⟨_, _, rfl, rfl, ⟨_, _, rfl, rfl, ⟨_, _, rfl, rfl, rfl⟩⟩⟩, ⟨_, _, rfl, ⟨_, _, rfl, rfl, rfl⟩, ⟨_, _, rfl, rfl, rfl⟩⟩⟩⟩⟩, ⟨_, _, rfl, rfl, ⟨_, _, rfl, rfl, ⟨_, _, rfl, ⟨A0_29, c0_29, rfl, hc0_29, hr0_29⟩, ⟨A0_30, c0_30, rfl, hc0_30, hr0_30⟩⟩⟩⟩⟩⟩⟩⟩⟩⟩⟩⟩⟩ := hK0
  obtain ⟨w0_0, ⟨w0_1, ⟨_, ⟨⟨w0_3, ⟨w0_4, ⟨w0_5, ⟨w0_6, ⟨w0_7, w0_8⟩⟩⟩⟩⟩, ⟨⟨w0_9, w0_10⟩, ⟨_, ⟨w0_12, ⟨w0_13, ⟨⟨w0_14, ⟨⟨w0_15, ⟨w0_16, ⟨w0_17, w0_18⟩⟩⟩, ⟨⟨w0_19, ⟨w0_20, ⟨w0_21, w0_22⟩⟩⟩, ⟨⟨w0_23, w0_24⟩, ⟨w0_25, w0_26⟩⟩⟩⟩⟩, ⟨w0_27, ⟨w0_28, ⟨w0_29, w0_30⟩⟩⟩⟩⟩⟩⟩⟩⟩⟩⟩⟩ := hw0
  obtain rfl : cs0 = #[.int .i64 a0_0, .int .i64 a0_1, .bool a0_2, .int .i64 a0_3, .int .i64 a0_4, .int .i64 a0_5, .int .i64 a0_6, .int .i64 a0_7, .int .i64 a0_8, .slice A0_9 l0_9.length c0_9, .slice A0_10 l0_10.length c0_10, .bool a0_11, .int .i64 a0_12, .slice A0_13 l0_13.length c0_13, .int .i64 a0_14, .int .i64 a0_15, .int .i64 a0_16, .int .i64 a0_17, .int .i64 a0_18, .int .i64 a0_19, .int .i64 a0_20, .int .i64 a0_21, .int .i64 a0_22, .int .i64 a0_23, .int .i64 a0_24, .int .i64 a0_25, .int .i64 a0_26, .int .i64 a0_27, .int .i64 a0_28, .slice A0_29 l0_29.length c0_29, .slice A0_30 l0_30.length c0_30] := Array.toList_inj.mp hcl0
  clear hcl0
  clear hA0 hval0 hsz0
  have hp := QFnExactNodeOk.pure a0_0 a0_1 a0_2 a0_3 a0_4 a0_5 a0_6 a0_7 a0_8 l0_9 l0_10 a0_11 a0_12 l0_13 a0_14 a0_15 a0_16 a0_17 a0_18 a0_19 a0_20 a0_21 a0_22 a0_23 a0_24 a0_25 a0_26 a0_27 a0_28 l0_29 l0_30 w0_0 w0_1 w0_3 w0_4 w0_5 w0_6 w0_7 w0_8 w0_9 w0_10 w0_12 w0_13 w0_14 w0_15 w0_16 w0_17 w0_18 w0_19 w0_20 w0_21 w0_22 w0_23 w0_24 w0_25 w0_26 w0_27 w0_28 w0_29 w0_30
  obtain ⟨k, hk⟩ := hp
  refine (laws_FnExactNodeOk.calls k a0_0 a0_1 a0_2 a0_3 a0_4 a0_5 a0_6 a0_7 a0_8 A0_9 c0_9 l0_9 A0_10 c0_10 l0_10 a0_11 a0_12 A0_13 c0_13 l0_13 a0_14 a0_15 a0_16 a0_17 a0_18 a0_19 a0_20 a0_21 a0_22 a0_23 a0_24 a0_25 a0_26 a0_27 a0_28 A0_29 c0_29 l0_29 A0_30 c0_30 l0_30 true W hr0_9 hc0_9 hr0_10 hc0_10 hr0_13 hc0_13 hr0_29 hc0_29 hr0_30 hc0_30 rfl hk).mono fun e W' ⟨he, bel0⟩ => ?_
  have bel : Below W.heap.size W W' := bel0
  subst he
  exact ⟨_, rfl, _, _, _, [], _, [], hW', trodAll_mk1 (shut_bool Try.underlying4 _), (trodAll_cons_mk (Below.trod laidOut (by kernel_rfl) (of_decide_eq_true (by kernel_rfl)) k0 bel lt0) trodAll_mk0), rfl, bel.frame _, fun h => by cases h⟩
theorem over : Rows.fnExactNodeOkRow.holds Try.pinned (OpenSpec.ofChange Rows.fnExactNodeOkSpec) :=
  OpenClaim.holds_of_wide 4 Try.f4 rfl rfl rfl rfl rfl rfl rfl ⟨rfl, rfl, rfl, rfl, rfl⟩ rfl rfl rfl rfl rfl (by kernel_rfl) Try.func4 (by kernel_rfl)
    (of_decide_eq_true (by kernel_rfl)) (by unfold Func.isWrapper; first | (rw [if_pos (by decide +kernel)]; kernel_rfl) | (rw [if_neg (by decide +kernel)]; exact ⟨rfl, rfl⟩))
    (fun os started H enc _ => lifted os started H enc)
theorem proved : Rows.FnExactNodeOkSaid := over
#print axioms proved
end Go.Proofs.Ytghbenapnhcllaa.fnExactNodeOk
namespace Go.Proofs.Ytghbenapnhcllaa
/-- The row, under a short name, for the claim. -/
theorem fnExactNodeOk_holds : Rows.FnExactNodeOkSaid := fnExactNodeOk.proved
end Go.Proofs.Ytghbenapnhcllaa
