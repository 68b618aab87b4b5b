/- The row of laws_FnExactRunsOf: out of its pure statement and the printed contract. Printed by rowgen.py (this session's own). -/
import Derived.Test.YtndeonfbolookaaRows
import Derived.Test.YtndeonfbolookaaTFnExactRunsOf
import Derived.Test.YtndeonfbolookaaQFnExactRunsOf
import Derived.WalkKit
import Derived.ProofKit
import Derived.OpenShut
import Derived.ShutString
import Derived.ChangeOld
import Derived.Below
import Derived.SizedLaws
namespace Go.Proofs.Ytndeonfbolookaa.fnExactRunsOf
open Go.ChangeShapes Go.WideShapes Go.ChangeAt Go.RowKit Go.Proofs.Ytndeonfbolookaa.Op Go.Proofs.YtndeonfbolookaaW.PrintWords Go.Proofs.YtndeonfbolookaaW.PrintLast Go.Proofs.Ytndeonfbolookaa.MFnExactRunsOf Go.Proofs.Ytndeonfbolookaa.TFnExactRunsOf
open Go.ChangeMaps (open_string shut_string)
set_option linter.unusedVariables false
theorem own : ownKnob Try.prog.godebug = none := by kernel_rfl
theorem laidOut : laidOutB Try.prog = true := by kernel_rfl
set_option maxRecDepth 100000 in
theorem lifted (os : Os) (started : os.Started) (H : Type) (enc : TypeId × Value → H) :
    ReturnsInHanded {} Try.checked os 14 .any (Rows.fnExactRunsOfSpec.pre6 enc Try.prog Try.f14 Rows.fnExactRunsOfRow.domain false) (Rows.fnExactRunsOfSpec.post enc Try.prog Try.f14 false true false false) := by
  refine returnsInHanded_of_change_sized (C := Try.checked) own started (by kernel_rfl) Try.func14
    (ChangeSpec.witness6 (enc := enc) (C := Try.checked) false ⟨#[], #[.agg #[.int .i64 0, .int .i64 0, .int .i64 0, .int .i64 0, .slice none 0 0]], []⟩ 8 (by kernel_rfl) (by kernel_rfl) (by kernel_rfl) (by kernel_rfl)) ?_
  intro W base args ds gs before hval0 hW hcnd hsz0 _
  have hval : ∀ (j : Nat) t v, Try.f14.params[j]? = some t → args[j]? = some v → Value.okWide Try.prog W .any base t v := hval0
  have hW' := hW
  obtain ⟨p, q, hA0, hV, rfl, hfz, hnd⟩ := hW
  have hA : DataW.TrodAll enc Try.prog W 0 (fun _ => true) true Try.f14.params.toList args.toList ds p := hA0
  rw [Try.params14] at hA hval
  obtain ⟨v0, vs0, d0, ds0, p0, q0, hargs, rfl, rfl, h0, r0⟩ := trodAll_cons hA
  obtain ⟨rfl, rfl, rfl⟩ := trodAll_nil r0
  obtain rfl : args = #[v0] := by cases args; simp_all
  obtain ⟨rfl, rfl⟩ := trodVars_none hV
  obtain ⟨cs0, rfl, hsz0⟩ := okWide_struct Try.underlying59 (hval 0 59 v0 rfl rfl)
  have k0 := h0
  have lt0 : ∀ x ∈ p0, x.block < W.heap.size := by obtain ⟨m, hm⟩ := k0; exact DataW.trod_lt m _ _ _ hm
  obtain ⟨fuel0, hf0⟩ := h0
  obtain ⟨x0, hK0, hw0⟩ := (opn_pair (P := Try.prog) Try.underlying59 (by kernel_rfl) (opnF_cons rfl (by kernel_rfl) (opn_pair (P := Try.prog) Try.underlying56 (by kernel_rfl) (opnF_cons rfl (by kernel_rfl) (opn_int Try.underlying3) (opnF_cons rfl (by kernel_rfl) (opn_int Try.underlying3) (opnF_cons rfl (by kernel_rfl) (opn_int Try.underlying3) (opnF_one rfl (by kernel_rfl) (opn_int Try.underlying3)))))) (opnF_one rfl (by kernel_rfl) (opn_slice (k := (Kd.int .i64)) Try.underlying57 (by kernel_rfl) (opn_int Try.underlying3))))) _ enc W _ _ fuel0 _ _ hf0
  obtain ⟨cl0, hcl0, hK0⟩ : ∃ cl, (Value.agg cs0).cells.toList = cl ∧ _ := ⟨_, rfl, hK0⟩
  obtain ⟨⟨a0_0, ⟨a0_1, ⟨a0_2, a0_3⟩⟩⟩, l0_4⟩ := x0
  obtain ⟨_, _, rfl, ⟨_, _, rfl, rfl, ⟨_, _, rfl, rfl, ⟨_, _, rfl, rfl, rfl⟩⟩⟩, ⟨A0_4, c0_4, rfl, hc0_4, hr0_4⟩⟩ := hK0
  obtain ⟨⟨w0_0, ⟨w0_1, ⟨w0_2, w0_3⟩⟩⟩, w0_4⟩ := hw0
  obtain rfl : cs0 = #[.int .i64 a0_0, .int .i64 a0_1, .int .i64 a0_2, .int .i64 a0_3, .slice A0_4 l0_4.length c0_4] := Array.toList_inj.mp hcl0
  clear hcl0
  clear hA0 hval0 hsz0
  have hp := QFnExactRunsOf.pure a0_0 a0_1 a0_2 a0_3 l0_4 w0_0 w0_1 w0_2 w0_3 w0_4
  obtain ⟨k, hk⟩ := hp
  refine (laws_FnExactRunsOf.calls k a0_0 a0_1 a0_2 a0_3 A0_4 c0_4 l0_4 true W hr0_4 hc0_4 hk).mono fun e W' ⟨he, bel0⟩ => ?_
  have bel : Below W.heap.size W W' := bel0
  subst he
  exact ⟨_, rfl, _, _, _, [], _, [], hW', trodAll_mk1 (shut_bool Try.underlying4 _), (trodAll_cons_mk (Below.trod laidOut (by kernel_rfl) (of_decide_eq_true (by kernel_rfl)) k0 bel lt0) trodAll_mk0), rfl, bel.frame _, fun h => by cases h⟩
theorem over : Rows.fnExactRunsOfRow.holds Try.pinned (OpenSpec.ofChange Rows.fnExactRunsOfSpec) :=
  OpenClaim.holds_of_wide 14 Try.f14 rfl rfl rfl rfl rfl rfl rfl ⟨rfl, rfl, rfl, rfl, rfl⟩ rfl rfl rfl rfl rfl (by kernel_rfl) Try.func14 (by kernel_rfl)
    (of_decide_eq_true (by kernel_rfl)) (by unfold Func.isWrapper; first | (rw [if_pos (by decide +kernel)]; kernel_rfl) | (rw [if_neg (by decide +kernel)]; exact ⟨rfl, rfl⟩))
    (fun os started H enc _ => lifted os started H enc)
theorem proved : Rows.FnExactRunsOfSaid := over
#print axioms proved
end Go.Proofs.Ytndeonfbolookaa.fnExactRunsOf
namespace Go.Proofs.Ytndeonfbolookaa
/-- The row, under a short name, for the claim. -/
theorem fnExactRunsOf_holds : Rows.FnExactRunsOfSaid := fnExactRunsOf.proved
end Go.Proofs.Ytndeonfbolookaa
