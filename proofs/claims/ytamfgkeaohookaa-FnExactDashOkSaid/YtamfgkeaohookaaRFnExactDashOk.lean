/- The row of laws_FnExactDashOk: out of its pure statement and the printed contract. Printed by rowgen.py (this session's own). -/
import Derived.Test.YtamfgkeaohookaaRows
import Derived.Test.YtamfgkeaohookaaTFnExactDashOk
import Derived.Test.YtamfgkeaohookaaQFnExactDashOk
import Derived.WalkKit
import Derived.ProofKit
import Derived.OpenShut
import Derived.ShutString
import Derived.ChangeOld
import Derived.Below
import Derived.SizedLaws
namespace Go.Proofs.Ytamfgkeaohookaa.fnExactDashOk
open Go.ChangeShapes Go.WideShapes Go.ChangeAt Go.RowKit Go.Proofs.Ytamfgkeaohookaa.Op Go.Proofs.YtamfgkeaohookaaW.PrintWords Go.Proofs.YtamfgkeaohookaaW.PrintLast Go.Proofs.Ytamfgkeaohookaa.PFnExactDashOk Go.Proofs.Ytamfgkeaohookaa.TFnExactDashOk
open Go.ChangeMaps (open_string shut_string)
set_option linter.unusedVariables false
theorem own : ownKnob Try.prog.godebug = none := by kernel_rfl
theorem laidOut : laidOutB Try.prog = true := by kernel_rfl
set_option maxRecDepth 100000 in
theorem lifted (os : Os) (started : os.Started) (H : Type) (enc : TypeId × Value → H) :
    ReturnsInHanded {} Try.checked os 6 .any (Rows.fnExactDashOkSpec.pre6 enc Try.prog Try.f6 Rows.fnExactDashOkRow.domain false) (Rows.fnExactDashOkSpec.post enc Try.prog Try.f6 false true false false) := by
  refine returnsInHanded_of_change_sized (C := Try.checked) own started (by kernel_rfl) Try.func6
    (ChangeSpec.witness6 (enc := enc) (C := Try.checked) false ⟨#[], #[.slice none 0 0], []⟩ 8 (by kernel_rfl) (by kernel_rfl) (by kernel_rfl) (by kernel_rfl)) ?_
  intro W base args ds gs before hval0 hW hcnd hsz0 _
  have hval : ∀ (j : Nat) t v, Try.f6.params[j]? = some t → args[j]? = some v → Value.okWide Try.prog W .any base t v := hval0
  have hW' := hW
  obtain ⟨p, q, hA0, hV, rfl, hfz, hnd⟩ := hW
  have hA : DataW.TrodAll enc Try.prog W 0 (fun _ => true) true Try.f6.params.toList args.toList ds p := hA0
  rw [Try.params6] at hA hval
  obtain ⟨v0, vs0, d0, ds0, p0, q0, hargs, rfl, rfl, h0, r0⟩ := trodAll_cons hA
  obtain ⟨rfl, rfl, rfl⟩ := trodAll_nil r0
  obtain rfl : args = #[v0] := by cases args; simp_all
  obtain ⟨rfl, rfl⟩ := trodVars_none hV
  obtain ⟨A0, len0, cap0, rfl⟩ := okWide_slice Try.underlying30 (hval 0 30 v0 rfl rfl)
  have k0 := h0
  have lt0 : ∀ x ∈ p0, x.block < W.heap.size := by obtain ⟨m, hm⟩ := k0; exact DataW.trod_lt m _ _ _ hm
  obtain ⟨fuel0, hf0⟩ := h0
  obtain ⟨l0, ⟨B0, c0, hcs0, hc0, hr0⟩, w0⟩ := (opn_slice (k := (Kd.int .i64)) Try.underlying30 (by kernel_rfl) (opn_int Try.underlying3)) _ enc W _ _ fuel0 _ _ hf0
  obtain ⟨rfl, rfl, ec0⟩ : A0 = B0 ∧ len0 = l0.length ∧ cap0 = c0 := by simpa [Value.cells] using hcs0
  obtain rfl := ec0.symm
  clear hA0 hval0 hsz0
  have hp := QFnExactDashOk.pure l0 w0
  obtain ⟨k, hk⟩ := hp
  refine (laws_FnExactDashOk.calls k A0 c0 l0 true W hr0 hc0 hk).mono fun e W' ⟨he, bel0⟩ => ?_
  have bel : Below W.heap.size W W' := bel0
  subst he
  exact ⟨_, rfl, _, _, _, [], _, [], hW', trodAll_mk1 (shut_bool Try.underlying4 _), (trodAll_cons_mk (Below.trod laidOut (by kernel_rfl) (of_decide_eq_true (by kernel_rfl)) k0 bel lt0) trodAll_mk0), rfl, bel.frame _, fun h => by cases h⟩
theorem over : Rows.fnExactDashOkRow.holds Try.pinned (OpenSpec.ofChange Rows.fnExactDashOkSpec) :=
  OpenClaim.holds_of_wide 6 Try.f6 rfl rfl rfl rfl rfl rfl rfl ⟨rfl, rfl, rfl, rfl, rfl⟩ rfl rfl rfl rfl rfl (by kernel_rfl) Try.func6 (by kernel_rfl)
    (of_decide_eq_true (by kernel_rfl)) (by unfold Func.isWrapper; first | (rw [if_pos (by decide +kernel)]; kernel_rfl) | (rw [if_neg (by decide +kernel)]; exact ⟨rfl, rfl⟩))
    (fun os started H enc _ => lifted os started H enc)
theorem proved : Rows.FnExactDashOkSaid := over
#print axioms proved
end Go.Proofs.Ytamfgkeaohookaa.fnExactDashOk
namespace Go.Proofs.Ytamfgkeaohookaa
/-- The row, under a short name, for the claim. -/
theorem fnExactDashOk_holds : Rows.FnExactDashOkSaid := fnExactDashOk.proved
end Go.Proofs.Ytamfgkeaohookaa
