/- The row of laws_FnExactFlatOf: out of its pure statement and the printed contract. Printed by rowgen.py (this session's own). -/
import Derived.Test.YtdpnimngndemiaaRows
import Derived.Test.YtdpnimngndemiaaTFnExactFlatOf
import Derived.Test.YtdpnimngndemiaaQFnExactFlatOf
import Derived.WalkKit
import Derived.ProofKit
import Derived.OpenShut
import Derived.ShutString
import Derived.ChangeOld
import Derived.Below
import Derived.SizedLaws
namespace Go.Proofs.Ytdpnimngndemiaa.fnExactFlatOf
open Go.ChangeShapes Go.WideShapes Go.ChangeAt Go.RowKit Go.Proofs.Ytdpnimngndemiaa.Op Go.Proofs.YtdpnimngndemiaaW.PrintWords Go.Proofs.YtdpnimngndemiaaW.PrintLast Go.Proofs.Ytdpnimngndemiaa.MFnExactFlatOf Go.Proofs.Ytdpnimngndemiaa.TFnExactFlatOf
open Go.ChangeMaps (open_string shut_string)
set_option linter.unusedVariables false
theorem own : ownKnob Try.prog.godebug = none := by kernel_rfl
theorem laidOut : laidOutB Try.prog = true := by kernel_rfl
set_option maxHeartbeats 8000000 in
set_option maxRecDepth 100000 in
theorem lifted (os : Os) (started : os.Started) (H : Type) (enc : TypeId × Value → H) :
    ReturnsInHanded {} Try.checked os 3 .any (Rows.fnExactFlatOfSpec.pre6 enc Try.prog Try.f3 Rows.fnExactFlatOfRow.domain false) (Rows.fnExactFlatOfSpec.post enc Try.prog Try.f3 false true false false) := by
  refine returnsInHanded_of_change_sized (C := Try.checked) own started (by kernel_rfl) Try.func3
    (ChangeSpec.witness6 (enc := enc) (C := Try.checked) false ⟨#[], #[.agg #[.slice none 0 0, .slice none 0 0]], []⟩ 8 (by kernel_rfl) (by kernel_rfl) (by kernel_rfl) (by kernel_rfl)) ?_
  intro W base args ds gs before hval0 hW hcnd hsz0 _
  have hval : ∀ (j : Nat) t v, Try.f3.params[j]? = some t → args[j]? = some v → Value.okWide Try.prog W .any base t v := hval0
  have hW' := hW
  obtain ⟨p, q, hA0, hV, rfl, hfz, hnd⟩ := hW
  have hA : DataW.TrodAll enc Try.prog W 0 (fun _ => true) true Try.f3.params.toList args.toList ds p := hA0
  rw [Try.params3] at hA hval
  obtain ⟨v0, vs0, d0, ds0, p0, q0, hargs, rfl, rfl, h0, r0⟩ := trodAll_cons hA
  obtain ⟨rfl, rfl, rfl⟩ := trodAll_nil r0
  obtain rfl : args = #[v0] := by cases args; simp_all
  obtain ⟨rfl, rfl⟩ := trodVars_none hV
  obtain ⟨cs0, rfl, hsz0⟩ := okWide_struct Try.underlying25 (hval 0 25 v0 rfl rfl)
  have k0 := h0
  have lt0 : ∀ x ∈ p0, x.block < W.heap.size := by obtain ⟨m, hm⟩ := k0; exact DataW.trod_lt m _ _ _ hm
  obtain ⟨fuel0, hf0⟩ := h0
  obtain ⟨x0, hK0, hw0⟩ := (opn_pair (P := Try.prog) Try.underlying25 (by kernel_rfl) (opnF_cons rfl (by kernel_rfl) (opn_slice (k := (Kd.int .i64)) Try.underlying22 (by kernel_rfl) (opn_int Try.underlying3)) (opnF_one rfl (by kernel_rfl) (opn_slice (k := k69) Try.underlying23 (by kernel_rfl) opn69)))) _ enc W _ _ fuel0 _ _ hf0
  obtain ⟨cl0, hcl0, hK0⟩ : ∃ cl, (Value.agg cs0).cells.toList = cl ∧ _ := ⟨_, rfl, hK0⟩
  obtain ⟨l0_0, l0_1⟩ := x0
  obtain ⟨_, _, rfl, ⟨A0_0, c0_0, rfl, hc0_0, hr0_0⟩, ⟨A0_1, c0_1, rfl, hc0_1, hr0_1⟩⟩ := hK0
  obtain ⟨w0_0, w0_1⟩ := hw0
  obtain rfl : cs0 = #[.slice A0_0 l0_0.length c0_0, .slice A0_1 l0_1.length c0_1] := Array.toList_inj.mp hcl0
  clear hcl0
  clear hA0 hval0 hsz0
  have hp := QFnExactFlatOf.pure l0_0 l0_1 w0_0 w0_1
  obtain ⟨k, hk⟩ := hp
  refine (laws_FnExactFlatOf.calls k A0_0 c0_0 l0_0 A0_1 c0_1 l0_1 true W hr0_0 hc0_0 hr0_1 hc0_1 rfl hk).mono fun e W' ⟨he, bel0⟩ => ?_
  have bel : Below W.heap.size W W' := bel0
  subst he
  exact ⟨_, rfl, _, _, _, [], _, [], hW', trodAll_mk1 (shut_bool Try.underlying4 _), (trodAll_cons_mk (Below.trod laidOut (by kernel_rfl) (of_decide_eq_true (by kernel_rfl)) k0 bel lt0) trodAll_mk0), rfl, bel.frame _, fun h => by cases h⟩
theorem over : Rows.fnExactFlatOfRow.holds Try.pinned (OpenSpec.ofChange Rows.fnExactFlatOfSpec) :=
  OpenClaim.holds_of_wide 3 Try.f3 rfl rfl rfl rfl rfl rfl rfl ⟨rfl, rfl, rfl, rfl, rfl⟩ rfl rfl rfl rfl rfl (by kernel_rfl) Try.func3 (by kernel_rfl)
    (of_decide_eq_true (by kernel_rfl)) (by unfold Func.isWrapper; first | (rw [if_pos (by decide +kernel)]; kernel_rfl) | (rw [if_neg (by decide +kernel)]; exact ⟨rfl, rfl⟩))
    (fun os started H enc _ => lifted os started H enc)
theorem proved : Rows.FnExactFlatOfSaid := over
#print axioms proved
end Go.Proofs.Ytdpnimngndemiaa.fnExactFlatOf
namespace Go.Proofs.Ytdpnimngndemiaa
/-- The row, under a short name, for the claim. -/
theorem fnExactFlatOf_holds : Rows.FnExactFlatOfSaid := fnExactFlatOf.proved
end Go.Proofs.Ytdpnimngndemiaa
