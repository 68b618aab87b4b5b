/- The row of laws_FnExactUnderOf: out of its pure statement and the printed contract. Printed by rowgen.py (this session's own). -/
import Derived.Test.YtjfienkbcacijaaRows
import Derived.Test.YtjfienkbcacijaaTFnExactUnderOf
import Derived.Test.YtjfienkbcacijaaQFnExactUnderOf
import Derived.WalkKit
import Derived.ProofKit
import Derived.OpenShut
import Derived.ShutString
import Derived.ChangeOld
import Derived.Below
import Derived.SizedLaws
namespace Go.Proofs.Ytjfienkbcacijaa.fnExactUnderOf
open Go.ChangeShapes Go.WideShapes Go.ChangeAt Go.RowKit Go.Proofs.Ytjfienkbcacijaa.Op Go.Proofs.YtjfienkbcacijaaW.PrintWords Go.Proofs.YtjfienkbcacijaaW.PrintLast Go.Proofs.Ytjfienkbcacijaa.MFnExactUnderOf Go.Proofs.Ytjfienkbcacijaa.TFnExactUnderOf
open Go.ChangeMaps (open_string shut_string)
set_option linter.unusedVariables false
theorem own : ownKnob Try.prog.godebug = none := by kernel_rfl
theorem laidOut : laidOutB Try.prog = true := by kernel_rfl
set_option maxHeartbeats 8000000 in
set_option maxRecDepth 100000 in
theorem lifted (os : Os) (started : os.Started) (H : Type) (enc : TypeId × Value → H) :
    ReturnsInHanded {} Try.checked os 7 .any (Rows.fnExactUnderOfSpec.pre6 enc Try.prog Try.f7 Rows.fnExactUnderOfRow.domain false) (Rows.fnExactUnderOfSpec.post enc Try.prog Try.f7 false true false false) := by
  refine returnsInHanded_of_change_sized (C := Try.checked) own started (by kernel_rfl) Try.func7
    (ChangeSpec.witness6 (enc := enc) (C := Try.checked) false ⟨#[], #[.agg #[.slice none 0 0], .int .i64 0], []⟩ 8 (by kernel_rfl) (by kernel_rfl) (by kernel_rfl) (by kernel_rfl)) ?_
  intro W base args ds gs before hval0 hW hcnd hsz0 _
  have hval : ∀ (j : Nat) t v, Try.f7.params[j]? = some t → args[j]? = some v → Value.okWide Try.prog W .any base t v := hval0
  have hW' := hW
  obtain ⟨p, q, hA0, hV, rfl, hfz, hnd⟩ := hW
  have hA : DataW.TrodAll enc Try.prog W 0 (fun _ => true) true Try.f7.params.toList args.toList ds p := hA0
  rw [Try.params7] at hA hval
  obtain ⟨v0, vs0, d0, ds0, p0, q0, hargs, rfl, rfl, h0, r0⟩ := trodAll_cons hA
  obtain ⟨v1, vs1, d1, ds1, p1, q1, rfl, rfl, rfl, h1, r1⟩ := trodAll_cons r0
  obtain ⟨rfl, rfl, rfl⟩ := trodAll_nil r1
  obtain rfl : args = #[v0, v1] := by cases args; simp_all
  obtain ⟨rfl, rfl⟩ := trodVars_none hV
  obtain ⟨cs0, rfl, hsz0⟩ := okWide_struct Try.underlying48 (hval 0 48 v0 rfl rfl)
  have k0 := h0
  have lt0 : ∀ x ∈ p0, x.block < W.heap.size := by obtain ⟨m, hm⟩ := k0; exact DataW.trod_lt m _ _ _ hm
  obtain ⟨fuel0, hf0⟩ := h0
  obtain ⟨x0, hK0, hw0⟩ := (opn_pair (P := Try.prog) Try.underlying48 (by kernel_rfl) (opnF_one rfl (by kernel_rfl) (opn_slice (k := k118) Try.underlying46 (by kernel_rfl) opn118))) _ enc W _ _ fuel0 _ _ hf0
  obtain ⟨cl0, hcl0, hK0⟩ : ∃ cl, (Value.agg cs0).cells.toList = cl ∧ _ := ⟨_, rfl, hK0⟩
  obtain ⟨l0_0, rfl⟩ : ∃ z, z = x0 := ⟨_, rfl⟩
  obtain ⟨A0_0, c0_0, rfl, hc0_0, hr0_0⟩ := hK0
  have w0_0 := hw0
  obtain rfl : cs0 = #[.slice A0_0 l0_0.length c0_0] := Array.toList_inj.mp hcl0
  clear hcl0
  obtain ⟨a1, rfl, rfl, rfl, w1⟩ := open_int Try.underlying3 (hval 1 3 v1 rfl rfl) h1
  clear hA0 hval0 hsz0
  have hp := QFnExactUnderOf.pure l0_0 a1 w0_0 w1
  obtain ⟨k, hk⟩ := hp
  refine (laws_FnExactUnderOf.calls k A0_0 c0_0 l0_0 a1 true W hr0_0 hc0_0 rfl hk).mono fun e W' ⟨he, bel0⟩ => ?_
  have bel : Below W.heap.size W W' := bel0
  subst he
  exact ⟨_, rfl, _, _, _, [], _, [], hW', trodAll_mk1 (shut_bool Try.underlying4 _), (trodAll_cons_mk (Below.trod laidOut (by kernel_rfl) (of_decide_eq_true (by kernel_rfl)) k0 bel lt0) (trodAll_cons_mk (shut_int Try.underlying3 w1) trodAll_mk0)), rfl, bel.frame _, fun h => by cases h⟩
theorem over : Rows.fnExactUnderOfRow.holds Try.pinned (OpenSpec.ofChange Rows.fnExactUnderOfSpec) :=
  OpenClaim.holds_of_wide 7 Try.f7 rfl rfl rfl rfl rfl rfl rfl ⟨rfl, rfl, rfl, rfl, rfl⟩ rfl rfl rfl rfl rfl (by kernel_rfl) Try.func7 (by kernel_rfl)
    (of_decide_eq_true (by kernel_rfl)) (by unfold Func.isWrapper; first | (rw [if_pos (by decide +kernel)]; kernel_rfl) | (rw [if_neg (by decide +kernel)]; exact ⟨rfl, rfl⟩))
    (fun os started H enc _ => lifted os started H enc)
theorem proved : Rows.FnExactUnderOfSaid := over
#print axioms proved
end Go.Proofs.Ytjfienkbcacijaa.fnExactUnderOf
namespace Go.Proofs.Ytjfienkbcacijaa
/-- The row, under a short name, for the claim. -/
theorem fnExactUnderOf_holds : Rows.FnExactUnderOfSaid := fnExactUnderOf.proved
end Go.Proofs.Ytjfienkbcacijaa
