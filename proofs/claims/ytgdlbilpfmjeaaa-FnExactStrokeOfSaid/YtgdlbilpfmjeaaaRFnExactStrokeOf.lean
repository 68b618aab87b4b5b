/- The row of laws_FnExactStrokeOf: out of its pure statement and the printed contract. Printed by rowgen.py (this session's own). -/
import Derived.Test.YtgdlbilpfmjeaaaRows
import Derived.Test.YtgdlbilpfmjeaaaTFnExactStrokeOf
import Derived.Test.YtgdlbilpfmjeaaaQFnExactStrokeOf
import Derived.WalkKit
import Derived.ProofKit
import Derived.OpenShut
import Derived.ShutString
import Derived.ChangeOld
import Derived.Below
import Derived.SizedLaws
namespace Go.Proofs.Ytgdlbilpfmjeaaa.fnExactStrokeOf
open Go.ChangeShapes Go.WideShapes Go.ChangeAt Go.RowKit Go.Proofs.Ytgdlbilpfmjeaaa.Op Go.Proofs.YtgdlbilpfmjeaaaW.PrintWords Go.Proofs.YtgdlbilpfmjeaaaW.PrintLast Go.Proofs.Ytgdlbilpfmjeaaa.MFnExactStrokeOf Go.Proofs.Ytgdlbilpfmjeaaa.TFnExactStrokeOf
open Go.ChangeMaps (open_string shut_string)
set_option linter.unusedVariables false
theorem own : ownKnob Try.prog.godebug = none := by kernel_rfl
theorem laidOut : laidOutB Try.prog = true := by kernel_rfl
set_option maxHeartbeats 8000000 in
set_option maxRecDepth 100000 in
theorem lifted (os : Os) (started : os.Started) (H : Type) (enc : TypeId × Value → H) :
    ReturnsInHanded {} Try.checked os 6 .any (Rows.fnExactStrokeOfSpec.pre6 enc Try.prog Try.f6 Rows.fnExactStrokeOfRow.domain false) (Rows.fnExactStrokeOfSpec.post enc Try.prog Try.f6 false true false false) := by
  refine returnsInHanded_of_change_sized (C := Try.checked) own started (by kernel_rfl) Try.func6
    (ChangeSpec.witness6 (enc := enc) (C := Try.checked) false ⟨#[], #[.slice none 0 0, .int .i64 0], []⟩ 8 (by kernel_rfl) (by kernel_rfl) (by kernel_rfl) (by kernel_rfl)) ?_
  intro W base args ds gs before hval0 hW hcnd hsz0 _
  have hval : ∀ (j : Nat) t v, Try.f6.params[j]? = some t → args[j]? = some v → Value.okWide Try.prog W .any base t v := hval0
  have hW' := hW
  obtain ⟨p, q, hA0, hV, rfl, hfz, hnd⟩ := hW
  have hA : DataW.TrodAll enc Try.prog W 0 (fun _ => true) true Try.f6.params.toList args.toList ds p := hA0
  rw [Try.params6] at hA hval
  obtain ⟨v0, vs0, d0, ds0, p0, q0, hargs, rfl, rfl, h0, r0⟩ := trodAll_cons hA
  obtain ⟨v1, vs1, d1, ds1, p1, q1, rfl, rfl, rfl, h1, r1⟩ := trodAll_cons r0
  obtain ⟨rfl, rfl, rfl⟩ := trodAll_nil r1
  obtain rfl : args = #[v0, v1] := by cases args; simp_all
  obtain ⟨rfl, rfl⟩ := trodVars_none hV
  obtain ⟨A0, len0, cap0, rfl⟩ := okWide_slice Try.underlying63 (hval 0 63 v0 rfl rfl)
  have k0 := h0
  have lt0 : ∀ x ∈ p0, x.block < W.heap.size := by obtain ⟨m, hm⟩ := k0; exact DataW.trod_lt m _ _ _ hm
  obtain ⟨fuel0, hf0⟩ := h0
  obtain ⟨l0, ⟨B0, c0, hcs0, hc0, hr0⟩, w0⟩ := (opn_slice (k := (Kd.slice 157 k157)) Try.underlying63 (by kernel_rfl) (opn_slice (k := k157) Try.underlying100 (by kernel_rfl) opn157)) _ enc W _ _ fuel0 _ _ hf0
  obtain ⟨rfl, rfl, ec0⟩ : A0 = B0 ∧ len0 = l0.length ∧ cap0 = c0 := by simpa [Value.cells] using hcs0
  obtain rfl := ec0.symm
  obtain ⟨a1, rfl, rfl, rfl, w1⟩ := open_int Try.underlying3 (hval 1 3 v1 rfl rfl) h1
  clear hA0 hval0 hsz0
  have hp := QFnExactStrokeOf.pure l0 a1 w0 w1
  obtain ⟨k, hk⟩ := hp
  refine (laws_FnExactStrokeOf.calls k A0 c0 l0 a1 true W hr0 hc0 rfl hk).mono fun e W' ⟨he, bel0⟩ => ?_
  have bel : Below W.heap.size W W' := bel0
  subst he
  exact ⟨_, rfl, _, _, _, [], _, [], hW', trodAll_mk1 (shut_bool Try.underlying4 _), (trodAll_cons_mk (Below.trod laidOut (by kernel_rfl) (of_decide_eq_true (by kernel_rfl)) k0 bel lt0) (trodAll_cons_mk (shut_int Try.underlying3 w1) trodAll_mk0)), rfl, bel.frame _, fun h => by cases h⟩
theorem over : Rows.fnExactStrokeOfRow.holds Try.pinned (OpenSpec.ofChange Rows.fnExactStrokeOfSpec) :=
  OpenClaim.holds_of_wide 6 Try.f6 rfl rfl rfl rfl rfl rfl rfl ⟨rfl, rfl, rfl, rfl, rfl⟩ rfl rfl rfl rfl rfl (by kernel_rfl) Try.func6 (by kernel_rfl)
    (of_decide_eq_true (by kernel_rfl)) (by unfold Func.isWrapper; first | (rw [if_pos (by decide +kernel)]; kernel_rfl) | (rw [if_neg (by decide +kernel)]; exact ⟨rfl, rfl⟩))
    (fun os started H enc _ => lifted os started H enc)
theorem proved : Rows.FnExactStrokeOfSaid := over
#print axioms proved
end Go.Proofs.Ytgdlbilpfmjeaaa.fnExactStrokeOf
namespace Go.Proofs.Ytgdlbilpfmjeaaa
/-- The row, under a short name, for the claim. -/
theorem fnExactStrokeOf_holds : Rows.FnExactStrokeOfSaid := fnExactStrokeOf.proved
end Go.Proofs.Ytgdlbilpfmjeaaa
