/- What comes into laws_FnExactWindOf reads as; its pure statement. Printed by rowgen.py (this session's own). -/
import Derived.Test.YtamfgkeaohookaaOp
import Derived.Test.YtamfgkeaohookaaPFnExactWindOfx5
import Derived.KernelRfl
namespace Go.Proofs.Ytamfgkeaohookaa.TFnExactWindOf
open Go.RowKit Go.Proofs.Ytamfgkeaohookaa.Op Go.Proofs.Ytamfgkeaohookaa.PFnExactWindOf Go.Proofs.YtamfgkeaohookaaW.PrintWords Go.Proofs.YtamfgkeaohookaaW.PrintLast
set_option linter.unusedVariables false
def W35 (b : S35) : Prop := ((Lit.int .i64 b.f0).wf = true) ∧ ((Lit.int .i64 b.f1).wf = true)
theorem opn35 : Opn Try.prog 35 k35 W35 := by
  have h := opn_struct (P := Try.prog) Try.underlying35 (by kernel_rfl) (fun x : S35 => (x.f0, x.f1)) (fun p => ⟨p.1, p.2⟩) (fun _ => rfl) (opnF_cons rfl (by kernel_rfl) (opn_int Try.underlying3) (opnF_one rfl (by kernel_rfl) (opn_int Try.underlying3)))
  exact h
def PureS : Prop := ∀ (l0 : List (S35)) (a1_0 : Int) (a1_1 : Int), (l0.length ≤ maxLen ∧ ∀ y ∈ l0, (W35 y)) → ((Lit.int .i64 a1_0).wf = true) → ((Lit.int .i64 a1_1).wf = true) → ∃ k, laws_FnExactWindOf.f k l0 a1_0 a1_1 = some true
end Go.Proofs.Ytamfgkeaohookaa.TFnExactWindOf
