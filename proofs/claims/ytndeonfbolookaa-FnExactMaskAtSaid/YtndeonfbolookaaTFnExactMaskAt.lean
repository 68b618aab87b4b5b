/- What comes into laws_FnExactMaskAt reads as; its pure statement. Printed by rowgen.py (this session's own). -/
import Derived.Test.YtndeonfbolookaaOp
import Derived.Test.YtndeonfbolookaaMFnExactMaskAtx6
import Derived.KernelRfl
namespace Go.Proofs.Ytndeonfbolookaa.TFnExactMaskAt
open Go.RowKit Go.Proofs.Ytndeonfbolookaa.Op Go.Proofs.Ytndeonfbolookaa.MFnExactMaskAt Go.Proofs.YtndeonfbolookaaW.PrintWords Go.Proofs.YtndeonfbolookaaW.PrintLast
set_option linter.unusedVariables false
def W38 (b : S38) : Prop := ((Lit.int .i64 b.f0).wf = true) ∧ ((Lit.int .i64 b.f1).wf = true)
theorem opn38 : Opn Try.prog 38 k38 W38 := by
  have h := opn_struct (P := Try.prog) Try.underlying38 (by kernel_rfl) (fun x : S38 => (x.f0, x.f1)) (fun p => ⟨p.1, p.2⟩) (fun _ => rfl) (opnF_cons rfl (by kernel_rfl) (opn_int Try.underlying3) (opnF_one rfl (by kernel_rfl) (opn_int Try.underlying3)))
  exact h
def PureS : Prop := ∀ (l0 : List (List (S38))) (a1 : Bool) (a2 : Int) (a3 : Int), (l0.length ≤ maxLen ∧ ∀ y ∈ l0, (y.length ≤ maxLen ∧ ∀ z ∈ y, (W38 z))) → ((Lit.int .i64 a2).wf = true) → ((Lit.int .i64 a3).wf = true) → ∃ k, laws_FnExactMaskAt.f k l0 a1 a2 a3 = some true
end Go.Proofs.Ytndeonfbolookaa.TFnExactMaskAt
