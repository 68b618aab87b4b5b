/- What comes into laws_FnExactSurfaceOk reads as; its pure statement. Printed by rowgen.py (this session's own). -/
import Derived.Test.YtkbgcdoeedmaiaaOp
import Derived.Test.YtkbgcdoeedmaiaaPFnExactSurfaceOkx3
import Derived.KernelRfl
namespace Go.Proofs.Ytkbgcdoeedmaiaa.TFnExactSurfaceOk
open Go.RowKit Go.Proofs.Ytkbgcdoeedmaiaa.Op Go.Proofs.Ytkbgcdoeedmaiaa.PFnExactSurfaceOk Go.Proofs.YtkbgcdoeedmaiaaW.PrintWords Go.Proofs.YtkbgcdoeedmaiaaW.PrintLast
set_option linter.unusedVariables false
def W33 (b : S33) : Prop := ((Lit.int .i64 b.f0).wf = true) ∧ ((Lit.int .i64 b.f1).wf = true) ∧ ((Lit.int .i64 b.f2).wf = true) ∧ ((Lit.int .i64 b.f3).wf = true)
theorem opn33 : Opn Try.prog 33 k33 W33 := by
  have h := opn_struct (P := Try.prog) Try.underlying33 (by kernel_rfl) (fun x : S33 => (x.f0, x.f1, x.f2, x.f3)) (fun p => ⟨p.1, p.2.1, p.2.2.1, p.2.2.2⟩) (fun _ => rfl) (opnF_cons rfl (by kernel_rfl) (opn_int Try.underlying3) (opnF_cons rfl (by kernel_rfl) (opn_int Try.underlying3) (opnF_cons rfl (by kernel_rfl) (opn_int Try.underlying3) (opnF_one rfl (by kernel_rfl) (opn_int Try.underlying3)))))
  exact h
def PureS : Prop := ∀ (a0_0 : Int) (a0_1 : Int) (l0_2 : List (S33)), ((Lit.int .i64 a0_0).wf = true) → ((Lit.int .i64 a0_1).wf = true) → (l0_2.length ≤ maxLen ∧ ∀ y ∈ l0_2, W33 y) → ∃ k, laws_FnExactSurfaceOk.f k a0_0 a0_1 l0_2 = some true
end Go.Proofs.Ytkbgcdoeedmaiaa.TFnExactSurfaceOk
