/- What comes into laws_FnExactMaskBy reads as; its pure statement. Printed by rowgen.py (this session's own). -/
import Derived.Test.YtgdlbilpfmjeaaaOp
import Derived.Test.YtgdlbilpfmjeaaaMFnExactMaskByx12
import Derived.KernelRfl
namespace Go.Proofs.Ytgdlbilpfmjeaaa.TFnExactMaskBy
open Go.RowKit Go.Proofs.Ytgdlbilpfmjeaaa.Op Go.Proofs.Ytgdlbilpfmjeaaa.MFnExactMaskBy Go.Proofs.YtgdlbilpfmjeaaaW.PrintWords Go.Proofs.YtgdlbilpfmjeaaaW.PrintLast
set_option linter.unusedVariables false
def W133 (b : S133) : Prop := ((Lit.int .i64 b.f0).wf = true) ∧ ((Lit.int .i64 b.f1).wf = true) ∧ ((Lit.int .i64 b.f2).wf = true) ∧ ((Lit.int .i64 b.f3).wf = true)
theorem opn133 : Opn Try.prog 133 k133 W133 := by
  have h := opn_struct (P := Try.prog) Try.underlying133 (by kernel_rfl) (fun x : S133 => (x.f0, x.f1, x.f2, x.f3)) (fun p => ⟨p.1, p.2.1, p.2.2.1, p.2.2.2⟩) (fun _ => rfl) (opnF_cons rfl (by kernel_rfl) (opn_int Try.underlying3) (opnF_cons rfl (by kernel_rfl) (opn_int Try.underlying3) (opnF_cons rfl (by kernel_rfl) (opn_int Try.underlying3) (opnF_one rfl (by kernel_rfl) (opn_int Try.underlying3)))))
  exact h
def PureS : Prop := ∀ (a0_0 : Int) (a0_1 : Int) (a0_2 : Int) (a0_3 : Int) (l1 : List (S133)), ((Lit.int .i64 a0_0).wf = true) → ((Lit.int .i64 a0_1).wf = true) → ((Lit.int .i64 a0_2).wf = true) → ((Lit.int .i64 a0_3).wf = true) → (l1.length ≤ maxLen ∧ ∀ y ∈ l1, (W133 y)) → ∃ k, laws_FnExactMaskBy.f k a0_0 a0_1 a0_2 a0_3 l1 = some true
end Go.Proofs.Ytgdlbilpfmjeaaa.TFnExactMaskBy
