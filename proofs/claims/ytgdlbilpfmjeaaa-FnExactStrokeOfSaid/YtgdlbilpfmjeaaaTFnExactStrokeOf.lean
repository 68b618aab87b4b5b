/- What comes into laws_FnExactStrokeOf reads as; its pure statement. Printed by rowgen.py (this session's own). -/
import Derived.Test.YtgdlbilpfmjeaaaOp
import Derived.Test.YtgdlbilpfmjeaaaMFnExactStrokeOfx9
import Derived.KernelRfl
namespace Go.Proofs.Ytgdlbilpfmjeaaa.TFnExactStrokeOf
open Go.RowKit Go.Proofs.Ytgdlbilpfmjeaaa.Op Go.Proofs.Ytgdlbilpfmjeaaa.MFnExactStrokeOf Go.Proofs.YtgdlbilpfmjeaaaW.PrintWords Go.Proofs.YtgdlbilpfmjeaaaW.PrintLast
set_option linter.unusedVariables false
def W157 (b : S157) : Prop := ((Lit.int .i64 b.f0).wf = true) ∧ ((Lit.int .i64 b.f1).wf = true)
theorem opn157 : Opn Try.prog 157 k157 W157 := by
  have h := opn_struct (P := Try.prog) Try.underlying157 (by kernel_rfl) (fun x : S157 => (x.f0, x.f1)) (fun p => ⟨p.1, p.2⟩) (fun _ => rfl) (opnF_cons rfl (by kernel_rfl) (opn_int Try.underlying3) (opnF_one rfl (by kernel_rfl) (opn_int Try.underlying3)))
  exact h
def PureS : Prop := ∀ (l0 : List (List (S157))) (a1 : Int), (l0.length ≤ maxLen ∧ ∀ y ∈ l0, (y.length ≤ maxLen ∧ ∀ z ∈ y, (W157 z))) → ((Lit.int .i64 a1).wf = true) → ∃ k, laws_FnExactStrokeOf.f k l0 a1 = some true
end Go.Proofs.Ytgdlbilpfmjeaaa.TFnExactStrokeOf
