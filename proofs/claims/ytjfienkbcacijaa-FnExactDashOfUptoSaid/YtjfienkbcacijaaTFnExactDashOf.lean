/- What comes into laws_FnExactDashOf reads as; its pure statement. Printed by rowgen.py (this session's own). -/
import Derived.Test.YtjfienkbcacijaaOp
import Derived.Test.YtjfienkbcacijaaMFnExactDashOfx10
import Derived.KernelRfl
namespace Go.Proofs.Ytjfienkbcacijaa.TFnExactDashOf
open Go.RowKit Go.Proofs.Ytjfienkbcacijaa.Op Go.Proofs.Ytjfienkbcacijaa.MFnExactDashOf Go.Proofs.YtjfienkbcacijaaW.PrintWords Go.Proofs.YtjfienkbcacijaaW.PrintLast
set_option linter.unusedVariables false
def W89 (b : S89) : Prop := ((Lit.int .i64 b.f0).wf = true) ∧ ((Lit.int .i64 b.f1).wf = true)
theorem opn89 : Opn Try.prog 89 k89 W89 := by
  have h := opn_struct (P := Try.prog) Try.underlying89 (by kernel_rfl) (fun x : S89 => (x.f0, x.f1)) (fun p => ⟨p.1, p.2⟩) (fun _ => rfl) (opnF_cons rfl (by kernel_rfl) (opn_int Try.underlying3) (opnF_one rfl (by kernel_rfl) (opn_int Try.underlying3)))
  exact h
def PureS : Prop := ∀ (l0 : List (S89)) (l1 : List Int) (a2 : Int), l0.length ≤ 400000 → (l0.length ≤ maxLen ∧ ∀ y ∈ l0, (W89 y)) → (l1.length ≤ maxLen ∧ ∀ y ∈ l1, ((Lit.int .i64 y).wf = true)) → ((Lit.int .i64 a2).wf = true) → ∃ k, laws_FnExactDashOf.f k l0 l1 a2 = some true
end Go.Proofs.Ytjfienkbcacijaa.TFnExactDashOf
