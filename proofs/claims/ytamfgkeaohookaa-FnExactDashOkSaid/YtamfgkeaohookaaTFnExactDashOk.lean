/- What comes into laws_FnExactDashOk reads as; its pure statement. Printed by rowgen.py (this session's own). -/
import Derived.Test.YtamfgkeaohookaaOp
import Derived.Test.YtamfgkeaohookaaPFnExactDashOkx1
import Derived.KernelRfl
namespace Go.Proofs.Ytamfgkeaohookaa.TFnExactDashOk
open Go.RowKit Go.Proofs.Ytamfgkeaohookaa.Op Go.Proofs.Ytamfgkeaohookaa.PFnExactDashOk Go.Proofs.YtamfgkeaohookaaW.PrintWords Go.Proofs.YtamfgkeaohookaaW.PrintLast
set_option linter.unusedVariables false
def PureS : Prop := ∀ (l0 : List Int), (l0.length ≤ maxLen ∧ ∀ y ∈ l0, (Lit.int .i64 y).wf = true) → ∃ k, laws_FnExactDashOk.f k l0 = some true
end Go.Proofs.Ytamfgkeaohookaa.TFnExactDashOk
