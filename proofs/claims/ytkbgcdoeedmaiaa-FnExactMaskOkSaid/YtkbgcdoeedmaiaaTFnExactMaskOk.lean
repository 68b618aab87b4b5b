/- What comes into laws_FnExactMaskOk reads as; its pure statement. Printed by rowgen.py (this session's own). -/
import Derived.Test.YtkbgcdoeedmaiaaOp
import Derived.Test.YtkbgcdoeedmaiaaPFnExactMaskOkx4
import Derived.KernelRfl
namespace Go.Proofs.Ytkbgcdoeedmaiaa.TFnExactMaskOk
open Go.RowKit Go.Proofs.Ytkbgcdoeedmaiaa.Op Go.Proofs.Ytkbgcdoeedmaiaa.PFnExactMaskOk Go.Proofs.YtkbgcdoeedmaiaaW.PrintWords Go.Proofs.YtkbgcdoeedmaiaaW.PrintLast
set_option linter.unusedVariables false
def PureS : Prop := ∀ (a0_0 : Int) (a0_1 : Int) (a0_2 : Int) (a0_3 : Int) (l0_4 : List Int), ((Lit.int .i64 a0_0).wf = true) → ((Lit.int .i64 a0_1).wf = true) → ((Lit.int .i64 a0_2).wf = true) → ((Lit.int .i64 a0_3).wf = true) → (l0_4.length ≤ maxLen ∧ ∀ y ∈ l0_4, (Lit.int .i64 y).wf = true) → ∃ k, laws_FnExactMaskOk.f k a0_0 a0_1 a0_2 a0_3 l0_4 = some true
end Go.Proofs.Ytkbgcdoeedmaiaa.TFnExactMaskOk
