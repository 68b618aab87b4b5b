/- What comes into laws_FnExactSideOf reads as; its pure statement. Printed by rowgen.py (this session's own). -/
import Derived.Test.YtkbgcdoeedmaiaaOp
import Derived.Test.YtkbgcdoeedmaiaaPFnExactSideOfx3
import Derived.KernelRfl
namespace Go.Proofs.Ytkbgcdoeedmaiaa.TFnExactSideOf
open Go.RowKit Go.Proofs.Ytkbgcdoeedmaiaa.Op Go.Proofs.Ytkbgcdoeedmaiaa.PFnExactSideOf Go.Proofs.YtkbgcdoeedmaiaaW.PrintWords Go.Proofs.YtkbgcdoeedmaiaaW.PrintLast
set_option linter.unusedVariables false
def PureS : Prop := ∀ (a0_0 : Int) (a0_1 : Int) (a1_0 : Int) (a1_1 : Int) (a2 : Int), ((Lit.int .i64 a0_0).wf = true) → ((Lit.int .i64 a0_1).wf = true) → ((Lit.int .i64 a1_0).wf = true) → ((Lit.int .i64 a1_1).wf = true) → ((Lit.int .i64 a2).wf = true) → ∃ k, laws_FnExactSideOf.f k a0_0 a0_1 a1_0 a1_1 a2 = some true
end Go.Proofs.Ytkbgcdoeedmaiaa.TFnExactSideOf
