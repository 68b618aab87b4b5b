/- What comes into laws_FnExactQuadOf reads as; its pure statement. Printed by rowgen.py (this session's own). -/
import Derived.Test.YtndeonfbolookaaOp
import Derived.Test.YtndeonfbolookaaPFnExactQuadOfx4
import Derived.KernelRfl
namespace Go.Proofs.Ytndeonfbolookaa.TFnExactQuadOf
open Go.RowKit Go.Proofs.Ytndeonfbolookaa.Op Go.Proofs.Ytndeonfbolookaa.PFnExactQuadOf Go.Proofs.YtndeonfbolookaaW.PrintWords Go.Proofs.YtndeonfbolookaaW.PrintLast
set_option linter.unusedVariables false
def PureS : Prop := ∀ (a0_0 : Int) (a0_1 : Int) (a1_0 : Int) (a1_1 : Int) (a2 : Int), ((Lit.int .i64 a0_0).wf = true) → ((Lit.int .i64 a0_1).wf = true) → ((Lit.int .i64 a1_0).wf = true) → ((Lit.int .i64 a1_1).wf = true) → ((Lit.int .i64 a2).wf = true) → ∃ k, laws_FnExactQuadOf.f k a0_0 a0_1 a1_0 a1_1 a2 = some true
end Go.Proofs.Ytndeonfbolookaa.TFnExactQuadOf
