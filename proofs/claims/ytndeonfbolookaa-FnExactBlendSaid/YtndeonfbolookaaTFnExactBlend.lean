/- What comes into laws_FnExactBlend reads as; its pure statement. Printed by rowgen.py (this session's own). -/
import Derived.Test.YtndeonfbolookaaOp
import Derived.Test.YtndeonfbolookaaMFnExactBlendx5
import Derived.KernelRfl
namespace Go.Proofs.Ytndeonfbolookaa.TFnExactBlend
open Go.RowKit Go.Proofs.Ytndeonfbolookaa.Op Go.Proofs.Ytndeonfbolookaa.MFnExactBlend Go.Proofs.YtndeonfbolookaaW.PrintWords Go.Proofs.YtndeonfbolookaaW.PrintLast
set_option linter.unusedVariables false
def PureS : Prop := ∀ (a0 : Int) (a1_0 : Int) (a1_1 : Int) (a1_2 : Int) (a1_3 : Int) (a2_0 : Int) (a2_1 : Int) (a2_2 : Int) (a2_3 : Int), ((Lit.int .i64 a0).wf = true) → ((Lit.int .i64 a1_0).wf = true) → ((Lit.int .i64 a1_1).wf = true) → ((Lit.int .i64 a1_2).wf = true) → ((Lit.int .i64 a1_3).wf = true) → ((Lit.int .i64 a2_0).wf = true) → ((Lit.int .i64 a2_1).wf = true) → ((Lit.int .i64 a2_2).wf = true) → ((Lit.int .i64 a2_3).wf = true) → ∃ k, laws_FnExactBlend.f k a0 a1_0 a1_1 a1_2 a1_3 a2_0 a2_1 a2_2 a2_3 = some true
end Go.Proofs.Ytndeonfbolookaa.TFnExactBlend
