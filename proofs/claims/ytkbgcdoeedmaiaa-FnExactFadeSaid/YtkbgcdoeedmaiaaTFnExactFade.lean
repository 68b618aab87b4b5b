/- What comes into laws_FnExactFade reads as; its pure statement. Printed by rowgen.py (this session's own). -/
import Derived.Test.YtkbgcdoeedmaiaaOp
import Derived.Test.YtkbgcdoeedmaiaaMFnExactFadex2
import Derived.KernelRfl
namespace Go.Proofs.Ytkbgcdoeedmaiaa.TFnExactFade
open Go.RowKit Go.Proofs.Ytkbgcdoeedmaiaa.Op Go.Proofs.Ytkbgcdoeedmaiaa.MFnExactFade Go.Proofs.YtkbgcdoeedmaiaaW.PrintWords Go.Proofs.YtkbgcdoeedmaiaaW.PrintLast
set_option linter.unusedVariables false
def PureS : Prop := ∀ (a0_0 : Int) (a0_1 : Int) (a0_2 : Int) (a0_3 : Int) (a1 : Int), ((Lit.int .i64 a0_0).wf = true) → ((Lit.int .i64 a0_1).wf = true) → ((Lit.int .i64 a0_2).wf = true) → ((Lit.int .i64 a0_3).wf = true) → ((Lit.int .i64 a1).wf = true) → ∃ k, laws_FnExactFade.f k a0_0 a0_1 a0_2 a0_3 a1 = some true
end Go.Proofs.Ytkbgcdoeedmaiaa.TFnExactFade
