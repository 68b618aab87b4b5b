/- What comes into laws_FnExactLaidOk reads as; its pure statement. Printed by rowgen.py (this session's own). -/
import Derived.Test.YtamfgkeaohookaaOp
import Derived.Test.YtamfgkeaohookaaPFnExactLaidOkx1
import Derived.KernelRfl
namespace Go.Proofs.Ytamfgkeaohookaa.TFnExactLaidOk
open Go.RowKit Go.Proofs.Ytamfgkeaohookaa.Op Go.Proofs.Ytamfgkeaohookaa.PFnExactLaidOk Go.Proofs.YtamfgkeaohookaaW.PrintWords Go.Proofs.YtamfgkeaohookaaW.PrintLast
set_option linter.unusedVariables false
def PureS : Prop := ∀ (a0_0 : Int) (a0_1 : Int) (a0_2 : Int) (a0_3 : Int), ((Lit.int .i64 a0_0).wf = true) → ((Lit.int .i64 a0_1).wf = true) → ((Lit.int .i64 a0_2).wf = true) → ((Lit.int .i64 a0_3).wf = true) → laws_FnExactLaidOk.f a0_0 a0_1 a0_2 a0_3 = some true
end Go.Proofs.Ytamfgkeaohookaa.TFnExactLaidOk
