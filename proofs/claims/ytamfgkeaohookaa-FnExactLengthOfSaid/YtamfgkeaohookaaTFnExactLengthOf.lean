/- What comes into laws_FnExactLengthOf reads as; its pure statement. Printed by rowgen.py (this session's own). -/
import Derived.Test.YtamfgkeaohookaaOp
import Derived.Test.YtamfgkeaohookaaPFnExactLengthOfx2
import Derived.KernelRfl
namespace Go.Proofs.Ytamfgkeaohookaa.TFnExactLengthOf
open Go.RowKit Go.Proofs.Ytamfgkeaohookaa.Op Go.Proofs.Ytamfgkeaohookaa.PFnExactLengthOf Go.Proofs.YtamfgkeaohookaaW.PrintWords Go.Proofs.YtamfgkeaohookaaW.PrintLast
set_option linter.unusedVariables false
def PureS : Prop := ∀ (a0_0 : Int) (a0_1 : Int) (a1_0 : Int) (a1_1 : Int), ((Lit.int .i64 a0_0).wf = true) → ((Lit.int .i64 a0_1).wf = true) → ((Lit.int .i64 a1_0).wf = true) → ((Lit.int .i64 a1_1).wf = true) → ∃ k, laws_FnExactLengthOf.f k a0_0 a0_1 a1_0 a1_1 = some true
end Go.Proofs.Ytamfgkeaohookaa.TFnExactLengthOf
