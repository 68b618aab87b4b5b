/- What comes into laws_FnExactPaintOk reads as; its pure statement. Printed by rowgen.py (this session's own). -/
import Derived.Test.YtamfgkeaohookaaOp
import Derived.Test.YtamfgkeaohookaaPFnExactPaintOkx5
import Derived.KernelRfl
namespace Go.Proofs.Ytamfgkeaohookaa.TFnExactPaintOk
open Go.RowKit Go.Proofs.Ytamfgkeaohookaa.Op Go.Proofs.Ytamfgkeaohookaa.PFnExactPaintOk Go.Proofs.YtamfgkeaohookaaW.PrintWords Go.Proofs.YtamfgkeaohookaaW.PrintLast
set_option linter.unusedVariables false
def PureS : Prop := ∀ (a0_0 : Int) (a0_1 : Int) (a0_2 : Int) (a0_3 : Int) (a0_4 : Int) (a0_5 : Int) (a0_6 : Int) (a0_7 : Int) (a0_8 : Int) (a0_9 : Int) (a0_10 : Int) (a0_11 : Int) (a0_12 : Int), ((Lit.int .i64 a0_0).wf = true) → ((Lit.int .i64 a0_1).wf = true) → ((Lit.int .i64 a0_2).wf = true) → ((Lit.int .i64 a0_3).wf = true) → ((Lit.int .i64 a0_4).wf = true) → ((Lit.int .i64 a0_5).wf = true) → ((Lit.int .i64 a0_6).wf = true) → ((Lit.int .i64 a0_7).wf = true) → ((Lit.int .i64 a0_8).wf = true) → ((Lit.int .i64 a0_9).wf = true) → ((Lit.int .i64 a0_10).wf = true) → ((Lit.int .i64 a0_11).wf = true) → ((Lit.int .i64 a0_12).wf = true) → laws_FnExactPaintOk.f a0_0 a0_1 a0_2 a0_3 a0_4 a0_5 a0_6 a0_7 a0_8 a0_9 a0_10 a0_11 a0_12 = some true
end Go.Proofs.Ytamfgkeaohookaa.TFnExactPaintOk
