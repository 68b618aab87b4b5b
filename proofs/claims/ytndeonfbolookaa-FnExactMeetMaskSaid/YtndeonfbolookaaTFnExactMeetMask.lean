/- What comes into laws_FnExactMeetMask reads as; its pure statement. Printed by rowgen.py (this session's own). -/
import Derived.Test.YtndeonfbolookaaOp
import Derived.Test.YtndeonfbolookaaMFnExactMeetMaskx10
import Derived.KernelRfl
namespace Go.Proofs.Ytndeonfbolookaa.TFnExactMeetMask
open Go.RowKit Go.Proofs.Ytndeonfbolookaa.Op Go.Proofs.Ytndeonfbolookaa.MFnExactMeetMask Go.Proofs.YtndeonfbolookaaW.PrintWords Go.Proofs.YtndeonfbolookaaW.PrintLast
set_option linter.unusedVariables false
def PureS : Prop := ∀ (a0_0 : Int) (a0_1 : Int) (a0_2 : Int) (a0_3 : Int) (l0_4 : List Int) (a1_0 : Int) (a1_1 : Int) (a1_2 : Int) (a1_3 : Int) (l1_4 : List Int), ((Lit.int .i64 a0_0).wf = true) → ((Lit.int .i64 a0_1).wf = true) → ((Lit.int .i64 a0_2).wf = true) → ((Lit.int .i64 a0_3).wf = true) → (l0_4.length ≤ maxLen ∧ ∀ y ∈ l0_4, ((Lit.int .i64 y).wf = true)) → ((Lit.int .i64 a1_0).wf = true) → ((Lit.int .i64 a1_1).wf = true) → ((Lit.int .i64 a1_2).wf = true) → ((Lit.int .i64 a1_3).wf = true) → (l1_4.length ≤ maxLen ∧ ∀ y ∈ l1_4, ((Lit.int .i64 y).wf = true)) → ∃ k, laws_FnExactMeetMask.f k a0_0 a0_1 a0_2 a0_3 l0_4 a1_0 a1_1 a1_2 a1_3 l1_4 = some true
end Go.Proofs.Ytndeonfbolookaa.TFnExactMeetMask
