import Derived.Test.YtndeonfbolookaaWInv
import Derived.Test.YtndeonfbolookaaWFootNe
namespace Go.Proofs.YtndeonfbolookaaW.PrintWords
open Go.RowKit
end Go.Proofs.YtndeonfbolookaaW.PrintWords
namespace Go.Proofs.YtndeonfbolookaaW.PrintLast
section
variable {ops : Array Oper} {a : Act} {o og : Oper} {g : Nat} {t : Tmp} {u : Bool}
end
end Go.Proofs.YtndeonfbolookaaW.PrintLast
