import Derived.Test.YtjfienkbcacijaaWInv
import Derived.Test.YtjfienkbcacijaaWFootNe
namespace Go.Proofs.YtjfienkbcacijaaW.PrintWords
open Go.RowKit
end Go.Proofs.YtjfienkbcacijaaW.PrintWords
namespace Go.Proofs.YtjfienkbcacijaaW.PrintLast
section
variable {ops : Array Oper} {a : Act} {o og : Oper} {g : Nat} {t : Tmp} {u : Bool}
end
end Go.Proofs.YtjfienkbcacijaaW.PrintLast
