import Derived.Test.YtgdlbilpfmjeaaaWInv
import Derived.Test.YtgdlbilpfmjeaaaWFootNe
namespace Go.Proofs.YtgdlbilpfmjeaaaW.PrintWords
open Go.RowKit
end Go.Proofs.YtgdlbilpfmjeaaaW.PrintWords
namespace Go.Proofs.YtgdlbilpfmjeaaaW.PrintLast
section
variable {ops : Array Oper} {a : Act} {o og : Oper} {g : Nat} {t : Tmp} {u : Bool}
end
end Go.Proofs.YtgdlbilpfmjeaaaW.PrintLast
