import Derived.Test.YtghbenapnhcllaaWInv
import Derived.Test.YtghbenapnhcllaaWFootNe
namespace Go.Proofs.YtghbenapnhcllaaW.PrintWords
open Go.RowKit
end Go.Proofs.YtghbenapnhcllaaW.PrintWords
namespace Go.Proofs.YtghbenapnhcllaaW.PrintLast
section
variable {ops : Array Oper} {a : Act} {o og : Oper} {g : Nat} {t : Tmp} {u : Bool}
end
end Go.Proofs.YtghbenapnhcllaaW.PrintLast
