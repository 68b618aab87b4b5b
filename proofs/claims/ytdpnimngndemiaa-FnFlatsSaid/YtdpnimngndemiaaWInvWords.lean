import Derived.Test.YtdpnimngndemiaaWInv
import Derived.Test.YtdpnimngndemiaaWFootNe
namespace Go.Proofs.YtdpnimngndemiaaW.PrintWords
open Go.RowKit
end Go.Proofs.YtdpnimngndemiaaW.PrintWords
namespace Go.Proofs.YtdpnimngndemiaaW.PrintLast
section
variable {ops : Array Oper} {a : Act} {o og : Oper} {g : Nat} {t : Tmp} {u : Bool}
end
end Go.Proofs.YtdpnimngndemiaaW.PrintLast
