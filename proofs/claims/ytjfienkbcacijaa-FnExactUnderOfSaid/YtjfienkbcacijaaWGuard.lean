import Derived.Test.YtjfienkbcacijaaWWords
namespace Go.Proofs.YtjfienkbcacijaaW.PrintWords
open Go.RowKit
section
variable {P : Program} {ops : Array Oper} {rest : List Oper} {o : Oper} {a : Act} {Q : Exit → Act → World → Prop} {W : World}
end
end Go.Proofs.YtjfienkbcacijaaW.PrintWords
