/- Functions of the program as Lean functions, and the proof that a call comes to just these: machine text of this session's own program (myprint.py). -/
import Derived.Test.YtkbgcdoeedmaiaaProg
import Derived.Below
import Derived.Deep.Draws
import Derived.Deep.AppendLies
import Derived.Maps.AppendAt
import Derived.OwnWalk
import Derived.Laws.BytesArg
import Derived.Laws.MakeOwn
import Derived.Laws.OwnMore
import Derived.Deep.OwnRows
import Derived.Tactics
import Derived.Lib.ConvBytes
import Derived.Laws.Slices
import Derived.WalkKit
import Derived.KernelRfl
import Derived.RowKit3
import Derived.Deep.LoopGhost
import Derived.Deep.QuietTactic
import Derived.BigQuiet
import Derived.WideLaws
import Derived.Deep.DeepCutAuto
import Derived.Deep.CutBlock
import Derived.Deep.RegionHeld3
import Derived.Laws.Rows
import Derived.Lib.AppendStr
import Derived.ArgAppend
import Derived.Laws.IdiomCopy
import Derived.OrdersHeld
import Derived.Laws.BitsLemmas
import Derived.RowKit
import Derived.Test.YtkbgcdoeedmaiaaVw
import Derived.Test.YtkbgcdoeedmaiaaWWords
import Derived.Test.YtkbgcdoeedmaiaaWLast
import Derived.Test.YtkbgcdoeedmaiaaWTab
import Derived.Test.YtkbgcdoeedmaiaaWFour
import Derived.Test.YtkbgcdoeedmaiaaWQPut
import Derived.Test.YtkbgcdoeedmaiaaWApart
import Derived.Test.YtkbgcdoeedmaiaaWArr
import Derived.Test.YtkbgcdoeedmaiaaWZeros
import Derived.Test.YtkbgcdoeedmaiaaWFoot
import Derived.Test.YtkbgcdoeedmaiaaWKept
import Derived.Test.YtkbgcdoeedmaiaaWShare
import Derived.Test.YtkbgcdoeedmaiaaWN
import Derived.Test.YtkbgcdoeedmaiaaWFootNe
import Derived.Test.YtkbgcdoeedmaiaaWAt
import Derived.Test.YtkbgcdoeedmaiaaWEqStruct
import Derived.Test.YtkbgcdoeedmaiaaWRepsOne
import Derived.Test.YtkbgcdoeedmaiaaWInv
import Derived.Test.YtkbgcdoeedmaiaaWInvWords
import Derived.Test.YtkbgcdoeedmaiaaWGuard
import Derived.Test.YtkbgcdoeedmaiaaWNEv
import Derived.Test.YtkbgcdoeedmaiaaWMore
namespace Go.Proofs.Ytkbgcdoeedmaiaa.MFnExactFade
open Go.RowKit Go.Proofs.YtkbgcdoeedmaiaaW.PrintWords Go.Proofs.YtkbgcdoeedmaiaaW.PrintLast Go.Proofs.YtkbgcdoeedmaiaaW.PrintMore
attribute [local go_sem] max2_int min2_int max_two min_two max_three min_three max_four min_four   -- for this text's walks alone
set_option linter.unusedVariables false
set_option linter.unusedSimpArgs false



def errW : Option Int → Value
  | none => .nilIface
  | some c => .iface 0 (.int .i64 c)
theorem errW_none : errW none = .nilIface := rfl
theorem errW_some (c : Int) : errW (some c) = .iface 0 (.int .i64 c) := rfl

-- the values' own types

end Go.Proofs.Ytkbgcdoeedmaiaa.MFnExactFade
