/- Functions of the program as Lean functions, and the proof that a call comes to just these: machine text of this session's own program (myprint.py). -/
import Derived.Test.YtamfgkeaohookaaProg
import Derived.Below
import Derived.Deep.Draws
import Derived.Deep.AppendLies
import Derived.Maps.AppendAt
import Derived.OwnWalk
import Derived.Laws.BytesArg
import Derived.Laws.MakeOwn
import Derived.Laws.OwnMore
import Derived.Deep.OwnRows
import Derived.Tactics
import Derived.Lib.ConvBytes
import Derived.Laws.Slices
import Derived.WalkKit
import Derived.KernelRfl
import Derived.RowKit3
import Derived.Deep.LoopGhost
import Derived.Deep.QuietTactic
import Derived.BigQuiet
import Derived.WideLaws
import Derived.Deep.DeepCutAuto
import Derived.Deep.CutBlock
import Derived.Deep.RegionHeld3
import Derived.Laws.Rows
import Derived.Lib.AppendStr
import Derived.ArgAppend
import Derived.Laws.IdiomCopy
import Derived.OrdersHeld
import Derived.Laws.BitsLemmas
import Derived.RowKit
import Derived.Test.YtamfgkeaohookaaVw
import Derived.Test.YtamfgkeaohookaaWWords
import Derived.Test.YtamfgkeaohookaaWLast
import Derived.Test.YtamfgkeaohookaaWTab
import Derived.Test.YtamfgkeaohookaaWFour
import Derived.Test.YtamfgkeaohookaaWQPut
import Derived.Test.YtamfgkeaohookaaWApart
import Derived.Test.YtamfgkeaohookaaWArr
import Derived.Test.YtamfgkeaohookaaWZeros
import Derived.Test.YtamfgkeaohookaaWFoot
import Derived.Test.YtamfgkeaohookaaWKept
import Derived.Test.YtamfgkeaohookaaWShare
import Derived.Test.YtamfgkeaohookaaWN
import Derived.Test.YtamfgkeaohookaaWFootNe
import Derived.Test.YtamfgkeaohookaaWAt
import Derived.Test.YtamfgkeaohookaaWEqStruct
import Derived.Test.YtamfgkeaohookaaWRepsOne
import Derived.Test.YtamfgkeaohookaaWInv
import Derived.Test.YtamfgkeaohookaaWInvWords
import Derived.Test.YtamfgkeaohookaaWGuard
import Derived.Test.YtamfgkeaohookaaWNEv
import Derived.Test.YtamfgkeaohookaaWMore
namespace Go.Proofs.Ytamfgkeaohookaa.MFnBlends
open Go.RowKit Go.Proofs.YtamfgkeaohookaaW.PrintWords Go.Proofs.YtamfgkeaohookaaW.PrintLast Go.Proofs.YtamfgkeaohookaaW.PrintMore
attribute [local go_sem] max2_int min2_int max_two min_two max_three min_three max_four min_four   -- for this text's walks alone
set_option linter.unusedVariables false
set_option linter.unusedSimpArgs false



def errW : Option Int → Value
  | none => .nilIface
  | some c => .iface 0 (.int .i64 c)
theorem errW_none : errW none = .nilIface := rfl
theorem errW_some (c : Int) : errW (some c) = .iface 0 (.int .i64 c) := rfl

theorem info3 : (Try.prog.info? 3).map (fun i => (i.zero, i.size, i.bytes)) = some (some (.int .i64 0), 1, 8) := by kernel_rfl
-- the values' own types

end Go.Proofs.Ytamfgkeaohookaa.MFnBlends
