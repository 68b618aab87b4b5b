/-
  No cell of these rows narrows 'for every input' (looked for: loops, veiled, ifaces, maps, wideKeys, modest, calm, conditions, laid).
  DERIVED. THE GIVEN ROWS OF THIS SEAT. 12 by the template 'for every input the law returns true; each argument reads behind the call as it read before'; 0 by the template 'total and deterministic' (their statements: YtndeonfbolookaaTotals.lean).
  GIVEN WITH THE SEED: the statements are not yours to turn. If you find one false, say at which input.
  Laid BY PROGRAM, IN A SANDBOX (cutbox-rows.mjs): the forced cells as the released guide's own fill.sh prints them over the translation b9eb22c7db875e29… (all of the seat's roots in one cut). By AI agents, Wed Nov 11 2026. No macro, syntax, notation, axiom, sorry.
-/
import Derived.Test.YtndeonfbolookaaChecked
import GoSem.Claim
import GoSem.ClaimJoined
import GoSem.ClaimMapViews
import Derived.JoinedTies
import Derived.KernelRfl
namespace Go.Proofs.Ytndeonfbolookaa
/- THE CELL 'sum', in the pinned program and in every row, IS THE sha256 OF THE DUMP (.gsa) THAT YtndeonfbolookaaProg.lean LOADS. Nothing in Lean hashes anything: it is a label: what it is worth is what the hold of that sum in a sandbox is worth. -/
noncomputable def Try.pinned : Pinned := { name := "ytndeonfbolookaa", sum := "b9eb22c7db875e29d80df46d8c059e39739d92989f359bbf95b41f93e465e002", checked := Try.checked }
namespace Rows
def none {H : Type} : Left H := { results := [], args := [] }

/-- 'laws.FnExactPixelAt': WHATEVER THE INPUT: true; the input reads as it did. -/
def fnExactPixelAtSpec : ChangeSpec := { name := "fnExactPixelAt", fn := fun _ => fun
  | [d1, d2, d3] => { results := [.lit (.bool true)], args := [d1, d2, d3] }
  | _ => none }
def fnExactPixelAtRow : OpenClaim := { program := "ytndeonfbolookaa", sum := "b9eb22c7db875e29d80df46d8c059e39739d92989f359bbf95b41f93e465e002", func := "loop.example/g00190/laws.FnExactPixelAt", spec := "fnExactPixelAt", apart := false }
def FnExactPixelAtSaid : Prop := fnExactPixelAtRow.holds Try.pinned (OpenSpec.ofChange fnExactPixelAtSpec)

/-- ITS FALSE NEIGHBOUR: 'it returns false'. Refute it at one input. -/
def fnExactPixelAtWrong : ChangeSpec := { name := "fnExactPixelAt", fn := fun _ => fun
  | [d1, d2, d3] => { results := [.lit (.bool false)], args := [d1, d2, d3] }
  | _ => none }
def FnExactPixelAtWrongFalsely : Prop := fnExactPixelAtRow.holds Try.pinned (OpenSpec.ofChange fnExactPixelAtWrong)

/-- 'laws.FnExactPartOf': WHATEVER THE INPUT: true; the input reads as it did. -/
def fnExactPartOfSpec : ChangeSpec := { name := "fnExactPartOf", fn := fun _ => fun
  | [d1, d2, d3] => { results := [.lit (.bool true)], args := [d1, d2, d3] }
  | _ => none }
def fnExactPartOfRow : OpenClaim := { program := "ytndeonfbolookaa", sum := "b9eb22c7db875e29d80df46d8c059e39739d92989f359bbf95b41f93e465e002", func := "loop.example/g00190/laws.FnExactPartOf", spec := "fnExactPartOf", apart := false }
def FnExactPartOfSaid : Prop := fnExactPartOfRow.holds Try.pinned (OpenSpec.ofChange fnExactPartOfSpec)

/-- ITS FALSE NEIGHBOUR: 'it returns false'. Refute it at one input. -/
def fnExactPartOfWrong : ChangeSpec := { name := "fnExactPartOf", fn := fun _ => fun
  | [d1, d2, d3] => { results := [.lit (.bool false)], args := [d1, d2, d3] }
  | _ => none }
def FnExactPartOfWrongFalsely : Prop := fnExactPartOfRow.holds Try.pinned (OpenSpec.ofChange fnExactPartOfWrong)

/-- 'laws.FnExactCovers': WHATEVER THE INPUT: true; the input reads as it did. -/
def fnExactCoversSpec : ChangeSpec := { name := "fnExactCovers", fn := fun _ => fun
  | [d1, d2, d3] => { results := [.lit (.bool true)], args := [d1, d2, d3] }
  | _ => none }
def fnExactCoversRow : OpenClaim := { program := "ytndeonfbolookaa", sum := "b9eb22c7db875e29d80df46d8c059e39739d92989f359bbf95b41f93e465e002", func := "loop.example/g00190/laws.FnExactCovers", spec := "fnExactCovers", apart := false }
def FnExactCoversSaid : Prop := fnExactCoversRow.holds Try.pinned (OpenSpec.ofChange fnExactCoversSpec)

/-- ITS FALSE NEIGHBOUR: 'it returns false'. Refute it at one input. -/
def fnExactCoversWrong : ChangeSpec := { name := "fnExactCovers", fn := fun _ => fun
  | [d1, d2, d3] => { results := [.lit (.bool false)], args := [d1, d2, d3] }
  | _ => none }
def FnExactCoversWrongFalsely : Prop := fnExactCoversRow.holds Try.pinned (OpenSpec.ofChange fnExactCoversWrong)

/-- 'laws.FnExactBitsAt': WHATEVER THE INPUT: true; the input reads as it did. -/
def fnExactBitsAtSpec : ChangeSpec := { name := "fnExactBitsAt", fn := fun _ => fun
  | [d1, d2, d3] => { results := [.lit (.bool true)], args := [d1, d2, d3] }
  | _ => none }
def fnExactBitsAtRow : OpenClaim := { program := "ytndeonfbolookaa", sum := "b9eb22c7db875e29d80df46d8c059e39739d92989f359bbf95b41f93e465e002", func := "loop.example/g00190/laws.FnExactBitsAt", spec := "fnExactBitsAt", apart := false }
def FnExactBitsAtSaid : Prop := fnExactBitsAtRow.holds Try.pinned (OpenSpec.ofChange fnExactBitsAtSpec)

/-- ITS FALSE NEIGHBOUR: 'it returns false'. Refute it at one input. -/
def fnExactBitsAtWrong : ChangeSpec := { name := "fnExactBitsAt", fn := fun _ => fun
  | [d1, d2, d3] => { results := [.lit (.bool false)], args := [d1, d2, d3] }
  | _ => none }
def FnExactBitsAtWrongFalsely : Prop := fnExactBitsAtRow.holds Try.pinned (OpenSpec.ofChange fnExactBitsAtWrong)

/-- 'laws.FnExactBlend': WHATEVER THE INPUT: true; the input reads as it did. -/
def fnExactBlendSpec : ChangeSpec := { name := "fnExactBlend", fn := fun _ => fun
  | [d1, d2, d3] => { results := [.lit (.bool true)], args := [d1, d2, d3] }
  | _ => none }
def fnExactBlendRow : OpenClaim := { program := "ytndeonfbolookaa", sum := "b9eb22c7db875e29d80df46d8c059e39739d92989f359bbf95b41f93e465e002", func := "loop.example/g00190/laws.FnExactBlend", spec := "fnExactBlend", unfollowed := true, recurses := true, apart := false }
def FnExactBlendSaid : Prop := fnExactBlendRow.holds Try.pinned (OpenSpec.ofChange fnExactBlendSpec)

/-- ITS FALSE NEIGHBOUR: 'it returns false'. Refute it at one input. -/
def fnExactBlendWrong : ChangeSpec := { name := "fnExactBlend", fn := fun _ => fun
  | [d1, d2, d3] => { results := [.lit (.bool false)], args := [d1, d2, d3] }
  | _ => none }
def FnExactBlendWrongFalsely : Prop := fnExactBlendRow.holds Try.pinned (OpenSpec.ofChange fnExactBlendWrong)

/-- 'laws.FnFades': WHATEVER THE INPUT: true; the input reads as it did. -/
def fnFadesSpec : ChangeSpec := { name := "fnFades", fn := fun _ => fun
  | [d] => { results := [.lit (.bool true)], args := [d] }
  | _ => none }
def fnFadesRow : OpenClaim := { program := "ytndeonfbolookaa", sum := "b9eb22c7db875e29d80df46d8c059e39739d92989f359bbf95b41f93e465e002", func := "loop.example/g00190/laws.FnFades", spec := "fnFades", unfollowed := true, recurses := true, apart := false }
def FnFadesSaid : Prop := fnFadesRow.holds Try.pinned (OpenSpec.ofChange fnFadesSpec)

/-- ITS FALSE NEIGHBOUR: 'it returns false'. Refute it at one input. -/
def fnFadesWrong : ChangeSpec := { name := "fnFades", fn := fun _ => fun
  | [d] => { results := [.lit (.bool false)], args := [d] }
  | _ => none }
def FnFadesWrongFalsely : Prop := fnFadesRow.holds Try.pinned (OpenSpec.ofChange fnFadesWrong)

/-- 'laws.FnExactMaskAt': WHATEVER THE INPUT: true; the input reads as it did. -/
def fnExactMaskAtSpec : ChangeSpec := { name := "fnExactMaskAt", fn := fun _ => fun
  | [d1, d2, d3, d4] => { results := [.lit (.bool true)], args := [d1, d2, d3, d4] }
  | _ => none }
def fnExactMaskAtRow : OpenClaim := { program := "ytndeonfbolookaa", sum := "b9eb22c7db875e29d80df46d8c059e39739d92989f359bbf95b41f93e465e002", func := "loop.example/g00190/laws.FnExactMaskAt", spec := "fnExactMaskAt", apart := false }
def FnExactMaskAtSaid : Prop := fnExactMaskAtRow.holds Try.pinned (OpenSpec.ofChange fnExactMaskAtSpec)

/-- ITS FALSE NEIGHBOUR: 'it returns false'. Refute it at one input. -/
def fnExactMaskAtWrong : ChangeSpec := { name := "fnExactMaskAt", fn := fun _ => fun
  | [d1, d2, d3, d4] => { results := [.lit (.bool false)], args := [d1, d2, d3, d4] }
  | _ => none }
def FnExactMaskAtWrongFalsely : Prop := fnExactMaskAtRow.holds Try.pinned (OpenSpec.ofChange fnExactMaskAtWrong)

/-- 'laws.FnExactQuadOf': WHATEVER THE INPUT: true; the input reads as it did. -/
def fnExactQuadOfSpec : ChangeSpec := { name := "fnExactQuadOf", fn := fun _ => fun
  | [d1, d2, d3] => { results := [.lit (.bool true)], args := [d1, d2, d3] }
  | _ => none }
def fnExactQuadOfRow : OpenClaim := { program := "ytndeonfbolookaa", sum := "b9eb22c7db875e29d80df46d8c059e39739d92989f359bbf95b41f93e465e002", func := "loop.example/g00190/laws.FnExactQuadOf", spec := "fnExactQuadOf", apart := false }
def FnExactQuadOfSaid : Prop := fnExactQuadOfRow.holds Try.pinned (OpenSpec.ofChange fnExactQuadOfSpec)

/-- ITS FALSE NEIGHBOUR: 'it returns false'. Refute it at one input. -/
def fnExactQuadOfWrong : ChangeSpec := { name := "fnExactQuadOf", fn := fun _ => fun
  | [d1, d2, d3] => { results := [.lit (.bool false)], args := [d1, d2, d3] }
  | _ => none }
def FnExactQuadOfWrongFalsely : Prop := fnExactQuadOfRow.holds Try.pinned (OpenSpec.ofChange fnExactQuadOfWrong)

/-- 'laws.FnExactColorAt': WHATEVER THE INPUT: true; the input reads as it did. -/
def fnExactColorAtSpec : ChangeSpec := { name := "fnExactColorAt", fn := fun _ => fun
  | [d1, d2, d3] => { results := [.lit (.bool true)], args := [d1, d2, d3] }
  | _ => none }
def fnExactColorAtRow : OpenClaim := { program := "ytndeonfbolookaa", sum := "b9eb22c7db875e29d80df46d8c059e39739d92989f359bbf95b41f93e465e002", func := "loop.example/g00190/laws.FnExactColorAt", spec := "fnExactColorAt", unfollowed := true, recurses := true, apart := false }
def FnExactColorAtSaid : Prop := fnExactColorAtRow.holds Try.pinned (OpenSpec.ofChange fnExactColorAtSpec)

/-- ITS FALSE NEIGHBOUR: 'it returns false'. Refute it at one input. -/
def fnExactColorAtWrong : ChangeSpec := { name := "fnExactColorAt", fn := fun _ => fun
  | [d1, d2, d3] => { results := [.lit (.bool false)], args := [d1, d2, d3] }
  | _ => none }
def FnExactColorAtWrongFalsely : Prop := fnExactColorAtRow.holds Try.pinned (OpenSpec.ofChange fnExactColorAtWrong)

/-- 'laws.FnExactMeetMask': WHATEVER THE INPUT: true; the input reads as it did. -/
def fnExactMeetMaskSpec : ChangeSpec := { name := "fnExactMeetMask", fn := fun _ => fun
  | [d1, d2] => { results := [.lit (.bool true)], args := [d1, d2] }
  | _ => none }
def fnExactMeetMaskRow : OpenClaim := { program := "ytndeonfbolookaa", sum := "b9eb22c7db875e29d80df46d8c059e39739d92989f359bbf95b41f93e465e002", func := "loop.example/g00190/laws.FnExactMeetMask", spec := "fnExactMeetMask", unfollowed := true, recurses := true, apart := false }
def FnExactMeetMaskSaid : Prop := fnExactMeetMaskRow.holds Try.pinned (OpenSpec.ofChange fnExactMeetMaskSpec)

/-- ITS FALSE NEIGHBOUR: 'it returns false'. Refute it at one input. -/
def fnExactMeetMaskWrong : ChangeSpec := { name := "fnExactMeetMask", fn := fun _ => fun
  | [d1, d2] => { results := [.lit (.bool false)], args := [d1, d2] }
  | _ => none }
def FnExactMeetMaskWrongFalsely : Prop := fnExactMeetMaskRow.holds Try.pinned (OpenSpec.ofChange fnExactMeetMaskWrong)

/-- 'laws.FnPaints': WHATEVER THE INPUT: true; the input reads as it did. -/
def fnPaintsSpec : ChangeSpec := { name := "fnPaints", fn := fun _ => fun
  | [d] => { results := [.lit (.bool true)], args := [d] }
  | _ => none }
def fnPaintsRow : OpenClaim := { program := "ytndeonfbolookaa", sum := "b9eb22c7db875e29d80df46d8c059e39739d92989f359bbf95b41f93e465e002", func := "loop.example/g00190/laws.FnPaints", spec := "fnPaints", unfollowed := true, recurses := true, apart := false }
def FnPaintsSaid : Prop := fnPaintsRow.holds Try.pinned (OpenSpec.ofChange fnPaintsSpec)

/-- ITS FALSE NEIGHBOUR: 'it returns false'. Refute it at one input. -/
def fnPaintsWrong : ChangeSpec := { name := "fnPaints", fn := fun _ => fun
  | [d] => { results := [.lit (.bool false)], args := [d] }
  | _ => none }
def FnPaintsWrongFalsely : Prop := fnPaintsRow.holds Try.pinned (OpenSpec.ofChange fnPaintsWrong)

/-- 'laws.FnExactRunsOf': WHATEVER THE INPUT: true; the input reads as it did. -/
def fnExactRunsOfSpec : ChangeSpec := { name := "fnExactRunsOf", fn := fun _ => fun
  | [d] => { results := [.lit (.bool true)], args := [d] }
  | _ => none }
def fnExactRunsOfRow : OpenClaim := { program := "ytndeonfbolookaa", sum := "b9eb22c7db875e29d80df46d8c059e39739d92989f359bbf95b41f93e465e002", func := "loop.example/g00190/laws.FnExactRunsOf", spec := "fnExactRunsOf", apart := false }
def FnExactRunsOfSaid : Prop := fnExactRunsOfRow.holds Try.pinned (OpenSpec.ofChange fnExactRunsOfSpec)

/-- ITS FALSE NEIGHBOUR: 'it returns false'. Refute it at one input. -/
def fnExactRunsOfWrong : ChangeSpec := { name := "fnExactRunsOf", fn := fun _ => fun
  | [d] => { results := [.lit (.bool false)], args := [d] }
  | _ => none }
def FnExactRunsOfWrongFalsely : Prop := fnExactRunsOfRow.holds Try.pinned (OpenSpec.ofChange fnExactRunsOfWrong)

/- THE SECOND FORM. 'bulk': how many values and letters a reading holds, each counted each time it is reached (what is shared counts as often as it is met; a slice's spare places count too). A statement '..UptoSaid' is the law's where the arguments, and the package variables that the reading takes, are together of bulk at most 1048576: NARROWER than '..Said'. Prove '..Said' where nothing that the law and all that it calls make is longer than what came in: it says more and counts as full. Else prove '..UptoSaid'. A law counts once. -/
mutual
def uptoBulk {H : Type} : DataW H → Nat
  | .lit (.string bytes) => bytes.length + 1
  | .lit _ => 1
  | .nil => 1
  | .ptr d => uptoBulk d + 1
  | .slice elems spare => uptoBulkAll elems + uptoBulkAll spare + 1
  | .agg parts => uptoBulkAll parts + 1
  | .iface _ d => uptoBulk d + 1
  | .map entries => uptoBulkEntries entries + 1
  | .held _ => 1
def uptoBulkAll {H : Type} : List (DataW H) → Nat
  | [] => 0
  | d :: r => uptoBulk d + uptoBulkAll r
def uptoBulkEntries {H : Type} : List (Lit × DataW H) → Nat
  | [] => 0
  | x :: r => uptoBulkEntry x + uptoBulkEntries r
def uptoBulkEntry {H : Type} : Lit × DataW H → Nat
  | (.string bytes, d) => bytes.length + uptoBulk d + 1
  | (_, d) => uptoBulk d + 1
 end
def uptoSmall : (H : Type) → List (DataW H) → Bool := fun _ ds => decide (uptoBulkAll ds ≤ 1048576)
def OpenSpec.upto (s : _root_.Go.ChangeSpec) : _root_.Go.OpenSpec := { _root_.Go.OpenSpec.ofChange s with cond := some uptoSmall }

/-- 'laws.FnExactPixelAt', WHERE WHAT IT READS IS OF BULK AT MOST 1048576: true; the input reads as it did. -/
def fnExactPixelAtUptoRow : OpenClaim := { program := "ytndeonfbolookaa", sum := "b9eb22c7db875e29d80df46d8c059e39739d92989f359bbf95b41f93e465e002", func := "loop.example/g00190/laws.FnExactPixelAt", spec := "fnExactPixelAt", apart := false, narrowed := true }
def FnExactPixelAtUptoSaid : Prop := fnExactPixelAtUptoRow.holds Try.pinned (OpenSpec.upto fnExactPixelAtSpec)

/-- 'laws.FnExactPartOf', WHERE WHAT IT READS IS OF BULK AT MOST 1048576: true; the input reads as it did. -/
def fnExactPartOfUptoRow : OpenClaim := { program := "ytndeonfbolookaa", sum := "b9eb22c7db875e29d80df46d8c059e39739d92989f359bbf95b41f93e465e002", func := "loop.example/g00190/laws.FnExactPartOf", spec := "fnExactPartOf", apart := false, narrowed := true }
def FnExactPartOfUptoSaid : Prop := fnExactPartOfUptoRow.holds Try.pinned (OpenSpec.upto fnExactPartOfSpec)

/-- 'laws.FnExactCovers', WHERE WHAT IT READS IS OF BULK AT MOST 1048576: true; the input reads as it did. -/
def fnExactCoversUptoRow : OpenClaim := { program := "ytndeonfbolookaa", sum := "b9eb22c7db875e29d80df46d8c059e39739d92989f359bbf95b41f93e465e002", func := "loop.example/g00190/laws.FnExactCovers", spec := "fnExactCovers", apart := false, narrowed := true }
def FnExactCoversUptoSaid : Prop := fnExactCoversUptoRow.holds Try.pinned (OpenSpec.upto fnExactCoversSpec)

/-- 'laws.FnExactBitsAt', WHERE WHAT IT READS IS OF BULK AT MOST 1048576: true; the input reads as it did. -/
def fnExactBitsAtUptoRow : OpenClaim := { program := "ytndeonfbolookaa", sum := "b9eb22c7db875e29d80df46d8c059e39739d92989f359bbf95b41f93e465e002", func := "loop.example/g00190/laws.FnExactBitsAt", spec := "fnExactBitsAt", apart := false, narrowed := true }
def FnExactBitsAtUptoSaid : Prop := fnExactBitsAtUptoRow.holds Try.pinned (OpenSpec.upto fnExactBitsAtSpec)

/-- 'laws.FnExactBlend', WHERE WHAT IT READS IS OF BULK AT MOST 1048576: true; the input reads as it did. -/
def fnExactBlendUptoRow : OpenClaim := { program := "ytndeonfbolookaa", sum := "b9eb22c7db875e29d80df46d8c059e39739d92989f359bbf95b41f93e465e002", func := "loop.example/g00190/laws.FnExactBlend", spec := "fnExactBlend", unfollowed := true, recurses := true, apart := false, narrowed := true }
def FnExactBlendUptoSaid : Prop := fnExactBlendUptoRow.holds Try.pinned (OpenSpec.upto fnExactBlendSpec)

/-- 'laws.FnFades', WHERE WHAT IT READS IS OF BULK AT MOST 1048576: true; the input reads as it did. -/
def fnFadesUptoRow : OpenClaim := { program := "ytndeonfbolookaa", sum := "b9eb22c7db875e29d80df46d8c059e39739d92989f359bbf95b41f93e465e002", func := "loop.example/g00190/laws.FnFades", spec := "fnFades", unfollowed := true, recurses := true, apart := false, narrowed := true }
def FnFadesUptoSaid : Prop := fnFadesUptoRow.holds Try.pinned (OpenSpec.upto fnFadesSpec)

/-- 'laws.FnExactMaskAt', WHERE WHAT IT READS IS OF BULK AT MOST 1048576: true; the input reads as it did. -/
def fnExactMaskAtUptoRow : OpenClaim := { program := "ytndeonfbolookaa", sum := "b9eb22c7db875e29d80df46d8c059e39739d92989f359bbf95b41f93e465e002", func := "loop.example/g00190/laws.FnExactMaskAt", spec := "fnExactMaskAt", apart := false, narrowed := true }
def FnExactMaskAtUptoSaid : Prop := fnExactMaskAtUptoRow.holds Try.pinned (OpenSpec.upto fnExactMaskAtSpec)

/-- 'laws.FnExactQuadOf', WHERE WHAT IT READS IS OF BULK AT MOST 1048576: true; the input reads as it did. -/
def fnExactQuadOfUptoRow : OpenClaim := { program := "ytndeonfbolookaa", sum := "b9eb22c7db875e29d80df46d8c059e39739d92989f359bbf95b41f93e465e002", func := "loop.example/g00190/laws.FnExactQuadOf", spec := "fnExactQuadOf", apart := false, narrowed := true }
def FnExactQuadOfUptoSaid : Prop := fnExactQuadOfUptoRow.holds Try.pinned (OpenSpec.upto fnExactQuadOfSpec)

/-- 'laws.FnExactColorAt', WHERE WHAT IT READS IS OF BULK AT MOST 1048576: true; the input reads as it did. -/
def fnExactColorAtUptoRow : OpenClaim := { program := "ytndeonfbolookaa", sum := "b9eb22c7db875e29d80df46d8c059e39739d92989f359bbf95b41f93e465e002", func := "loop.example/g00190/laws.FnExactColorAt", spec := "fnExactColorAt", unfollowed := true, recurses := true, apart := false, narrowed := true }
def FnExactColorAtUptoSaid : Prop := fnExactColorAtUptoRow.holds Try.pinned (OpenSpec.upto fnExactColorAtSpec)

/-- 'laws.FnExactMeetMask', WHERE WHAT IT READS IS OF BULK AT MOST 1048576: true; the input reads as it did. -/
def fnExactMeetMaskUptoRow : OpenClaim := { program := "ytndeonfbolookaa", sum := "b9eb22c7db875e29d80df46d8c059e39739d92989f359bbf95b41f93e465e002", func := "loop.example/g00190/laws.FnExactMeetMask", spec := "fnExactMeetMask", unfollowed := true, recurses := true, apart := false, narrowed := true }
def FnExactMeetMaskUptoSaid : Prop := fnExactMeetMaskUptoRow.holds Try.pinned (OpenSpec.upto fnExactMeetMaskSpec)

/-- 'laws.FnPaints', WHERE WHAT IT READS IS OF BULK AT MOST 1048576: true; the input reads as it did. -/
def fnPaintsUptoRow : OpenClaim := { program := "ytndeonfbolookaa", sum := "b9eb22c7db875e29d80df46d8c059e39739d92989f359bbf95b41f93e465e002", func := "loop.example/g00190/laws.FnPaints", spec := "fnPaints", unfollowed := true, recurses := true, apart := false, narrowed := true }
def FnPaintsUptoSaid : Prop := fnPaintsUptoRow.holds Try.pinned (OpenSpec.upto fnPaintsSpec)

/-- 'laws.FnExactRunsOf', WHERE WHAT IT READS IS OF BULK AT MOST 1048576: true; the input reads as it did. -/
def fnExactRunsOfUptoRow : OpenClaim := { program := "ytndeonfbolookaa", sum := "b9eb22c7db875e29d80df46d8c059e39739d92989f359bbf95b41f93e465e002", func := "loop.example/g00190/laws.FnExactRunsOf", spec := "fnExactRunsOf", apart := false, narrowed := true }
def FnExactRunsOfUptoSaid : Prop := fnExactRunsOfUptoRow.holds Try.pinned (OpenSpec.upto fnExactRunsOfSpec)

end Rows
end Go.Proofs.Ytndeonfbolookaa
