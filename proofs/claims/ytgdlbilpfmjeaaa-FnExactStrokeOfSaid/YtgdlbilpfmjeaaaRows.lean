/-
  No cell of these rows narrows 'for every input' (looked for: loops, veiled, ifaces, maps, wideKeys, modest, calm, conditions, laid).
  DERIVED. THE GIVEN ROWS OF THIS SEAT. 12 by the template 'for every input the law returns true; each argument reads behind the call as it read before'; 0 by the template 'total and deterministic' (their statements: YtgdlbilpfmjeaaaTotals.lean).
  GIVEN WITH THE SEED: the statements are not yours to turn. If you find one false, say at which input.
  Laid BY PROGRAM, IN A SANDBOX (cutbox-rows.mjs): the forced cells as the released guide's own fill.sh prints them over the translation f5a94d3a1af5195b… (all of the seat's roots in one cut). By AI agents, Wed Nov 11 2026. No macro, syntax, notation, axiom, sorry.
-/
import Derived.Test.YtgdlbilpfmjeaaaChecked
import GoSem.Claim
import GoSem.ClaimJoined
import GoSem.ClaimMapViews
import Derived.JoinedTies
import Derived.KernelRfl
namespace Go.Proofs.Ytgdlbilpfmjeaaa
/- THE CELL 'sum', in the pinned program and in every row, IS THE sha256 OF THE DUMP (.gsa) THAT YtgdlbilpfmjeaaaProg.lean LOADS. Nothing in Lean hashes anything: it is a label: what it is worth is what the hold of that sum in a sandbox is worth. -/
noncomputable def Try.pinned : Pinned := { name := "ytgdlbilpfmjeaaa", sum := "f5a94d3a1af5195b81d0e5a01b2c6e01ec6ee5447d9a6cb3f7501ccc05456699", checked := Try.checked }
namespace Rows
def none {H : Type} : Left H := { results := [], args := [] }

/-- 'laws.FnStrokeLines': WHATEVER THE INPUT: true; the input reads as it did. -/
def fnStrokeLinesSpec : ChangeSpec := { name := "fnStrokeLines", fn := fun _ => fun
  | [d] => { results := [.lit (.bool true)], args := [d] }
  | _ => none }
def fnStrokeLinesRow : OpenClaim := { program := "ytgdlbilpfmjeaaa", sum := "f5a94d3a1af5195b81d0e5a01b2c6e01ec6ee5447d9a6cb3f7501ccc05456699", func := "loop.example/g00190/laws.FnStrokeLines", spec := "fnStrokeLines", apart := false }
def FnStrokeLinesSaid : Prop := fnStrokeLinesRow.holds Try.pinned (OpenSpec.ofChange fnStrokeLinesSpec)

/-- ITS FALSE NEIGHBOUR: 'it returns false'. Refute it at one input. -/
def fnStrokeLinesWrong : ChangeSpec := { name := "fnStrokeLines", fn := fun _ => fun
  | [d] => { results := [.lit (.bool false)], args := [d] }
  | _ => none }
def FnStrokeLinesWrongFalsely : Prop := fnStrokeLinesRow.holds Try.pinned (OpenSpec.ofChange fnStrokeLinesWrong)

/-- 'laws.FnCovers': WHATEVER THE INPUT: true; the input reads as it did. -/
def fnCoversSpec : ChangeSpec := { name := "fnCovers", fn := fun _ => fun
  | [d] => { results := [.lit (.bool true)], args := [d] }
  | _ => none }
def fnCoversRow : OpenClaim := { program := "ytgdlbilpfmjeaaa", sum := "f5a94d3a1af5195b81d0e5a01b2c6e01ec6ee5447d9a6cb3f7501ccc05456699", func := "loop.example/g00190/laws.FnCovers", spec := "fnCovers", apart := false }
def FnCoversSaid : Prop := fnCoversRow.holds Try.pinned (OpenSpec.ofChange fnCoversSpec)

/-- ITS FALSE NEIGHBOUR: 'it returns false'. Refute it at one input. -/
def fnCoversWrong : ChangeSpec := { name := "fnCovers", fn := fun _ => fun
  | [d] => { results := [.lit (.bool false)], args := [d] }
  | _ => none }
def FnCoversWrongFalsely : Prop := fnCoversRow.holds Try.pinned (OpenSpec.ofChange fnCoversWrong)

/-- 'laws.FnExactMaskBy': WHATEVER THE INPUT: true; the input reads as it did. -/
def fnExactMaskBySpec : ChangeSpec := { name := "fnExactMaskBy", fn := fun _ => fun
  | [d1, d2] => { results := [.lit (.bool true)], args := [d1, d2] }
  | _ => none }
def fnExactMaskByRow : OpenClaim := { program := "ytgdlbilpfmjeaaa", sum := "f5a94d3a1af5195b81d0e5a01b2c6e01ec6ee5447d9a6cb3f7501ccc05456699", func := "loop.example/g00190/laws.FnExactMaskBy", spec := "fnExactMaskBy", apart := false }
def FnExactMaskBySaid : Prop := fnExactMaskByRow.holds Try.pinned (OpenSpec.ofChange fnExactMaskBySpec)

/-- ITS FALSE NEIGHBOUR: 'it returns false'. Refute it at one input. -/
def fnExactMaskByWrong : ChangeSpec := { name := "fnExactMaskBy", fn := fun _ => fun
  | [d1, d2] => { results := [.lit (.bool false)], args := [d1, d2] }
  | _ => none }
def FnExactMaskByWrongFalsely : Prop := fnExactMaskByRow.holds Try.pinned (OpenSpec.ofChange fnExactMaskByWrong)

/-- 'laws.FnExactStrokeOf': WHATEVER THE INPUT: true; the input reads as it did. -/
def fnExactStrokeOfSpec : ChangeSpec := { name := "fnExactStrokeOf", fn := fun _ => fun
  | [d1, d2] => { results := [.lit (.bool true)], args := [d1, d2] }
  | _ => none }
def fnExactStrokeOfRow : OpenClaim := { program := "ytgdlbilpfmjeaaa", sum := "f5a94d3a1af5195b81d0e5a01b2c6e01ec6ee5447d9a6cb3f7501ccc05456699", func := "loop.example/g00190/laws.FnExactStrokeOf", spec := "fnExactStrokeOf", apart := false }
def FnExactStrokeOfSaid : Prop := fnExactStrokeOfRow.holds Try.pinned (OpenSpec.ofChange fnExactStrokeOfSpec)

/-- ITS FALSE NEIGHBOUR: 'it returns false'. Refute it at one input. -/
def fnExactStrokeOfWrong : ChangeSpec := { name := "fnExactStrokeOf", fn := fun _ => fun
  | [d1, d2] => { results := [.lit (.bool false)], args := [d1, d2] }
  | _ => none }
def FnExactStrokeOfWrongFalsely : Prop := fnExactStrokeOfRow.holds Try.pinned (OpenSpec.ofChange fnExactStrokeOfWrong)

/-- 'laws.FnExactMaskOf': WHATEVER THE INPUT: true; the input reads as it did. -/
def fnExactMaskOfSpec : ChangeSpec := { name := "fnExactMaskOf", fn := fun _ => fun
  | [d1, d2, d3] => { results := [.lit (.bool true)], args := [d1, d2, d3] }
  | _ => none }
def fnExactMaskOfRow : OpenClaim := { program := "ytgdlbilpfmjeaaa", sum := "f5a94d3a1af5195b81d0e5a01b2c6e01ec6ee5447d9a6cb3f7501ccc05456699", func := "loop.example/g00190/laws.FnExactMaskOf", spec := "fnExactMaskOf", unfollowed := true, recurses := true, apart := false }
def FnExactMaskOfSaid : Prop := fnExactMaskOfRow.holds Try.pinned (OpenSpec.ofChange fnExactMaskOfSpec)

/-- ITS FALSE NEIGHBOUR: 'it returns false'. Refute it at one input. -/
def fnExactMaskOfWrong : ChangeSpec := { name := "fnExactMaskOf", fn := fun _ => fun
  | [d1, d2, d3] => { results := [.lit (.bool false)], args := [d1, d2, d3] }
  | _ => none }
def FnExactMaskOfWrongFalsely : Prop := fnExactMaskOfRow.holds Try.pinned (OpenSpec.ofChange fnExactMaskOfWrong)

/-- 'laws.FnExactNodeAt': WHATEVER THE INPUT: true; the input reads as it did. -/
def fnExactNodeAtSpec : ChangeSpec := { name := "fnExactNodeAt", fn := fun _ => fun
  | [d1, d2] => { results := [.lit (.bool true)], args := [d1, d2] }
  | _ => none }
def fnExactNodeAtRow : OpenClaim := { program := "ytgdlbilpfmjeaaa", sum := "f5a94d3a1af5195b81d0e5a01b2c6e01ec6ee5447d9a6cb3f7501ccc05456699", func := "loop.example/g00190/laws.FnExactNodeAt", spec := "fnExactNodeAt", unfollowed := true, recurses := true, apart := false }
def FnExactNodeAtSaid : Prop := fnExactNodeAtRow.holds Try.pinned (OpenSpec.ofChange fnExactNodeAtSpec)

/-- ITS FALSE NEIGHBOUR: 'it returns false'. Refute it at one input. -/
def fnExactNodeAtWrong : ChangeSpec := { name := "fnExactNodeAt", fn := fun _ => fun
  | [d1, d2] => { results := [.lit (.bool false)], args := [d1, d2] }
  | _ => none }
def FnExactNodeAtWrongFalsely : Prop := fnExactNodeAtRow.holds Try.pinned (OpenSpec.ofChange fnExactNodeAtWrong)

/-- 'laws.FnExactDepthOf': WHATEVER THE INPUT: true; the input reads as it did. -/
def fnExactDepthOfSpec : ChangeSpec := { name := "fnExactDepthOf", fn := fun _ => fun
  | [d1, d2] => { results := [.lit (.bool true)], args := [d1, d2] }
  | _ => none }
def fnExactDepthOfRow : OpenClaim := { program := "ytgdlbilpfmjeaaa", sum := "f5a94d3a1af5195b81d0e5a01b2c6e01ec6ee5447d9a6cb3f7501ccc05456699", func := "loop.example/g00190/laws.FnExactDepthOf", spec := "fnExactDepthOf", unfollowed := true, recurses := true, apart := false }
def FnExactDepthOfSaid : Prop := fnExactDepthOfRow.holds Try.pinned (OpenSpec.ofChange fnExactDepthOfSpec)

/-- ITS FALSE NEIGHBOUR: 'it returns false'. Refute it at one input. -/
def fnExactDepthOfWrong : ChangeSpec := { name := "fnExactDepthOf", fn := fun _ => fun
  | [d1, d2] => { results := [.lit (.bool false)], args := [d1, d2] }
  | _ => none }
def FnExactDepthOfWrongFalsely : Prop := fnExactDepthOfRow.holds Try.pinned (OpenSpec.ofChange fnExactDepthOfWrong)

/-- 'laws.FnDashLines': WHATEVER THE INPUT: true; the input reads as it did. -/
def fnDashLinesSpec : ChangeSpec := { name := "fnDashLines", fn := fun _ => fun
  | [d] => { results := [.lit (.bool true)], args := [d] }
  | _ => none }
def fnDashLinesRow : OpenClaim := { program := "ytgdlbilpfmjeaaa", sum := "f5a94d3a1af5195b81d0e5a01b2c6e01ec6ee5447d9a6cb3f7501ccc05456699", func := "loop.example/g00190/laws.FnDashLines", spec := "fnDashLines", apart := false }
def FnDashLinesSaid : Prop := fnDashLinesRow.holds Try.pinned (OpenSpec.ofChange fnDashLinesSpec)

/-- ITS FALSE NEIGHBOUR: 'it returns false'. Refute it at one input. -/
def fnDashLinesWrong : ChangeSpec := { name := "fnDashLines", fn := fun _ => fun
  | [d] => { results := [.lit (.bool false)], args := [d] }
  | _ => none }
def FnDashLinesWrongFalsely : Prop := fnDashLinesRow.holds Try.pinned (OpenSpec.ofChange fnDashLinesWrong)

/-- 'laws.FnFlats': WHATEVER THE INPUT: true; the input reads as it did. -/
def fnFlatsSpec : ChangeSpec := { name := "fnFlats", fn := fun _ => fun
  | [d] => { results := [.lit (.bool true)], args := [d] }
  | _ => none }
def fnFlatsRow : OpenClaim := { program := "ytgdlbilpfmjeaaa", sum := "f5a94d3a1af5195b81d0e5a01b2c6e01ec6ee5447d9a6cb3f7501ccc05456699", func := "loop.example/g00190/laws.FnFlats", spec := "fnFlats", apart := false }
def FnFlatsSaid : Prop := fnFlatsRow.holds Try.pinned (OpenSpec.ofChange fnFlatsSpec)

/-- ITS FALSE NEIGHBOUR: 'it returns false'. Refute it at one input. -/
def fnFlatsWrong : ChangeSpec := { name := "fnFlats", fn := fun _ => fun
  | [d] => { results := [.lit (.bool false)], args := [d] }
  | _ => none }
def FnFlatsWrongFalsely : Prop := fnFlatsRow.holds Try.pinned (OpenSpec.ofChange fnFlatsWrong)

/-- 'laws.FnTrees': WHATEVER THE INPUT: true; the input reads as it did. -/
def fnTreesSpec : ChangeSpec := { name := "fnTrees", fn := fun _ => fun
  | [d] => { results := [.lit (.bool true)], args := [d] }
  | _ => none }
def fnTreesRow : OpenClaim := { program := "ytgdlbilpfmjeaaa", sum := "f5a94d3a1af5195b81d0e5a01b2c6e01ec6ee5447d9a6cb3f7501ccc05456699", func := "loop.example/g00190/laws.FnTrees", spec := "fnTrees", unfollowed := true, recurses := true, apart := false }
def FnTreesSaid : Prop := fnTreesRow.holds Try.pinned (OpenSpec.ofChange fnTreesSpec)

/-- ITS FALSE NEIGHBOUR: 'it returns false'. Refute it at one input. -/
def fnTreesWrong : ChangeSpec := { name := "fnTrees", fn := fun _ => fun
  | [d] => { results := [.lit (.bool false)], args := [d] }
  | _ => none }
def FnTreesWrongFalsely : Prop := fnTreesRow.holds Try.pinned (OpenSpec.ofChange fnTreesWrong)

/-- 'laws.FnExactDashOf': WHATEVER THE INPUT: true; the input reads as it did. -/
def fnExactDashOfSpec : ChangeSpec := { name := "fnExactDashOf", fn := fun _ => fun
  | [d1, d2, d3] => { results := [.lit (.bool true)], args := [d1, d2, d3] }
  | _ => none }
def fnExactDashOfRow : OpenClaim := { program := "ytgdlbilpfmjeaaa", sum := "f5a94d3a1af5195b81d0e5a01b2c6e01ec6ee5447d9a6cb3f7501ccc05456699", func := "loop.example/g00190/laws.FnExactDashOf", spec := "fnExactDashOf", apart := false }
def FnExactDashOfSaid : Prop := fnExactDashOfRow.holds Try.pinned (OpenSpec.ofChange fnExactDashOfSpec)

/-- ITS FALSE NEIGHBOUR: 'it returns false'. Refute it at one input. -/
def fnExactDashOfWrong : ChangeSpec := { name := "fnExactDashOf", fn := fun _ => fun
  | [d1, d2, d3] => { results := [.lit (.bool false)], args := [d1, d2, d3] }
  | _ => none }
def FnExactDashOfWrongFalsely : Prop := fnExactDashOfRow.holds Try.pinned (OpenSpec.ofChange fnExactDashOfWrong)

/-- 'laws.FnExactKidsOf': WHATEVER THE INPUT: true; the input reads as it did. -/
def fnExactKidsOfSpec : ChangeSpec := { name := "fnExactKidsOf", fn := fun _ => fun
  | [d1, d2] => { results := [.lit (.bool true)], args := [d1, d2] }
  | _ => none }
def fnExactKidsOfRow : OpenClaim := { program := "ytgdlbilpfmjeaaa", sum := "f5a94d3a1af5195b81d0e5a01b2c6e01ec6ee5447d9a6cb3f7501ccc05456699", func := "loop.example/g00190/laws.FnExactKidsOf", spec := "fnExactKidsOf", apart := false }
def FnExactKidsOfSaid : Prop := fnExactKidsOfRow.holds Try.pinned (OpenSpec.ofChange fnExactKidsOfSpec)

/-- ITS FALSE NEIGHBOUR: 'it returns false'. Refute it at one input. -/
def fnExactKidsOfWrong : ChangeSpec := { name := "fnExactKidsOf", fn := fun _ => fun
  | [d1, d2] => { results := [.lit (.bool false)], args := [d1, d2] }
  | _ => none }
def FnExactKidsOfWrongFalsely : Prop := fnExactKidsOfRow.holds Try.pinned (OpenSpec.ofChange fnExactKidsOfWrong)

/- THE SECOND FORM. 'bulk': how many values and letters a reading holds, each counted each time it is reached (what is shared counts as often as it is met; a slice's spare places count too). A statement '..UptoSaid' is the law's where the arguments, and the package variables that the reading takes, are together of bulk at most 1048576: NARROWER than '..Said'. Prove '..Said' where nothing that the law and all that it calls make is longer than what came in: it says more and counts as full. Else prove '..UptoSaid'. A law counts once. -/
mutual
def uptoBulk {H : Type} : DataW H → Nat
  | .lit (.string bytes) => bytes.length + 1
  | .lit _ => 1
  | .nil => 1
  | .ptr d => uptoBulk d + 1
  | .slice elems spare => uptoBulkAll elems + uptoBulkAll spare + 1
  | .agg parts => uptoBulkAll parts + 1
  | .iface _ d => uptoBulk d + 1
  | .map entries => uptoBulkEntries entries + 1
  | .held _ => 1
def uptoBulkAll {H : Type} : List (DataW H) → Nat
  | [] => 0
  | d :: r => uptoBulk d + uptoBulkAll r
def uptoBulkEntries {H : Type} : List (Lit × DataW H) → Nat
  | [] => 0
  | x :: r => uptoBulkEntry x + uptoBulkEntries r
def uptoBulkEntry {H : Type} : Lit × DataW H → Nat
  | (.string bytes, d) => bytes.length + uptoBulk d + 1
  | (_, d) => uptoBulk d + 1
 end
def uptoSmall : (H : Type) → List (DataW H) → Bool := fun _ ds => decide (uptoBulkAll ds ≤ 1048576)
def OpenSpec.upto (s : _root_.Go.ChangeSpec) : _root_.Go.OpenSpec := { _root_.Go.OpenSpec.ofChange s with cond := some uptoSmall }

/-- 'laws.FnStrokeLines', WHERE WHAT IT READS IS OF BULK AT MOST 1048576: true; the input reads as it did. -/
def fnStrokeLinesUptoRow : OpenClaim := { program := "ytgdlbilpfmjeaaa", sum := "f5a94d3a1af5195b81d0e5a01b2c6e01ec6ee5447d9a6cb3f7501ccc05456699", func := "loop.example/g00190/laws.FnStrokeLines", spec := "fnStrokeLines", apart := false, narrowed := true }
def FnStrokeLinesUptoSaid : Prop := fnStrokeLinesUptoRow.holds Try.pinned (OpenSpec.upto fnStrokeLinesSpec)

/-- 'laws.FnCovers', WHERE WHAT IT READS IS OF BULK AT MOST 1048576: true; the input reads as it did. -/
def fnCoversUptoRow : OpenClaim := { program := "ytgdlbilpfmjeaaa", sum := "f5a94d3a1af5195b81d0e5a01b2c6e01ec6ee5447d9a6cb3f7501ccc05456699", func := "loop.example/g00190/laws.FnCovers", spec := "fnCovers", apart := false, narrowed := true }
def FnCoversUptoSaid : Prop := fnCoversUptoRow.holds Try.pinned (OpenSpec.upto fnCoversSpec)

/-- 'laws.FnExactMaskBy', WHERE WHAT IT READS IS OF BULK AT MOST 1048576: true; the input reads as it did. -/
def fnExactMaskByUptoRow : OpenClaim := { program := "ytgdlbilpfmjeaaa", sum := "f5a94d3a1af5195b81d0e5a01b2c6e01ec6ee5447d9a6cb3f7501ccc05456699", func := "loop.example/g00190/laws.FnExactMaskBy", spec := "fnExactMaskBy", apart := false, narrowed := true }
def FnExactMaskByUptoSaid : Prop := fnExactMaskByUptoRow.holds Try.pinned (OpenSpec.upto fnExactMaskBySpec)

/-- 'laws.FnExactStrokeOf', WHERE WHAT IT READS IS OF BULK AT MOST 1048576: true; the input reads as it did. -/
def fnExactStrokeOfUptoRow : OpenClaim := { program := "ytgdlbilpfmjeaaa", sum := "f5a94d3a1af5195b81d0e5a01b2c6e01ec6ee5447d9a6cb3f7501ccc05456699", func := "loop.example/g00190/laws.FnExactStrokeOf", spec := "fnExactStrokeOf", apart := false, narrowed := true }
def FnExactStrokeOfUptoSaid : Prop := fnExactStrokeOfUptoRow.holds Try.pinned (OpenSpec.upto fnExactStrokeOfSpec)

/-- 'laws.FnExactMaskOf', WHERE WHAT IT READS IS OF BULK AT MOST 1048576: true; the input reads as it did. -/
def fnExactMaskOfUptoRow : OpenClaim := { program := "ytgdlbilpfmjeaaa", sum := "f5a94d3a1af5195b81d0e5a01b2c6e01ec6ee5447d9a6cb3f7501ccc05456699", func := "loop.example/g00190/laws.FnExactMaskOf", spec := "fnExactMaskOf", unfollowed := true, recurses := true, apart := false, narrowed := true }
def FnExactMaskOfUptoSaid : Prop := fnExactMaskOfUptoRow.holds Try.pinned (OpenSpec.upto fnExactMaskOfSpec)

/-- 'laws.FnExactNodeAt', WHERE WHAT IT READS IS OF BULK AT MOST 1048576: true; the input reads as it did. -/
def fnExactNodeAtUptoRow : OpenClaim := { program := "ytgdlbilpfmjeaaa", sum := "f5a94d3a1af5195b81d0e5a01b2c6e01ec6ee5447d9a6cb3f7501ccc05456699", func := "loop.example/g00190/laws.FnExactNodeAt", spec := "fnExactNodeAt", unfollowed := true, recurses := true, apart := false, narrowed := true }
def FnExactNodeAtUptoSaid : Prop := fnExactNodeAtUptoRow.holds Try.pinned (OpenSpec.upto fnExactNodeAtSpec)

/-- 'laws.FnExactDepthOf', WHERE WHAT IT READS IS OF BULK AT MOST 1048576: true; the input reads as it did. -/
def fnExactDepthOfUptoRow : OpenClaim := { program := "ytgdlbilpfmjeaaa", sum := "f5a94d3a1af5195b81d0e5a01b2c6e01ec6ee5447d9a6cb3f7501ccc05456699", func := "loop.example/g00190/laws.FnExactDepthOf", spec := "fnExactDepthOf", unfollowed := true, recurses := true, apart := false, narrowed := true }
def FnExactDepthOfUptoSaid : Prop := fnExactDepthOfUptoRow.holds Try.pinned (OpenSpec.upto fnExactDepthOfSpec)

/-- 'laws.FnDashLines', WHERE WHAT IT READS IS OF BULK AT MOST 1048576: true; the input reads as it did. -/
def fnDashLinesUptoRow : OpenClaim := { program := "ytgdlbilpfmjeaaa", sum := "f5a94d3a1af5195b81d0e5a01b2c6e01ec6ee5447d9a6cb3f7501ccc05456699", func := "loop.example/g00190/laws.FnDashLines", spec := "fnDashLines", apart := false, narrowed := true }
def FnDashLinesUptoSaid : Prop := fnDashLinesUptoRow.holds Try.pinned (OpenSpec.upto fnDashLinesSpec)

/-- 'laws.FnFlats', WHERE WHAT IT READS IS OF BULK AT MOST 1048576: true; the input reads as it did. -/
def fnFlatsUptoRow : OpenClaim := { program := "ytgdlbilpfmjeaaa", sum := "f5a94d3a1af5195b81d0e5a01b2c6e01ec6ee5447d9a6cb3f7501ccc05456699", func := "loop.example/g00190/laws.FnFlats", spec := "fnFlats", apart := false, narrowed := true }
def FnFlatsUptoSaid : Prop := fnFlatsUptoRow.holds Try.pinned (OpenSpec.upto fnFlatsSpec)

/-- 'laws.FnTrees', WHERE WHAT IT READS IS OF BULK AT MOST 1048576: true; the input reads as it did. -/
def fnTreesUptoRow : OpenClaim := { program := "ytgdlbilpfmjeaaa", sum := "f5a94d3a1af5195b81d0e5a01b2c6e01ec6ee5447d9a6cb3f7501ccc05456699", func := "loop.example/g00190/laws.FnTrees", spec := "fnTrees", unfollowed := true, recurses := true, apart := false, narrowed := true }
def FnTreesUptoSaid : Prop := fnTreesUptoRow.holds Try.pinned (OpenSpec.upto fnTreesSpec)

/-- 'laws.FnExactDashOf', WHERE WHAT IT READS IS OF BULK AT MOST 1048576: true; the input reads as it did. -/
def fnExactDashOfUptoRow : OpenClaim := { program := "ytgdlbilpfmjeaaa", sum := "f5a94d3a1af5195b81d0e5a01b2c6e01ec6ee5447d9a6cb3f7501ccc05456699", func := "loop.example/g00190/laws.FnExactDashOf", spec := "fnExactDashOf", apart := false, narrowed := true }
def FnExactDashOfUptoSaid : Prop := fnExactDashOfUptoRow.holds Try.pinned (OpenSpec.upto fnExactDashOfSpec)

/-- 'laws.FnExactKidsOf', WHERE WHAT IT READS IS OF BULK AT MOST 1048576: true; the input reads as it did. -/
def fnExactKidsOfUptoRow : OpenClaim := { program := "ytgdlbilpfmjeaaa", sum := "f5a94d3a1af5195b81d0e5a01b2c6e01ec6ee5447d9a6cb3f7501ccc05456699", func := "loop.example/g00190/laws.FnExactKidsOf", spec := "fnExactKidsOf", apart := false, narrowed := true }
def FnExactKidsOfUptoSaid : Prop := fnExactKidsOfUptoRow.holds Try.pinned (OpenSpec.upto fnExactKidsOfSpec)

end Rows
end Go.Proofs.Ytgdlbilpfmjeaaa
