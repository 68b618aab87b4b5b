/-
  No cell of these rows narrows 'for every input' (looked for: loops, veiled, ifaces, maps, wideKeys, modest, calm, conditions, laid).
  DERIVED. THE GIVEN ROWS OF THIS SEAT. 12 by the template 'for every input the law returns true; each argument reads behind the call as it read before'; 0 by the template 'total and deterministic' (their statements: YtkbgcdoeedmaiaaTotals.lean).
  GIVEN WITH THE SEED: the statements are not yours to turn. If you find one false, say at which input.
  Laid BY PROGRAM, IN A SANDBOX (cutbox-rows.mjs): the forced cells as the released guide's own fill.sh prints them over the translation d8c662d1e27c428d… (all of the seat's roots in one cut). By AI agents, Wed Nov 11 2026. No macro, syntax, notation, axiom, sorry.
-/
import Derived.Test.YtkbgcdoeedmaiaaChecked
import GoSem.Claim
import GoSem.ClaimJoined
import GoSem.ClaimMapViews
import Derived.JoinedTies
import Derived.KernelRfl
namespace Go.Proofs.Ytkbgcdoeedmaiaa
/- THE CELL 'sum', in the pinned program and in every row, IS THE sha256 OF THE DUMP (.gsa) THAT YtkbgcdoeedmaiaaProg.lean LOADS. Nothing in Lean hashes anything: it is a label: what it is worth is what the hold of that sum in a sandbox is worth. -/
noncomputable def Try.pinned : Pinned := { name := "ytkbgcdoeedmaiaa", sum := "d8c662d1e27c428df8df539a43d77974f248544632a0bb12a67de9326dcf5020", checked := Try.checked }
namespace Rows
def none {H : Type} : Left H := { results := [], args := [] }

/-- 'laws.FnExactSameSurface': WHATEVER THE INPUT: true; the input reads as it did. -/
def fnExactSameSurfaceSpec : ChangeSpec := { name := "fnExactSameSurface", fn := fun _ => fun
  | [d1, d2] => { results := [.lit (.bool true)], args := [d1, d2] }
  | _ => none }
def fnExactSameSurfaceRow : OpenClaim := { program := "ytkbgcdoeedmaiaa", sum := "d8c662d1e27c428df8df539a43d77974f248544632a0bb12a67de9326dcf5020", func := "loop.example/g00190/laws.FnExactSameSurface", spec := "fnExactSameSurface", apart := false }
def FnExactSameSurfaceSaid : Prop := fnExactSameSurfaceRow.holds Try.pinned (OpenSpec.ofChange fnExactSameSurfaceSpec)

/-- ITS FALSE NEIGHBOUR: 'it returns false'. Refute it at one input. -/
def fnExactSameSurfaceWrong : ChangeSpec := { name := "fnExactSameSurface", fn := fun _ => fun
  | [d1, d2] => { results := [.lit (.bool false)], args := [d1, d2] }
  | _ => none }
def FnExactSameSurfaceWrongFalsely : Prop := fnExactSameSurfaceRow.holds Try.pinned (OpenSpec.ofChange fnExactSameSurfaceWrong)

/-- 'laws.FnExactThin': WHATEVER THE INPUT: true; the input reads as it did. -/
def fnExactThinSpec : ChangeSpec := { name := "fnExactThin", fn := fun _ => fun
  | [d1, d2] => { results := [.lit (.bool true)], args := [d1, d2] }
  | _ => none }
def fnExactThinRow : OpenClaim := { program := "ytkbgcdoeedmaiaa", sum := "d8c662d1e27c428df8df539a43d77974f248544632a0bb12a67de9326dcf5020", func := "loop.example/g00190/laws.FnExactThin", spec := "fnExactThin", unfollowed := true, recurses := true, apart := false }
def FnExactThinSaid : Prop := fnExactThinRow.holds Try.pinned (OpenSpec.ofChange fnExactThinSpec)

/-- ITS FALSE NEIGHBOUR: 'it returns false'. Refute it at one input. -/
def fnExactThinWrong : ChangeSpec := { name := "fnExactThin", fn := fun _ => fun
  | [d1, d2] => { results := [.lit (.bool false)], args := [d1, d2] }
  | _ => none }
def FnExactThinWrongFalsely : Prop := fnExactThinRow.holds Try.pinned (OpenSpec.ofChange fnExactThinWrong)

/-- 'laws.FnExactSurfaceNew': WHATEVER THE INPUT: true; the input reads as it did. -/
def fnExactSurfaceNewSpec : ChangeSpec := { name := "fnExactSurfaceNew", fn := fun _ => fun
  | [d1, d2] => { results := [.lit (.bool true)], args := [d1, d2] }
  | _ => none }
def fnExactSurfaceNewRow : OpenClaim := { program := "ytkbgcdoeedmaiaa", sum := "d8c662d1e27c428df8df539a43d77974f248544632a0bb12a67de9326dcf5020", func := "loop.example/g00190/laws.FnExactSurfaceNew", spec := "fnExactSurfaceNew", apart := false }
def FnExactSurfaceNewSaid : Prop := fnExactSurfaceNewRow.holds Try.pinned (OpenSpec.ofChange fnExactSurfaceNewSpec)

/-- ITS FALSE NEIGHBOUR: 'it returns false'. Refute it at one input. -/
def fnExactSurfaceNewWrong : ChangeSpec := { name := "fnExactSurfaceNew", fn := fun _ => fun
  | [d1, d2] => { results := [.lit (.bool false)], args := [d1, d2] }
  | _ => none }
def FnExactSurfaceNewWrongFalsely : Prop := fnExactSurfaceNewRow.holds Try.pinned (OpenSpec.ofChange fnExactSurfaceNewWrong)

/-- 'laws.FnExactPointAt': WHATEVER THE INPUT: true; the input reads as it did. -/
def fnExactPointAtSpec : ChangeSpec := { name := "fnExactPointAt", fn := fun _ => fun
  | [d1, d2, d3, d4] => { results := [.lit (.bool true)], args := [d1, d2, d3, d4] }
  | _ => none }
def fnExactPointAtRow : OpenClaim := { program := "ytkbgcdoeedmaiaa", sum := "d8c662d1e27c428df8df539a43d77974f248544632a0bb12a67de9326dcf5020", func := "loop.example/g00190/laws.FnExactPointAt", spec := "fnExactPointAt", apart := false }
def FnExactPointAtSaid : Prop := fnExactPointAtRow.holds Try.pinned (OpenSpec.ofChange fnExactPointAtSpec)

/-- ITS FALSE NEIGHBOUR: 'it returns false'. Refute it at one input. -/
def fnExactPointAtWrong : ChangeSpec := { name := "fnExactPointAt", fn := fun _ => fun
  | [d1, d2, d3, d4] => { results := [.lit (.bool false)], args := [d1, d2, d3, d4] }
  | _ => none }
def FnExactPointAtWrongFalsely : Prop := fnExactPointAtRow.holds Try.pinned (OpenSpec.ofChange fnExactPointAtWrong)

/-- 'laws.FnDashes': WHATEVER THE INPUT: true; the input reads as it did. -/
def fnDashesSpec : ChangeSpec := { name := "fnDashes", fn := fun _ => fun
  | [d] => { results := [.lit (.bool true)], args := [d] }
  | _ => none }
def fnDashesRow : OpenClaim := { program := "ytkbgcdoeedmaiaa", sum := "d8c662d1e27c428df8df539a43d77974f248544632a0bb12a67de9326dcf5020", func := "loop.example/g00190/laws.FnDashes", spec := "fnDashes", apart := false }
def FnDashesSaid : Prop := fnDashesRow.holds Try.pinned (OpenSpec.ofChange fnDashesSpec)

/-- ITS FALSE NEIGHBOUR: 'it returns false'. Refute it at one input. -/
def fnDashesWrong : ChangeSpec := { name := "fnDashes", fn := fun _ => fun
  | [d] => { results := [.lit (.bool false)], args := [d] }
  | _ => none }
def FnDashesWrongFalsely : Prop := fnDashesRow.holds Try.pinned (OpenSpec.ofChange fnDashesWrong)

/-- 'laws.FnExactLaid': WHATEVER THE INPUT: true; the input reads as it did. -/
def fnExactLaidSpec : ChangeSpec := { name := "fnExactLaid", fn := fun _ => fun
  | [d] => { results := [.lit (.bool true)], args := [d] }
  | _ => none }
def fnExactLaidRow : OpenClaim := { program := "ytkbgcdoeedmaiaa", sum := "d8c662d1e27c428df8df539a43d77974f248544632a0bb12a67de9326dcf5020", func := "loop.example/g00190/laws.FnExactLaid", spec := "fnExactLaid", apart := false }
def FnExactLaidSaid : Prop := fnExactLaidRow.holds Try.pinned (OpenSpec.ofChange fnExactLaidSpec)

/-- ITS FALSE NEIGHBOUR: 'it returns false'. Refute it at one input. -/
def fnExactLaidWrong : ChangeSpec := { name := "fnExactLaid", fn := fun _ => fun
  | [d] => { results := [.lit (.bool false)], args := [d] }
  | _ => none }
def FnExactLaidWrongFalsely : Prop := fnExactLaidRow.holds Try.pinned (OpenSpec.ofChange fnExactLaidWrong)

/-- 'laws.FnExactMaskOk': WHATEVER THE INPUT: true; the input reads as it did. -/
def fnExactMaskOkSpec : ChangeSpec := { name := "fnExactMaskOk", fn := fun _ => fun
  | [d] => { results := [.lit (.bool true)], args := [d] }
  | _ => none }
def fnExactMaskOkRow : OpenClaim := { program := "ytkbgcdoeedmaiaa", sum := "d8c662d1e27c428df8df539a43d77974f248544632a0bb12a67de9326dcf5020", func := "loop.example/g00190/laws.FnExactMaskOk", spec := "fnExactMaskOk", apart := false }
def FnExactMaskOkSaid : Prop := fnExactMaskOkRow.holds Try.pinned (OpenSpec.ofChange fnExactMaskOkSpec)

/-- ITS FALSE NEIGHBOUR: 'it returns false'. Refute it at one input. -/
def fnExactMaskOkWrong : ChangeSpec := { name := "fnExactMaskOk", fn := fun _ => fun
  | [d] => { results := [.lit (.bool false)], args := [d] }
  | _ => none }
def FnExactMaskOkWrongFalsely : Prop := fnExactMaskOkRow.holds Try.pinned (OpenSpec.ofChange fnExactMaskOkWrong)

/-- 'laws.FnExactSurfaceOk': WHATEVER THE INPUT: true; the input reads as it did. -/
def fnExactSurfaceOkSpec : ChangeSpec := { name := "fnExactSurfaceOk", fn := fun _ => fun
  | [d] => { results := [.lit (.bool true)], args := [d] }
  | _ => none }
def fnExactSurfaceOkRow : OpenClaim := { program := "ytkbgcdoeedmaiaa", sum := "d8c662d1e27c428df8df539a43d77974f248544632a0bb12a67de9326dcf5020", func := "loop.example/g00190/laws.FnExactSurfaceOk", spec := "fnExactSurfaceOk", apart := false }
def FnExactSurfaceOkSaid : Prop := fnExactSurfaceOkRow.holds Try.pinned (OpenSpec.ofChange fnExactSurfaceOkSpec)

/-- ITS FALSE NEIGHBOUR: 'it returns false'. Refute it at one input. -/
def fnExactSurfaceOkWrong : ChangeSpec := { name := "fnExactSurfaceOk", fn := fun _ => fun
  | [d] => { results := [.lit (.bool false)], args := [d] }
  | _ => none }
def FnExactSurfaceOkWrongFalsely : Prop := fnExactSurfaceOkRow.holds Try.pinned (OpenSpec.ofChange fnExactSurfaceOkWrong)

/-- 'laws.FnWinds': WHATEVER THE INPUT: true; the input reads as it did. -/
def fnWindsSpec : ChangeSpec := { name := "fnWinds", fn := fun _ => fun
  | [d] => { results := [.lit (.bool true)], args := [d] }
  | _ => none }
def fnWindsRow : OpenClaim := { program := "ytkbgcdoeedmaiaa", sum := "d8c662d1e27c428df8df539a43d77974f248544632a0bb12a67de9326dcf5020", func := "loop.example/g00190/laws.FnWinds", spec := "fnWinds", apart := false }
def FnWindsSaid : Prop := fnWindsRow.holds Try.pinned (OpenSpec.ofChange fnWindsSpec)

/-- ITS FALSE NEIGHBOUR: 'it returns false'. Refute it at one input. -/
def fnWindsWrong : ChangeSpec := { name := "fnWinds", fn := fun _ => fun
  | [d] => { results := [.lit (.bool false)], args := [d] }
  | _ => none }
def FnWindsWrongFalsely : Prop := fnWindsRow.holds Try.pinned (OpenSpec.ofChange fnWindsWrong)

/-- 'laws.FnExactFade': WHATEVER THE INPUT: true; the input reads as it did. -/
def fnExactFadeSpec : ChangeSpec := { name := "fnExactFade", fn := fun _ => fun
  | [d1, d2] => { results := [.lit (.bool true)], args := [d1, d2] }
  | _ => none }
def fnExactFadeRow : OpenClaim := { program := "ytkbgcdoeedmaiaa", sum := "d8c662d1e27c428df8df539a43d77974f248544632a0bb12a67de9326dcf5020", func := "loop.example/g00190/laws.FnExactFade", spec := "fnExactFade", unfollowed := true, recurses := true, apart := false }
def FnExactFadeSaid : Prop := fnExactFadeRow.holds Try.pinned (OpenSpec.ofChange fnExactFadeSpec)

/-- ITS FALSE NEIGHBOUR: 'it returns false'. Refute it at one input. -/
def fnExactFadeWrong : ChangeSpec := { name := "fnExactFade", fn := fun _ => fun
  | [d1, d2] => { results := [.lit (.bool false)], args := [d1, d2] }
  | _ => none }
def FnExactFadeWrongFalsely : Prop := fnExactFadeRow.holds Try.pinned (OpenSpec.ofChange fnExactFadeWrong)

/-- 'laws.FnStrokes': WHATEVER THE INPUT: true; the input reads as it did. -/
def fnStrokesSpec : ChangeSpec := { name := "fnStrokes", fn := fun _ => fun
  | [d] => { results := [.lit (.bool true)], args := [d] }
  | _ => none }
def fnStrokesRow : OpenClaim := { program := "ytkbgcdoeedmaiaa", sum := "d8c662d1e27c428df8df539a43d77974f248544632a0bb12a67de9326dcf5020", func := "loop.example/g00190/laws.FnStrokes", spec := "fnStrokes", apart := false }
def FnStrokesSaid : Prop := fnStrokesRow.holds Try.pinned (OpenSpec.ofChange fnStrokesSpec)

/-- ITS FALSE NEIGHBOUR: 'it returns false'. Refute it at one input. -/
def fnStrokesWrong : ChangeSpec := { name := "fnStrokes", fn := fun _ => fun
  | [d] => { results := [.lit (.bool false)], args := [d] }
  | _ => none }
def FnStrokesWrongFalsely : Prop := fnStrokesRow.holds Try.pinned (OpenSpec.ofChange fnStrokesWrong)

/-- 'laws.FnExactSideOf': WHATEVER THE INPUT: true; the input reads as it did. -/
def fnExactSideOfSpec : ChangeSpec := { name := "fnExactSideOf", fn := fun _ => fun
  | [d1, d2, d3] => { results := [.lit (.bool true)], args := [d1, d2, d3] }
  | _ => none }
def fnExactSideOfRow : OpenClaim := { program := "ytkbgcdoeedmaiaa", sum := "d8c662d1e27c428df8df539a43d77974f248544632a0bb12a67de9326dcf5020", func := "loop.example/g00190/laws.FnExactSideOf", spec := "fnExactSideOf", apart := false }
def FnExactSideOfSaid : Prop := fnExactSideOfRow.holds Try.pinned (OpenSpec.ofChange fnExactSideOfSpec)

/-- ITS FALSE NEIGHBOUR: 'it returns false'. Refute it at one input. -/
def fnExactSideOfWrong : ChangeSpec := { name := "fnExactSideOf", fn := fun _ => fun
  | [d1, d2, d3] => { results := [.lit (.bool false)], args := [d1, d2, d3] }
  | _ => none }
def FnExactSideOfWrongFalsely : Prop := fnExactSideOfRow.holds Try.pinned (OpenSpec.ofChange fnExactSideOfWrong)

/- THE SECOND FORM. 'bulk': how many values and letters a reading holds, each counted each time it is reached (what is shared counts as often as it is met; a slice's spare places count too). A statement '..UptoSaid' is the law's where the arguments, and the package variables that the reading takes, are together of bulk at most 1048576: NARROWER than '..Said'. Prove '..Said' where nothing that the law and all that it calls make is longer than what came in: it says more and counts as full. Else prove '..UptoSaid'. A law counts once. -/
mutual
def uptoBulk {H : Type} : DataW H → Nat
  | .lit (.string bytes) => bytes.length + 1
  | .lit _ => 1
  | .nil => 1
  | .ptr d => uptoBulk d + 1
  | .slice elems spare => uptoBulkAll elems + uptoBulkAll spare + 1
  | .agg parts => uptoBulkAll parts + 1
  | .iface _ d => uptoBulk d + 1
  | .map entries => uptoBulkEntries entries + 1
  | .held _ => 1
def uptoBulkAll {H : Type} : List (DataW H) → Nat
  | [] => 0
  | d :: r => uptoBulk d + uptoBulkAll r
def uptoBulkEntries {H : Type} : List (Lit × DataW H) → Nat
  | [] => 0
  | x :: r => uptoBulkEntry x + uptoBulkEntries r
def uptoBulkEntry {H : Type} : Lit × DataW H → Nat
  | (.string bytes, d) => bytes.length + uptoBulk d + 1
  | (_, d) => uptoBulk d + 1
 end
def uptoSmall : (H : Type) → List (DataW H) → Bool := fun _ ds => decide (uptoBulkAll ds ≤ 1048576)
def OpenSpec.upto (s : _root_.Go.ChangeSpec) : _root_.Go.OpenSpec := { _root_.Go.OpenSpec.ofChange s with cond := some uptoSmall }

/-- 'laws.FnExactSameSurface', WHERE WHAT IT READS IS OF BULK AT MOST 1048576: true; the input reads as it did. -/
def fnExactSameSurfaceUptoRow : OpenClaim := { program := "ytkbgcdoeedmaiaa", sum := "d8c662d1e27c428df8df539a43d77974f248544632a0bb12a67de9326dcf5020", func := "loop.example/g00190/laws.FnExactSameSurface", spec := "fnExactSameSurface", apart := false, narrowed := true }
def FnExactSameSurfaceUptoSaid : Prop := fnExactSameSurfaceUptoRow.holds Try.pinned (OpenSpec.upto fnExactSameSurfaceSpec)

/-- 'laws.FnExactThin', WHERE WHAT IT READS IS OF BULK AT MOST 1048576: true; the input reads as it did. -/
def fnExactThinUptoRow : OpenClaim := { program := "ytkbgcdoeedmaiaa", sum := "d8c662d1e27c428df8df539a43d77974f248544632a0bb12a67de9326dcf5020", func := "loop.example/g00190/laws.FnExactThin", spec := "fnExactThin", unfollowed := true, recurses := true, apart := false, narrowed := true }
def FnExactThinUptoSaid : Prop := fnExactThinUptoRow.holds Try.pinned (OpenSpec.upto fnExactThinSpec)

/-- 'laws.FnExactSurfaceNew', WHERE WHAT IT READS IS OF BULK AT MOST 1048576: true; the input reads as it did. -/
def fnExactSurfaceNewUptoRow : OpenClaim := { program := "ytkbgcdoeedmaiaa", sum := "d8c662d1e27c428df8df539a43d77974f248544632a0bb12a67de9326dcf5020", func := "loop.example/g00190/laws.FnExactSurfaceNew", spec := "fnExactSurfaceNew", apart := false, narrowed := true }
def FnExactSurfaceNewUptoSaid : Prop := fnExactSurfaceNewUptoRow.holds Try.pinned (OpenSpec.upto fnExactSurfaceNewSpec)

/-- 'laws.FnExactPointAt', WHERE WHAT IT READS IS OF BULK AT MOST 1048576: true; the input reads as it did. -/
def fnExactPointAtUptoRow : OpenClaim := { program := "ytkbgcdoeedmaiaa", sum := "d8c662d1e27c428df8df539a43d77974f248544632a0bb12a67de9326dcf5020", func := "loop.example/g00190/laws.FnExactPointAt", spec := "fnExactPointAt", apart := false, narrowed := true }
def FnExactPointAtUptoSaid : Prop := fnExactPointAtUptoRow.holds Try.pinned (OpenSpec.upto fnExactPointAtSpec)

/-- 'laws.FnDashes', WHERE WHAT IT READS IS OF BULK AT MOST 1048576: true; the input reads as it did. -/
def fnDashesUptoRow : OpenClaim := { program := "ytkbgcdoeedmaiaa", sum := "d8c662d1e27c428df8df539a43d77974f248544632a0bb12a67de9326dcf5020", func := "loop.example/g00190/laws.FnDashes", spec := "fnDashes", apart := false, narrowed := true }
def FnDashesUptoSaid : Prop := fnDashesUptoRow.holds Try.pinned (OpenSpec.upto fnDashesSpec)

/-- 'laws.FnExactLaid', WHERE WHAT IT READS IS OF BULK AT MOST 1048576: true; the input reads as it did. -/
def fnExactLaidUptoRow : OpenClaim := { program := "ytkbgcdoeedmaiaa", sum := "d8c662d1e27c428df8df539a43d77974f248544632a0bb12a67de9326dcf5020", func := "loop.example/g00190/laws.FnExactLaid", spec := "fnExactLaid", apart := false, narrowed := true }
def FnExactLaidUptoSaid : Prop := fnExactLaidUptoRow.holds Try.pinned (OpenSpec.upto fnExactLaidSpec)

/-- 'laws.FnExactMaskOk', WHERE WHAT IT READS IS OF BULK AT MOST 1048576: true; the input reads as it did. -/
def fnExactMaskOkUptoRow : OpenClaim := { program := "ytkbgcdoeedmaiaa", sum := "d8c662d1e27c428df8df539a43d77974f248544632a0bb12a67de9326dcf5020", func := "loop.example/g00190/laws.FnExactMaskOk", spec := "fnExactMaskOk", apart := false, narrowed := true }
def FnExactMaskOkUptoSaid : Prop := fnExactMaskOkUptoRow.holds Try.pinned (OpenSpec.upto fnExactMaskOkSpec)

/-- 'laws.FnExactSurfaceOk', WHERE WHAT IT READS IS OF BULK AT MOST 1048576: true; the input reads as it did. -/
def fnExactSurfaceOkUptoRow : OpenClaim := { program := "ytkbgcdoeedmaiaa", sum := "d8c662d1e27c428df8df539a43d77974f248544632a0bb12a67de9326dcf5020", func := "loop.example/g00190/laws.FnExactSurfaceOk", spec := "fnExactSurfaceOk", apart := false, narrowed := true }
def FnExactSurfaceOkUptoSaid : Prop := fnExactSurfaceOkUptoRow.holds Try.pinned (OpenSpec.upto fnExactSurfaceOkSpec)

/-- 'laws.FnWinds', WHERE WHAT IT READS IS OF BULK AT MOST 1048576: true; the input reads as it did. -/
def fnWindsUptoRow : OpenClaim := { program := "ytkbgcdoeedmaiaa", sum := "d8c662d1e27c428df8df539a43d77974f248544632a0bb12a67de9326dcf5020", func := "loop.example/g00190/laws.FnWinds", spec := "fnWinds", apart := false, narrowed := true }
def FnWindsUptoSaid : Prop := fnWindsUptoRow.holds Try.pinned (OpenSpec.upto fnWindsSpec)

/-- 'laws.FnExactFade', WHERE WHAT IT READS IS OF BULK AT MOST 1048576: true; the input reads as it did. -/
def fnExactFadeUptoRow : OpenClaim := { program := "ytkbgcdoeedmaiaa", sum := "d8c662d1e27c428df8df539a43d77974f248544632a0bb12a67de9326dcf5020", func := "loop.example/g00190/laws.FnExactFade", spec := "fnExactFade", unfollowed := true, recurses := true, apart := false, narrowed := true }
def FnExactFadeUptoSaid : Prop := fnExactFadeUptoRow.holds Try.pinned (OpenSpec.upto fnExactFadeSpec)

/-- 'laws.FnStrokes', WHERE WHAT IT READS IS OF BULK AT MOST 1048576: true; the input reads as it did. -/
def fnStrokesUptoRow : OpenClaim := { program := "ytkbgcdoeedmaiaa", sum := "d8c662d1e27c428df8df539a43d77974f248544632a0bb12a67de9326dcf5020", func := "loop.example/g00190/laws.FnStrokes", spec := "fnStrokes", apart := false, narrowed := true }
def FnStrokesUptoSaid : Prop := fnStrokesUptoRow.holds Try.pinned (OpenSpec.upto fnStrokesSpec)

/-- 'laws.FnExactSideOf', WHERE WHAT IT READS IS OF BULK AT MOST 1048576: true; the input reads as it did. -/
def fnExactSideOfUptoRow : OpenClaim := { program := "ytkbgcdoeedmaiaa", sum := "d8c662d1e27c428df8df539a43d77974f248544632a0bb12a67de9326dcf5020", func := "loop.example/g00190/laws.FnExactSideOf", spec := "fnExactSideOf", apart := false, narrowed := true }
def FnExactSideOfUptoSaid : Prop := fnExactSideOfUptoRow.holds Try.pinned (OpenSpec.upto fnExactSideOfSpec)

end Rows
end Go.Proofs.Ytkbgcdoeedmaiaa
