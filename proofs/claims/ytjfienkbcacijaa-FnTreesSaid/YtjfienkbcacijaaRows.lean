/-
  No cell of these rows narrows 'for every input' (looked for: loops, veiled, ifaces, maps, wideKeys, modest, calm, conditions, laid).
  DERIVED. THE GIVEN ROWS OF THIS SEAT. 6 by the template 'for every input the law returns true; each argument reads behind the call as it read before'; 0 by the template 'total and deterministic' (their statements: YtjfienkbcacijaaTotals.lean).
  GIVEN WITH THE SEED: the statements are not yours to turn. If you find one false, say at which input.
  Laid BY PROGRAM, IN A SANDBOX (cutbox-rows.mjs): the forced cells as the released guide's own fill.sh prints them over the translation bea91f81b72db34b… (all of the seat's roots in one cut). By AI agents, Wed Nov 11 2026. No macro, syntax, notation, axiom, sorry.
-/
import Derived.Test.YtjfienkbcacijaaChecked
import GoSem.Claim
import GoSem.ClaimJoined
import GoSem.ClaimMapViews
import Derived.JoinedTies
import Derived.KernelRfl
namespace Go.Proofs.Ytjfienkbcacijaa
/- THE CELL 'sum', in the pinned program and in every row, IS THE sha256 OF THE DUMP (.gsa) THAT YtjfienkbcacijaaProg.lean LOADS. Nothing in Lean hashes anything: it is a label: what it is worth is what the hold of that sum in a sandbox is worth. -/
noncomputable def Try.pinned : Pinned := { name := "ytjfienkbcacijaa", sum := "bea91f81b72db34b0832033371c740e1e4332093c64f24da272ff83578ee36c7", checked := Try.checked }
namespace Rows
def none {H : Type} : Left H := { results := [], args := [] }

/-- 'laws.FnDashes': WHATEVER THE INPUT: true; the input reads as it did. -/
def fnDashesSpec : ChangeSpec := { name := "fnDashes", fn := fun _ => fun
  | [d] => { results := [.lit (.bool true)], args := [d] }
  | _ => none }
def fnDashesRow : OpenClaim := { program := "ytjfienkbcacijaa", sum := "bea91f81b72db34b0832033371c740e1e4332093c64f24da272ff83578ee36c7", func := "loop.example/g00190/laws.FnDashes", spec := "fnDashes", apart := false }
def FnDashesSaid : Prop := fnDashesRow.holds Try.pinned (OpenSpec.ofChange fnDashesSpec)

/-- ITS FALSE NEIGHBOUR: 'it returns false'. Refute it at one input. -/
def fnDashesWrong : ChangeSpec := { name := "fnDashes", fn := fun _ => fun
  | [d] => { results := [.lit (.bool false)], args := [d] }
  | _ => none }
def FnDashesWrongFalsely : Prop := fnDashesRow.holds Try.pinned (OpenSpec.ofChange fnDashesWrong)

/-- 'laws.FnDashLines': WHATEVER THE INPUT: true; the input reads as it did. -/
def fnDashLinesSpec : ChangeSpec := { name := "fnDashLines", fn := fun _ => fun
  | [d] => { results := [.lit (.bool true)], args := [d] }
  | _ => none }
def fnDashLinesRow : OpenClaim := { program := "ytjfienkbcacijaa", sum := "bea91f81b72db34b0832033371c740e1e4332093c64f24da272ff83578ee36c7", func := "loop.example/g00190/laws.FnDashLines", spec := "fnDashLines", apart := false }
def FnDashLinesSaid : Prop := fnDashLinesRow.holds Try.pinned (OpenSpec.ofChange fnDashLinesSpec)

/-- ITS FALSE NEIGHBOUR: 'it returns false'. Refute it at one input. -/
def fnDashLinesWrong : ChangeSpec := { name := "fnDashLines", fn := fun _ => fun
  | [d] => { results := [.lit (.bool false)], args := [d] }
  | _ => none }
def FnDashLinesWrongFalsely : Prop := fnDashLinesRow.holds Try.pinned (OpenSpec.ofChange fnDashLinesWrong)

/-- 'laws.FnExactDashOf': WHATEVER THE INPUT: true; the input reads as it did. -/
def fnExactDashOfSpec : ChangeSpec := { name := "fnExactDashOf", fn := fun _ => fun
  | [d1, d2, d3] => { results := [.lit (.bool true)], args := [d1, d2, d3] }
  | _ => none }
def fnExactDashOfRow : OpenClaim := { program := "ytjfienkbcacijaa", sum := "bea91f81b72db34b0832033371c740e1e4332093c64f24da272ff83578ee36c7", func := "loop.example/g00190/laws.FnExactDashOf", spec := "fnExactDashOf", apart := false }
def FnExactDashOfSaid : Prop := fnExactDashOfRow.holds Try.pinned (OpenSpec.ofChange fnExactDashOfSpec)

/-- ITS FALSE NEIGHBOUR: 'it returns false'. Refute it at one input. -/
def fnExactDashOfWrong : ChangeSpec := { name := "fnExactDashOf", fn := fun _ => fun
  | [d1, d2, d3] => { results := [.lit (.bool false)], args := [d1, d2, d3] }
  | _ => none }
def FnExactDashOfWrongFalsely : Prop := fnExactDashOfRow.holds Try.pinned (OpenSpec.ofChange fnExactDashOfWrong)

/-- 'laws.FnExactKidsOf': WHATEVER THE INPUT: true; the input reads as it did. -/
def fnExactKidsOfSpec : ChangeSpec := { name := "fnExactKidsOf", fn := fun _ => fun
  | [d1, d2] => { results := [.lit (.bool true)], args := [d1, d2] }
  | _ => none }
def fnExactKidsOfRow : OpenClaim := { program := "ytjfienkbcacijaa", sum := "bea91f81b72db34b0832033371c740e1e4332093c64f24da272ff83578ee36c7", func := "loop.example/g00190/laws.FnExactKidsOf", spec := "fnExactKidsOf", apart := false }
def FnExactKidsOfSaid : Prop := fnExactKidsOfRow.holds Try.pinned (OpenSpec.ofChange fnExactKidsOfSpec)

/-- ITS FALSE NEIGHBOUR: 'it returns false'. Refute it at one input. -/
def fnExactKidsOfWrong : ChangeSpec := { name := "fnExactKidsOf", fn := fun _ => fun
  | [d1, d2] => { results := [.lit (.bool false)], args := [d1, d2] }
  | _ => none }
def FnExactKidsOfWrongFalsely : Prop := fnExactKidsOfRow.holds Try.pinned (OpenSpec.ofChange fnExactKidsOfWrong)

/-- 'laws.FnExactUnderOf': WHATEVER THE INPUT: true; the input reads as it did. -/
def fnExactUnderOfSpec : ChangeSpec := { name := "fnExactUnderOf", fn := fun _ => fun
  | [d1, d2] => { results := [.lit (.bool true)], args := [d1, d2] }
  | _ => none }
def fnExactUnderOfRow : OpenClaim := { program := "ytjfienkbcacijaa", sum := "bea91f81b72db34b0832033371c740e1e4332093c64f24da272ff83578ee36c7", func := "loop.example/g00190/laws.FnExactUnderOf", spec := "fnExactUnderOf", unfollowed := true, recurses := true, apart := false }
def FnExactUnderOfSaid : Prop := fnExactUnderOfRow.holds Try.pinned (OpenSpec.ofChange fnExactUnderOfSpec)

/-- ITS FALSE NEIGHBOUR: 'it returns false'. Refute it at one input. -/
def fnExactUnderOfWrong : ChangeSpec := { name := "fnExactUnderOf", fn := fun _ => fun
  | [d1, d2] => { results := [.lit (.bool false)], args := [d1, d2] }
  | _ => none }
def FnExactUnderOfWrongFalsely : Prop := fnExactUnderOfRow.holds Try.pinned (OpenSpec.ofChange fnExactUnderOfWrong)

/-- 'laws.FnTrees': WHATEVER THE INPUT: true; the input reads as it did. -/
def fnTreesSpec : ChangeSpec := { name := "fnTrees", fn := fun _ => fun
  | [d] => { results := [.lit (.bool true)], args := [d] }
  | _ => none }
def fnTreesRow : OpenClaim := { program := "ytjfienkbcacijaa", sum := "bea91f81b72db34b0832033371c740e1e4332093c64f24da272ff83578ee36c7", func := "loop.example/g00190/laws.FnTrees", spec := "fnTrees", unfollowed := true, recurses := true, apart := false }
def FnTreesSaid : Prop := fnTreesRow.holds Try.pinned (OpenSpec.ofChange fnTreesSpec)

/-- ITS FALSE NEIGHBOUR: 'it returns false'. Refute it at one input. -/
def fnTreesWrong : ChangeSpec := { name := "fnTrees", fn := fun _ => fun
  | [d] => { results := [.lit (.bool false)], args := [d] }
  | _ => none }
def FnTreesWrongFalsely : Prop := fnTreesRow.holds Try.pinned (OpenSpec.ofChange fnTreesWrong)

/- THE SECOND FORM. 'bulk': how many values and letters a reading holds, each counted each time it is reached (what is shared counts as often as it is met; a slice's spare places count too). A statement '..UptoSaid' is the law's where the arguments, and the package variables that the reading takes, are together of bulk at most 1048576: NARROWER than '..Said'. Prove '..Said' where nothing that the law and all that it calls make is longer than what came in: it says more and counts as full. Else prove '..UptoSaid'. A law counts once. -/
mutual
def uptoBulk {H : Type} : DataW H → Nat
  | .lit (.string bytes) => bytes.length + 1
  | .lit _ => 1
  | .nil => 1
  | .ptr d => uptoBulk d + 1
  | .slice elems spare => uptoBulkAll elems + uptoBulkAll spare + 1
  | .agg parts => uptoBulkAll parts + 1
  | .iface _ d => uptoBulk d + 1
  | .map entries => uptoBulkEntries entries + 1
  | .held _ => 1
def uptoBulkAll {H : Type} : List (DataW H) → Nat
  | [] => 0
  | d :: r => uptoBulk d + uptoBulkAll r
def uptoBulkEntries {H : Type} : List (Lit × DataW H) → Nat
  | [] => 0
  | x :: r => uptoBulkEntry x + uptoBulkEntries r
def uptoBulkEntry {H : Type} : Lit × DataW H → Nat
  | (.string bytes, d) => bytes.length + uptoBulk d + 1
  | (_, d) => uptoBulk d + 1
 end
def uptoSmall : (H : Type) → List (DataW H) → Bool := fun _ ds => decide (uptoBulkAll ds ≤ 1048576)
def OpenSpec.upto (s : _root_.Go.ChangeSpec) : _root_.Go.OpenSpec := { _root_.Go.OpenSpec.ofChange s with cond := some uptoSmall }

/-- 'laws.FnDashes', WHERE WHAT IT READS IS OF BULK AT MOST 1048576: true; the input reads as it did. -/
def fnDashesUptoRow : OpenClaim := { program := "ytjfienkbcacijaa", sum := "bea91f81b72db34b0832033371c740e1e4332093c64f24da272ff83578ee36c7", func := "loop.example/g00190/laws.FnDashes", spec := "fnDashes", apart := false, narrowed := true }
def FnDashesUptoSaid : Prop := fnDashesUptoRow.holds Try.pinned (OpenSpec.upto fnDashesSpec)

/-- 'laws.FnDashLines', WHERE WHAT IT READS IS OF BULK AT MOST 1048576: true; the input reads as it did. -/
def fnDashLinesUptoRow : OpenClaim := { program := "ytjfienkbcacijaa", sum := "bea91f81b72db34b0832033371c740e1e4332093c64f24da272ff83578ee36c7", func := "loop.example/g00190/laws.FnDashLines", spec := "fnDashLines", apart := false, narrowed := true }
def FnDashLinesUptoSaid : Prop := fnDashLinesUptoRow.holds Try.pinned (OpenSpec.upto fnDashLinesSpec)

/-- 'laws.FnExactDashOf', WHERE WHAT IT READS IS OF BULK AT MOST 1048576: true; the input reads as it did. -/
def fnExactDashOfUptoRow : OpenClaim := { program := "ytjfienkbcacijaa", sum := "bea91f81b72db34b0832033371c740e1e4332093c64f24da272ff83578ee36c7", func := "loop.example/g00190/laws.FnExactDashOf", spec := "fnExactDashOf", apart := false, narrowed := true }
def FnExactDashOfUptoSaid : Prop := fnExactDashOfUptoRow.holds Try.pinned (OpenSpec.upto fnExactDashOfSpec)

/-- 'laws.FnExactKidsOf', WHERE WHAT IT READS IS OF BULK AT MOST 1048576: true; the input reads as it did. -/
def fnExactKidsOfUptoRow : OpenClaim := { program := "ytjfienkbcacijaa", sum := "bea91f81b72db34b0832033371c740e1e4332093c64f24da272ff83578ee36c7", func := "loop.example/g00190/laws.FnExactKidsOf", spec := "fnExactKidsOf", apart := false, narrowed := true }
def FnExactKidsOfUptoSaid : Prop := fnExactKidsOfUptoRow.holds Try.pinned (OpenSpec.upto fnExactKidsOfSpec)

/-- 'laws.FnExactUnderOf', WHERE WHAT IT READS IS OF BULK AT MOST 1048576: true; the input reads as it did. -/
def fnExactUnderOfUptoRow : OpenClaim := { program := "ytjfienkbcacijaa", sum := "bea91f81b72db34b0832033371c740e1e4332093c64f24da272ff83578ee36c7", func := "loop.example/g00190/laws.FnExactUnderOf", spec := "fnExactUnderOf", unfollowed := true, recurses := true, apart := false, narrowed := true }
def FnExactUnderOfUptoSaid : Prop := fnExactUnderOfUptoRow.holds Try.pinned (OpenSpec.upto fnExactUnderOfSpec)

/-- 'laws.FnTrees', WHERE WHAT IT READS IS OF BULK AT MOST 1048576: true; the input reads as it did. -/
def fnTreesUptoRow : OpenClaim := { program := "ytjfienkbcacijaa", sum := "bea91f81b72db34b0832033371c740e1e4332093c64f24da272ff83578ee36c7", func := "loop.example/g00190/laws.FnTrees", spec := "fnTrees", unfollowed := true, recurses := true, apart := false, narrowed := true }
def FnTreesUptoSaid : Prop := fnTreesUptoRow.holds Try.pinned (OpenSpec.upto fnTreesSpec)

end Rows
end Go.Proofs.Ytjfienkbcacijaa
