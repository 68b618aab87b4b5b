/-
  No cell of these rows narrows 'for every input' (looked for: loops, veiled, ifaces, maps, wideKeys, modest, calm, conditions, laid).
  DERIVED. THE GIVEN ROWS OF THIS SEAT. 7 by the template 'for every input the law returns true; each argument reads behind the call as it read before'; 0 by the template 'total and deterministic' (their statements: YtghbenapnhcllaaTotals.lean).
  GIVEN WITH THE SEED: the statements are not yours to turn. If you find one false, say at which input.
  Laid BY PROGRAM, IN A SANDBOX (cutbox-rows.mjs): the forced cells as the released guide's own fill.sh prints them over the translation 91404f4a80f6e043… (all of the seat's roots in one cut). By AI agents, Wed Nov 11 2026. No macro, syntax, notation, axiom, sorry.
-/
import Derived.Test.YtghbenapnhcllaaChecked
import GoSem.Claim
import GoSem.ClaimJoined
import GoSem.ClaimMapViews
import Derived.JoinedTies
import Derived.KernelRfl
namespace Go.Proofs.Ytghbenapnhcllaa
/- THE CELL 'sum', in the pinned program and in every row, IS THE sha256 OF THE DUMP (.gsa) THAT YtghbenapnhcllaaProg.lean LOADS. Nothing in Lean hashes anything: it is a label: what it is worth is what the hold of that sum in a sandbox is worth. -/
noncomputable def Try.pinned : Pinned := { name := "ytghbenapnhcllaa", sum := "91404f4a80f6e0435d04e7f77d879b34690a2ddad7bd9c5016194c4ab8798e95", checked := Try.checked }
namespace Rows
def none {H : Type} : Left H := { results := [], args := [] }

/-- 'laws.FnExactFlatOf': WHATEVER THE INPUT: true; the input reads as it did. -/
def fnExactFlatOfSpec : ChangeSpec := { name := "fnExactFlatOf", fn := fun _ => fun
  | [d] => { results := [.lit (.bool true)], args := [d] }
  | _ => none }
def fnExactFlatOfRow : OpenClaim := { program := "ytghbenapnhcllaa", sum := "91404f4a80f6e0435d04e7f77d879b34690a2ddad7bd9c5016194c4ab8798e95", func := "loop.example/g00190/laws.FnExactFlatOf", spec := "fnExactFlatOf", apart := false }
def FnExactFlatOfSaid : Prop := fnExactFlatOfRow.holds Try.pinned (OpenSpec.ofChange fnExactFlatOfSpec)

/-- ITS FALSE NEIGHBOUR: 'it returns false'. Refute it at one input. -/
def fnExactFlatOfWrong : ChangeSpec := { name := "fnExactFlatOf", fn := fun _ => fun
  | [d] => { results := [.lit (.bool false)], args := [d] }
  | _ => none }
def FnExactFlatOfWrongFalsely : Prop := fnExactFlatOfRow.holds Try.pinned (OpenSpec.ofChange fnExactFlatOfWrong)

/-- 'laws.FnExactNodeOk': WHATEVER THE INPUT: true; the input reads as it did. -/
def fnExactNodeOkSpec : ChangeSpec := { name := "fnExactNodeOk", fn := fun _ => fun
  | [d] => { results := [.lit (.bool true)], args := [d] }
  | _ => none }
def fnExactNodeOkRow : OpenClaim := { program := "ytghbenapnhcllaa", sum := "91404f4a80f6e0435d04e7f77d879b34690a2ddad7bd9c5016194c4ab8798e95", func := "loop.example/g00190/laws.FnExactNodeOk", spec := "fnExactNodeOk", apart := false }
def FnExactNodeOkSaid : Prop := fnExactNodeOkRow.holds Try.pinned (OpenSpec.ofChange fnExactNodeOkSpec)

/-- ITS FALSE NEIGHBOUR: 'it returns false'. Refute it at one input. -/
def fnExactNodeOkWrong : ChangeSpec := { name := "fnExactNodeOk", fn := fun _ => fun
  | [d] => { results := [.lit (.bool false)], args := [d] }
  | _ => none }
def FnExactNodeOkWrongFalsely : Prop := fnExactNodeOkRow.holds Try.pinned (OpenSpec.ofChange fnExactNodeOkWrong)

/-- 'laws.FnMeets': WHATEVER THE INPUT: true; the input reads as it did. -/
def fnMeetsSpec : ChangeSpec := { name := "fnMeets", fn := fun _ => fun
  | [d] => { results := [.lit (.bool true)], args := [d] }
  | _ => none }
def fnMeetsRow : OpenClaim := { program := "ytghbenapnhcllaa", sum := "91404f4a80f6e0435d04e7f77d879b34690a2ddad7bd9c5016194c4ab8798e95", func := "loop.example/g00190/laws.FnMeets", spec := "fnMeets", unfollowed := true, recurses := true, apart := false }
def FnMeetsSaid : Prop := fnMeetsRow.holds Try.pinned (OpenSpec.ofChange fnMeetsSpec)

/-- ITS FALSE NEIGHBOUR: 'it returns false'. Refute it at one input. -/
def fnMeetsWrong : ChangeSpec := { name := "fnMeets", fn := fun _ => fun
  | [d] => { results := [.lit (.bool false)], args := [d] }
  | _ => none }
def FnMeetsWrongFalsely : Prop := fnMeetsRow.holds Try.pinned (OpenSpec.ofChange fnMeetsWrong)

/-- 'laws.FnMaskOf': WHATEVER THE INPUT: true; the input reads as it did. -/
def fnMaskOfSpec : ChangeSpec := { name := "fnMaskOf", fn := fun _ => fun
  | [d] => { results := [.lit (.bool true)], args := [d] }
  | _ => none }
def fnMaskOfRow : OpenClaim := { program := "ytghbenapnhcllaa", sum := "91404f4a80f6e0435d04e7f77d879b34690a2ddad7bd9c5016194c4ab8798e95", func := "loop.example/g00190/laws.FnMaskOf", spec := "fnMaskOf", unfollowed := true, recurses := true, apart := false }
def FnMaskOfSaid : Prop := fnMaskOfRow.holds Try.pinned (OpenSpec.ofChange fnMaskOfSpec)

/-- ITS FALSE NEIGHBOUR: 'it returns false'. Refute it at one input. -/
def fnMaskOfWrong : ChangeSpec := { name := "fnMaskOf", fn := fun _ => fun
  | [d] => { results := [.lit (.bool false)], args := [d] }
  | _ => none }
def FnMaskOfWrongFalsely : Prop := fnMaskOfRow.holds Try.pinned (OpenSpec.ofChange fnMaskOfWrong)

/-- 'laws.FnExactUnderOf': WHATEVER THE INPUT: true; the input reads as it did. -/
def fnExactUnderOfSpec : ChangeSpec := { name := "fnExactUnderOf", fn := fun _ => fun
  | [d1, d2] => { results := [.lit (.bool true)], args := [d1, d2] }
  | _ => none }
def fnExactUnderOfRow : OpenClaim := { program := "ytghbenapnhcllaa", sum := "91404f4a80f6e0435d04e7f77d879b34690a2ddad7bd9c5016194c4ab8798e95", func := "loop.example/g00190/laws.FnExactUnderOf", spec := "fnExactUnderOf", unfollowed := true, recurses := true, apart := false }
def FnExactUnderOfSaid : Prop := fnExactUnderOfRow.holds Try.pinned (OpenSpec.ofChange fnExactUnderOfSpec)

/-- ITS FALSE NEIGHBOUR: 'it returns false'. Refute it at one input. -/
def fnExactUnderOfWrong : ChangeSpec := { name := "fnExactUnderOf", fn := fun _ => fun
  | [d1, d2] => { results := [.lit (.bool false)], args := [d1, d2] }
  | _ => none }
def FnExactUnderOfWrongFalsely : Prop := fnExactUnderOfRow.holds Try.pinned (OpenSpec.ofChange fnExactUnderOfWrong)

/-- 'laws.FnMasks': WHATEVER THE INPUT: true; the input reads as it did. -/
def fnMasksSpec : ChangeSpec := { name := "fnMasks", fn := fun _ => fun
  | [d] => { results := [.lit (.bool true)], args := [d] }
  | _ => none }
def fnMasksRow : OpenClaim := { program := "ytghbenapnhcllaa", sum := "91404f4a80f6e0435d04e7f77d879b34690a2ddad7bd9c5016194c4ab8798e95", func := "loop.example/g00190/laws.FnMasks", spec := "fnMasks", apart := false }
def FnMasksSaid : Prop := fnMasksRow.holds Try.pinned (OpenSpec.ofChange fnMasksSpec)

/-- ITS FALSE NEIGHBOUR: 'it returns false'. Refute it at one input. -/
def fnMasksWrong : ChangeSpec := { name := "fnMasks", fn := fun _ => fun
  | [d] => { results := [.lit (.bool false)], args := [d] }
  | _ => none }
def FnMasksWrongFalsely : Prop := fnMasksRow.holds Try.pinned (OpenSpec.ofChange fnMasksWrong)

/-- 'laws.FnExactSceneOk': WHATEVER THE INPUT: true; the input reads as it did. -/
def fnExactSceneOkSpec : ChangeSpec := { name := "fnExactSceneOk", fn := fun _ => fun
  | [d] => { results := [.lit (.bool true)], args := [d] }
  | _ => none }
def fnExactSceneOkRow : OpenClaim := { program := "ytghbenapnhcllaa", sum := "91404f4a80f6e0435d04e7f77d879b34690a2ddad7bd9c5016194c4ab8798e95", func := "loop.example/g00190/laws.FnExactSceneOk", spec := "fnExactSceneOk", unfollowed := true, recurses := true, apart := false }
def FnExactSceneOkSaid : Prop := fnExactSceneOkRow.holds Try.pinned (OpenSpec.ofChange fnExactSceneOkSpec)

/-- ITS FALSE NEIGHBOUR: 'it returns false'. Refute it at one input. -/
def fnExactSceneOkWrong : ChangeSpec := { name := "fnExactSceneOk", fn := fun _ => fun
  | [d] => { results := [.lit (.bool false)], args := [d] }
  | _ => none }
def FnExactSceneOkWrongFalsely : Prop := fnExactSceneOkRow.holds Try.pinned (OpenSpec.ofChange fnExactSceneOkWrong)

/- THE SECOND FORM. 'bulk': how many values and letters a reading holds, each counted each time it is reached (what is shared counts as often as it is met; a slice's spare places count too). A statement '..UptoSaid' is the law's where the arguments, and the package variables that the reading takes, are together of bulk at most 1048576: NARROWER than '..Said'. Prove '..Said' where nothing that the law and all that it calls make is longer than what came in: it says more and counts as full. Else prove '..UptoSaid'. A law counts once. -/
mutual
def uptoBulk {H : Type} : DataW H → Nat
  | .lit (.string bytes) => bytes.length + 1
  | .lit _ => 1
  | .nil => 1
  | .ptr d => uptoBulk d + 1
  | .slice elems spare => uptoBulkAll elems + uptoBulkAll spare + 1
  | .agg parts => uptoBulkAll parts + 1
  | .iface _ d => uptoBulk d + 1
  | .map entries => uptoBulkEntries entries + 1
  | .held _ => 1
def uptoBulkAll {H : Type} : List (DataW H) → Nat
  | [] => 0
  | d :: r => uptoBulk d + uptoBulkAll r
def uptoBulkEntries {H : Type} : List (Lit × DataW H) → Nat
  | [] => 0
  | x :: r => uptoBulkEntry x + uptoBulkEntries r
def uptoBulkEntry {H : Type} : Lit × DataW H → Nat
  | (.string bytes, d) => bytes.length + uptoBulk d + 1
  | (_, d) => uptoBulk d + 1
 end
def uptoSmall : (H : Type) → List (DataW H) → Bool := fun _ ds => decide (uptoBulkAll ds ≤ 1048576)
def OpenSpec.upto (s : _root_.Go.ChangeSpec) : _root_.Go.OpenSpec := { _root_.Go.OpenSpec.ofChange s with cond := some uptoSmall }

/-- 'laws.FnExactFlatOf', WHERE WHAT IT READS IS OF BULK AT MOST 1048576: true; the input reads as it did. -/
def fnExactFlatOfUptoRow : OpenClaim := { program := "ytghbenapnhcllaa", sum := "91404f4a80f6e0435d04e7f77d879b34690a2ddad7bd9c5016194c4ab8798e95", func := "loop.example/g00190/laws.FnExactFlatOf", spec := "fnExactFlatOf", apart := false, narrowed := true }
def FnExactFlatOfUptoSaid : Prop := fnExactFlatOfUptoRow.holds Try.pinned (OpenSpec.upto fnExactFlatOfSpec)

/-- 'laws.FnExactNodeOk', WHERE WHAT IT READS IS OF BULK AT MOST 1048576: true; the input reads as it did. -/
def fnExactNodeOkUptoRow : OpenClaim := { program := "ytghbenapnhcllaa", sum := "91404f4a80f6e0435d04e7f77d879b34690a2ddad7bd9c5016194c4ab8798e95", func := "loop.example/g00190/laws.FnExactNodeOk", spec := "fnExactNodeOk", apart := false, narrowed := true }
def FnExactNodeOkUptoSaid : Prop := fnExactNodeOkUptoRow.holds Try.pinned (OpenSpec.upto fnExactNodeOkSpec)

/-- 'laws.FnMeets', WHERE WHAT IT READS IS OF BULK AT MOST 1048576: true; the input reads as it did. -/
def fnMeetsUptoRow : OpenClaim := { program := "ytghbenapnhcllaa", sum := "91404f4a80f6e0435d04e7f77d879b34690a2ddad7bd9c5016194c4ab8798e95", func := "loop.example/g00190/laws.FnMeets", spec := "fnMeets", unfollowed := true, recurses := true, apart := false, narrowed := true }
def FnMeetsUptoSaid : Prop := fnMeetsUptoRow.holds Try.pinned (OpenSpec.upto fnMeetsSpec)

/-- 'laws.FnMaskOf', WHERE WHAT IT READS IS OF BULK AT MOST 1048576: true; the input reads as it did. -/
def fnMaskOfUptoRow : OpenClaim := { program := "ytghbenapnhcllaa", sum := "91404f4a80f6e0435d04e7f77d879b34690a2ddad7bd9c5016194c4ab8798e95", func := "loop.example/g00190/laws.FnMaskOf", spec := "fnMaskOf", unfollowed := true, recurses := true, apart := false, narrowed := true }
def FnMaskOfUptoSaid : Prop := fnMaskOfUptoRow.holds Try.pinned (OpenSpec.upto fnMaskOfSpec)

/-- 'laws.FnExactUnderOf', WHERE WHAT IT READS IS OF BULK AT MOST 1048576: true; the input reads as it did. -/
def fnExactUnderOfUptoRow : OpenClaim := { program := "ytghbenapnhcllaa", sum := "91404f4a80f6e0435d04e7f77d879b34690a2ddad7bd9c5016194c4ab8798e95", func := "loop.example/g00190/laws.FnExactUnderOf", spec := "fnExactUnderOf", unfollowed := true, recurses := true, apart := false, narrowed := true }
def FnExactUnderOfUptoSaid : Prop := fnExactUnderOfUptoRow.holds Try.pinned (OpenSpec.upto fnExactUnderOfSpec)

/-- 'laws.FnMasks', WHERE WHAT IT READS IS OF BULK AT MOST 1048576: true; the input reads as it did. -/
def fnMasksUptoRow : OpenClaim := { program := "ytghbenapnhcllaa", sum := "91404f4a80f6e0435d04e7f77d879b34690a2ddad7bd9c5016194c4ab8798e95", func := "loop.example/g00190/laws.FnMasks", spec := "fnMasks", apart := false, narrowed := true }
def FnMasksUptoSaid : Prop := fnMasksUptoRow.holds Try.pinned (OpenSpec.upto fnMasksSpec)

/-- 'laws.FnExactSceneOk', WHERE WHAT IT READS IS OF BULK AT MOST 1048576: true; the input reads as it did. -/
def fnExactSceneOkUptoRow : OpenClaim := { program := "ytghbenapnhcllaa", sum := "91404f4a80f6e0435d04e7f77d879b34690a2ddad7bd9c5016194c4ab8798e95", func := "loop.example/g00190/laws.FnExactSceneOk", spec := "fnExactSceneOk", unfollowed := true, recurses := true, apart := false, narrowed := true }
def FnExactSceneOkUptoSaid : Prop := fnExactSceneOkUptoRow.holds Try.pinned (OpenSpec.upto fnExactSceneOkSpec)

end Rows
end Go.Proofs.Ytghbenapnhcllaa
