/-
  No cell of these rows narrows 'for every input' (looked for: loops, veiled, ifaces, maps, wideKeys, modest, calm, conditions, laid).
  DERIVED. THE GIVEN ROWS OF THIS SEAT. 8 by the template 'for every input the law returns true; each argument reads behind the call as it read before'; 0 by the template 'total and deterministic' (their statements: YtamfgkeaohookaaTotals.lean).
  GIVEN WITH THE SEED: the statements are not yours to turn. If you find one false, say at which input.
  Laid BY PROGRAM, IN A SANDBOX (cutbox-rows.mjs): the forced cells as the released guide's own fill.sh prints them over the translation 5e956e9daca9a69d… (all of the seat's roots in one cut). By AI agents, Wed Nov 11 2026. No macro, syntax, notation, axiom, sorry.
-/
import Derived.Test.YtamfgkeaohookaaChecked
import GoSem.Claim
import GoSem.ClaimJoined
import GoSem.ClaimMapViews
import Derived.JoinedTies
import Derived.KernelRfl
namespace Go.Proofs.Ytamfgkeaohookaa
/- THE CELL 'sum', in the pinned program and in every row, IS THE sha256 OF THE DUMP (.gsa) THAT YtamfgkeaohookaaProg.lean LOADS. Nothing in Lean hashes anything: it is a label: what it is worth is what the hold of that sum in a sandbox is worth. -/
noncomputable def Try.pinned : Pinned := { name := "ytamfgkeaohookaa", sum := "5e956e9daca9a69d98c911d7fb29680f3c668d5b95062c9929d86ab0ac9776fa", checked := Try.checked }
namespace Rows
def none {H : Type} : Left H := { results := [], args := [] }

/-- 'laws.FnExactCountOf': WHATEVER THE INPUT: true; the input reads as it did. -/
def fnExactCountOfSpec : ChangeSpec := { name := "fnExactCountOf", fn := fun _ => fun
  | [d] => { results := [.lit (.bool true)], args := [d] }
  | _ => none }
def fnExactCountOfRow : OpenClaim := { program := "ytamfgkeaohookaa", sum := "5e956e9daca9a69d98c911d7fb29680f3c668d5b95062c9929d86ab0ac9776fa", func := "loop.example/g00190/laws.FnExactCountOf", spec := "fnExactCountOf", apart := false }
def FnExactCountOfSaid : Prop := fnExactCountOfRow.holds Try.pinned (OpenSpec.ofChange fnExactCountOfSpec)

/-- ITS FALSE NEIGHBOUR: 'it returns false'. Refute it at one input. -/
def fnExactCountOfWrong : ChangeSpec := { name := "fnExactCountOf", fn := fun _ => fun
  | [d] => { results := [.lit (.bool false)], args := [d] }
  | _ => none }
def FnExactCountOfWrongFalsely : Prop := fnExactCountOfRow.holds Try.pinned (OpenSpec.ofChange fnExactCountOfWrong)

/-- 'laws.FnExactColorOk': WHATEVER THE INPUT: true; the input reads as it did. -/
def fnExactColorOkSpec : ChangeSpec := { name := "fnExactColorOk", fn := fun _ => fun
  | [d] => { results := [.lit (.bool true)], args := [d] }
  | _ => none }
def fnExactColorOkRow : OpenClaim := { program := "ytamfgkeaohookaa", sum := "5e956e9daca9a69d98c911d7fb29680f3c668d5b95062c9929d86ab0ac9776fa", func := "loop.example/g00190/laws.FnExactColorOk", spec := "fnExactColorOk", apart := false }
def FnExactColorOkSaid : Prop := fnExactColorOkRow.holds Try.pinned (OpenSpec.ofChange fnExactColorOkSpec)

/-- ITS FALSE NEIGHBOUR: 'it returns false'. Refute it at one input. -/
def fnExactColorOkWrong : ChangeSpec := { name := "fnExactColorOk", fn := fun _ => fun
  | [d] => { results := [.lit (.bool false)], args := [d] }
  | _ => none }
def FnExactColorOkWrongFalsely : Prop := fnExactColorOkRow.holds Try.pinned (OpenSpec.ofChange fnExactColorOkWrong)

/-- 'laws.FnExactLaidOk': WHATEVER THE INPUT: true; the input reads as it did. -/
def fnExactLaidOkSpec : ChangeSpec := { name := "fnExactLaidOk", fn := fun _ => fun
  | [d] => { results := [.lit (.bool true)], args := [d] }
  | _ => none }
def fnExactLaidOkRow : OpenClaim := { program := "ytamfgkeaohookaa", sum := "5e956e9daca9a69d98c911d7fb29680f3c668d5b95062c9929d86ab0ac9776fa", func := "loop.example/g00190/laws.FnExactLaidOk", spec := "fnExactLaidOk", apart := false }
def FnExactLaidOkSaid : Prop := fnExactLaidOkRow.holds Try.pinned (OpenSpec.ofChange fnExactLaidOkSpec)

/-- ITS FALSE NEIGHBOUR: 'it returns false'. Refute it at one input. -/
def fnExactLaidOkWrong : ChangeSpec := { name := "fnExactLaidOk", fn := fun _ => fun
  | [d] => { results := [.lit (.bool false)], args := [d] }
  | _ => none }
def FnExactLaidOkWrongFalsely : Prop := fnExactLaidOkRow.holds Try.pinned (OpenSpec.ofChange fnExactLaidOkWrong)

/-- 'laws.FnExactDashOk': WHATEVER THE INPUT: true; the input reads as it did. -/
def fnExactDashOkSpec : ChangeSpec := { name := "fnExactDashOk", fn := fun _ => fun
  | [d] => { results := [.lit (.bool true)], args := [d] }
  | _ => none }
def fnExactDashOkRow : OpenClaim := { program := "ytamfgkeaohookaa", sum := "5e956e9daca9a69d98c911d7fb29680f3c668d5b95062c9929d86ab0ac9776fa", func := "loop.example/g00190/laws.FnExactDashOk", spec := "fnExactDashOk", apart := false }
def FnExactDashOkSaid : Prop := fnExactDashOkRow.holds Try.pinned (OpenSpec.ofChange fnExactDashOkSpec)

/-- ITS FALSE NEIGHBOUR: 'it returns false'. Refute it at one input. -/
def fnExactDashOkWrong : ChangeSpec := { name := "fnExactDashOk", fn := fun _ => fun
  | [d] => { results := [.lit (.bool false)], args := [d] }
  | _ => none }
def FnExactDashOkWrongFalsely : Prop := fnExactDashOkRow.holds Try.pinned (OpenSpec.ofChange fnExactDashOkWrong)

/-- 'laws.FnExactLengthOf': WHATEVER THE INPUT: true; the input reads as it did. -/
def fnExactLengthOfSpec : ChangeSpec := { name := "fnExactLengthOf", fn := fun _ => fun
  | [d1, d2] => { results := [.lit (.bool true)], args := [d1, d2] }
  | _ => none }
def fnExactLengthOfRow : OpenClaim := { program := "ytamfgkeaohookaa", sum := "5e956e9daca9a69d98c911d7fb29680f3c668d5b95062c9929d86ab0ac9776fa", func := "loop.example/g00190/laws.FnExactLengthOf", spec := "fnExactLengthOf", apart := false }
def FnExactLengthOfSaid : Prop := fnExactLengthOfRow.holds Try.pinned (OpenSpec.ofChange fnExactLengthOfSpec)

/-- ITS FALSE NEIGHBOUR: 'it returns false'. Refute it at one input. -/
def fnExactLengthOfWrong : ChangeSpec := { name := "fnExactLengthOf", fn := fun _ => fun
  | [d1, d2] => { results := [.lit (.bool false)], args := [d1, d2] }
  | _ => none }
def FnExactLengthOfWrongFalsely : Prop := fnExactLengthOfRow.holds Try.pinned (OpenSpec.ofChange fnExactLengthOfWrong)

/-- 'laws.FnExactPaintOk': WHATEVER THE INPUT: true; the input reads as it did. -/
def fnExactPaintOkSpec : ChangeSpec := { name := "fnExactPaintOk", fn := fun _ => fun
  | [d] => { results := [.lit (.bool true)], args := [d] }
  | _ => none }
def fnExactPaintOkRow : OpenClaim := { program := "ytamfgkeaohookaa", sum := "5e956e9daca9a69d98c911d7fb29680f3c668d5b95062c9929d86ab0ac9776fa", func := "loop.example/g00190/laws.FnExactPaintOk", spec := "fnExactPaintOk", apart := false }
def FnExactPaintOkSaid : Prop := fnExactPaintOkRow.holds Try.pinned (OpenSpec.ofChange fnExactPaintOkSpec)

/-- ITS FALSE NEIGHBOUR: 'it returns false'. Refute it at one input. -/
def fnExactPaintOkWrong : ChangeSpec := { name := "fnExactPaintOk", fn := fun _ => fun
  | [d] => { results := [.lit (.bool false)], args := [d] }
  | _ => none }
def FnExactPaintOkWrongFalsely : Prop := fnExactPaintOkRow.holds Try.pinned (OpenSpec.ofChange fnExactPaintOkWrong)

/-- 'laws.FnBlends': WHATEVER THE INPUT: true; the input reads as it did. -/
def fnBlendsSpec : ChangeSpec := { name := "fnBlends", fn := fun _ => fun
  | [d] => { results := [.lit (.bool true)], args := [d] }
  | _ => none }
def fnBlendsRow : OpenClaim := { program := "ytamfgkeaohookaa", sum := "5e956e9daca9a69d98c911d7fb29680f3c668d5b95062c9929d86ab0ac9776fa", func := "loop.example/g00190/laws.FnBlends", spec := "fnBlends", unfollowed := true, recurses := true, apart := false }
def FnBlendsSaid : Prop := fnBlendsRow.holds Try.pinned (OpenSpec.ofChange fnBlendsSpec)

/-- ITS FALSE NEIGHBOUR: 'it returns false'. Refute it at one input. -/
def fnBlendsWrong : ChangeSpec := { name := "fnBlends", fn := fun _ => fun
  | [d] => { results := [.lit (.bool false)], args := [d] }
  | _ => none }
def FnBlendsWrongFalsely : Prop := fnBlendsRow.holds Try.pinned (OpenSpec.ofChange fnBlendsWrong)

/-- 'laws.FnExactWindOf': WHATEVER THE INPUT: true; the input reads as it did. -/
def fnExactWindOfSpec : ChangeSpec := { name := "fnExactWindOf", fn := fun _ => fun
  | [d1, d2] => { results := [.lit (.bool true)], args := [d1, d2] }
  | _ => none }
def fnExactWindOfRow : OpenClaim := { program := "ytamfgkeaohookaa", sum := "5e956e9daca9a69d98c911d7fb29680f3c668d5b95062c9929d86ab0ac9776fa", func := "loop.example/g00190/laws.FnExactWindOf", spec := "fnExactWindOf", apart := false }
def FnExactWindOfSaid : Prop := fnExactWindOfRow.holds Try.pinned (OpenSpec.ofChange fnExactWindOfSpec)

/-- ITS FALSE NEIGHBOUR: 'it returns false'. Refute it at one input. -/
def fnExactWindOfWrong : ChangeSpec := { name := "fnExactWindOf", fn := fun _ => fun
  | [d1, d2] => { results := [.lit (.bool false)], args := [d1, d2] }
  | _ => none }
def FnExactWindOfWrongFalsely : Prop := fnExactWindOfRow.holds Try.pinned (OpenSpec.ofChange fnExactWindOfWrong)

/- THE SECOND FORM. 'bulk': how many values and letters a reading holds, each counted each time it is reached (what is shared counts as often as it is met; a slice's spare places count too). A statement '..UptoSaid' is the law's where the arguments, and the package variables that the reading takes, are together of bulk at most 1048576: NARROWER than '..Said'. Prove '..Said' where nothing that the law and all that it calls make is longer than what came in: it says more and counts as full. Else prove '..UptoSaid'. A law counts once. -/
mutual
def uptoBulk {H : Type} : DataW H → Nat
  | .lit (.string bytes) => bytes.length + 1
  | .lit _ => 1
  | .nil => 1
  | .ptr d => uptoBulk d + 1
  | .slice elems spare => uptoBulkAll elems + uptoBulkAll spare + 1
  | .agg parts => uptoBulkAll parts + 1
  | .iface _ d => uptoBulk d + 1
  | .map entries => uptoBulkEntries entries + 1
  | .held _ => 1
def uptoBulkAll {H : Type} : List (DataW H) → Nat
  | [] => 0
  | d :: r => uptoBulk d + uptoBulkAll r
def uptoBulkEntries {H : Type} : List (Lit × DataW H) → Nat
  | [] => 0
  | x :: r => uptoBulkEntry x + uptoBulkEntries r
def uptoBulkEntry {H : Type} : Lit × DataW H → Nat
  | (.string bytes, d) => bytes.length + uptoBulk d + 1
  | (_, d) => uptoBulk d + 1
 end
def uptoSmall : (H : Type) → List (DataW H) → Bool := fun _ ds => decide (uptoBulkAll ds ≤ 1048576)
def OpenSpec.upto (s : _root_.Go.ChangeSpec) : _root_.Go.OpenSpec := { _root_.Go.OpenSpec.ofChange s with cond := some uptoSmall }

/-- 'laws.FnExactCountOf', WHERE WHAT IT READS IS OF BULK AT MOST 1048576: true; the input reads as it did. -/
def fnExactCountOfUptoRow : OpenClaim := { program := "ytamfgkeaohookaa", sum := "5e956e9daca9a69d98c911d7fb29680f3c668d5b95062c9929d86ab0ac9776fa", func := "loop.example/g00190/laws.FnExactCountOf", spec := "fnExactCountOf", apart := false, narrowed := true }
def FnExactCountOfUptoSaid : Prop := fnExactCountOfUptoRow.holds Try.pinned (OpenSpec.upto fnExactCountOfSpec)

/-- 'laws.FnExactColorOk', WHERE WHAT IT READS IS OF BULK AT MOST 1048576: true; the input reads as it did. -/
def fnExactColorOkUptoRow : OpenClaim := { program := "ytamfgkeaohookaa", sum := "5e956e9daca9a69d98c911d7fb29680f3c668d5b95062c9929d86ab0ac9776fa", func := "loop.example/g00190/laws.FnExactColorOk", spec := "fnExactColorOk", apart := false, narrowed := true }
def FnExactColorOkUptoSaid : Prop := fnExactColorOkUptoRow.holds Try.pinned (OpenSpec.upto fnExactColorOkSpec)

/-- 'laws.FnExactLaidOk', WHERE WHAT IT READS IS OF BULK AT MOST 1048576: true; the input reads as it did. -/
def fnExactLaidOkUptoRow : OpenClaim := { program := "ytamfgkeaohookaa", sum := "5e956e9daca9a69d98c911d7fb29680f3c668d5b95062c9929d86ab0ac9776fa", func := "loop.example/g00190/laws.FnExactLaidOk", spec := "fnExactLaidOk", apart := false, narrowed := true }
def FnExactLaidOkUptoSaid : Prop := fnExactLaidOkUptoRow.holds Try.pinned (OpenSpec.upto fnExactLaidOkSpec)

/-- 'laws.FnExactDashOk', WHERE WHAT IT READS IS OF BULK AT MOST 1048576: true; the input reads as it did. -/
def fnExactDashOkUptoRow : OpenClaim := { program := "ytamfgkeaohookaa", sum := "5e956e9daca9a69d98c911d7fb29680f3c668d5b95062c9929d86ab0ac9776fa", func := "loop.example/g00190/laws.FnExactDashOk", spec := "fnExactDashOk", apart := false, narrowed := true }
def FnExactDashOkUptoSaid : Prop := fnExactDashOkUptoRow.holds Try.pinned (OpenSpec.upto fnExactDashOkSpec)

/-- 'laws.FnExactLengthOf', WHERE WHAT IT READS IS OF BULK AT MOST 1048576: true; the input reads as it did. -/
def fnExactLengthOfUptoRow : OpenClaim := { program := "ytamfgkeaohookaa", sum := "5e956e9daca9a69d98c911d7fb29680f3c668d5b95062c9929d86ab0ac9776fa", func := "loop.example/g00190/laws.FnExactLengthOf", spec := "fnExactLengthOf", apart := false, narrowed := true }
def FnExactLengthOfUptoSaid : Prop := fnExactLengthOfUptoRow.holds Try.pinned (OpenSpec.upto fnExactLengthOfSpec)

/-- 'laws.FnExactPaintOk', WHERE WHAT IT READS IS OF BULK AT MOST 1048576: true; the input reads as it did. -/
def fnExactPaintOkUptoRow : OpenClaim := { program := "ytamfgkeaohookaa", sum := "5e956e9daca9a69d98c911d7fb29680f3c668d5b95062c9929d86ab0ac9776fa", func := "loop.example/g00190/laws.FnExactPaintOk", spec := "fnExactPaintOk", apart := false, narrowed := true }
def FnExactPaintOkUptoSaid : Prop := fnExactPaintOkUptoRow.holds Try.pinned (OpenSpec.upto fnExactPaintOkSpec)

/-- 'laws.FnBlends', WHERE WHAT IT READS IS OF BULK AT MOST 1048576: true; the input reads as it did. -/
def fnBlendsUptoRow : OpenClaim := { program := "ytamfgkeaohookaa", sum := "5e956e9daca9a69d98c911d7fb29680f3c668d5b95062c9929d86ab0ac9776fa", func := "loop.example/g00190/laws.FnBlends", spec := "fnBlends", unfollowed := true, recurses := true, apart := false, narrowed := true }
def FnBlendsUptoSaid : Prop := fnBlendsUptoRow.holds Try.pinned (OpenSpec.upto fnBlendsSpec)

/-- 'laws.FnExactWindOf', WHERE WHAT IT READS IS OF BULK AT MOST 1048576: true; the input reads as it did. -/
def fnExactWindOfUptoRow : OpenClaim := { program := "ytamfgkeaohookaa", sum := "5e956e9daca9a69d98c911d7fb29680f3c668d5b95062c9929d86ab0ac9776fa", func := "loop.example/g00190/laws.FnExactWindOf", spec := "fnExactWindOf", apart := false, narrowed := true }
def FnExactWindOfUptoSaid : Prop := fnExactWindOfUptoRow.holds Try.pinned (OpenSpec.upto fnExactWindOfSpec)

end Rows
end Go.Proofs.Ytamfgkeaohookaa
