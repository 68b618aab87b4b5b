/- What comes into laws_FnExactFlatOf reads as; its pure statement. Printed by rowgen.py (this session's own). -/
import Derived.Test.YtdpnimngndemiaaOp
import Derived.Test.YtdpnimngndemiaaMFnExactFlatOfx12
import Derived.KernelRfl
namespace Go.Proofs.Ytdpnimngndemiaa.TFnExactFlatOf
open Go.RowKit Go.Proofs.Ytdpnimngndemiaa.Op Go.Proofs.Ytdpnimngndemiaa.MFnExactFlatOf Go.Proofs.YtdpnimngndemiaaW.PrintWords Go.Proofs.YtdpnimngndemiaaW.PrintLast
set_option linter.unusedVariables false
def W69 (b : S69) : Prop := ((Lit.int .i64 b.f0).wf = true) ∧ ((Lit.int .i64 b.f1).wf = true)
theorem opn69 : Opn Try.prog 69 k69 W69 := by
  have h := opn_struct (P := Try.prog) Try.underlying69 (by kernel_rfl) (fun x : S69 => (x.f0, x.f1)) (fun p => ⟨p.1, p.2⟩) (fun _ => rfl) (opnF_cons rfl (by kernel_rfl) (opn_int Try.underlying3) (opnF_one rfl (by kernel_rfl) (opn_int Try.underlying3)))
  exact h
def PureS : Prop := ∀ (l0_0 : List Int) (l0_1 : List (S69)), (l0_0.length ≤ maxLen ∧ ∀ y ∈ l0_0, ((Lit.int .i64 y).wf = true)) → (l0_1.length ≤ maxLen ∧ ∀ y ∈ l0_1, (W69 y)) → ∃ k, laws_FnExactFlatOf.f k l0_0 l0_1 = some true
end Go.Proofs.Ytdpnimngndemiaa.TFnExactFlatOf
