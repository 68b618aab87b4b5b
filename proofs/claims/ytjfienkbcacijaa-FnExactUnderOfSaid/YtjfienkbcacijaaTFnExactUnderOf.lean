/- What comes into laws_FnExactUnderOf reads as; its pure statement. Printed by rowgen.py (this session's own). -/
import Derived.Test.YtjfienkbcacijaaOp
import Derived.Test.YtjfienkbcacijaaMFnExactUnderOfx9
import Derived.KernelRfl
namespace Go.Proofs.Ytjfienkbcacijaa.TFnExactUnderOf
open Go.RowKit Go.Proofs.Ytjfienkbcacijaa.Op Go.Proofs.Ytjfienkbcacijaa.MFnExactUnderOf Go.Proofs.YtjfienkbcacijaaW.PrintWords Go.Proofs.YtjfienkbcacijaaW.PrintLast
set_option linter.unusedVariables false
def W111 (b : S111) : Prop := ((Lit.int .i64 b.f0).wf = true) ∧ ((Lit.int .i64 b.f1).wf = true) ∧ ((Lit.int .i64 b.f2).wf = true) ∧ ((Lit.int .i64 b.f3).wf = true) ∧ ((Lit.int .i64 b.f4).wf = true) ∧ ((Lit.int .i64 b.f5).wf = true)
theorem opn111 : Opn Try.prog 111 k111 W111 := by
  have h := opn_struct (P := Try.prog) Try.underlying111 (by kernel_rfl) (fun x : S111 => (x.f0, x.f1, x.f2, x.f3, x.f4, x.f5)) (fun p => ⟨p.1, p.2.1, p.2.2.1, p.2.2.2.1, p.2.2.2.2.1, p.2.2.2.2.2⟩) (fun _ => rfl) (opnF_cons rfl (by kernel_rfl) (opn_int Try.underlying3) (opnF_cons rfl (by kernel_rfl) (opn_int Try.underlying3) (opnF_cons rfl (by kernel_rfl) (opn_int Try.underlying3) (opnF_cons rfl (by kernel_rfl) (opn_int Try.underlying3) (opnF_cons rfl (by kernel_rfl) (opn_int Try.underlying3) (opnF_one rfl (by kernel_rfl) (opn_int Try.underlying3)))))))
  exact h
def W89 (b : S89) : Prop := ((Lit.int .i64 b.f0).wf = true) ∧ ((Lit.int .i64 b.f1).wf = true)
theorem opn89 : Opn Try.prog 89 k89 W89 := by
  have h := opn_struct (P := Try.prog) Try.underlying89 (by kernel_rfl) (fun x : S89 => (x.f0, x.f1)) (fun p => ⟨p.1, p.2⟩) (fun _ => rfl) (opnF_cons rfl (by kernel_rfl) (opn_int Try.underlying3) (opnF_one rfl (by kernel_rfl) (opn_int Try.underlying3)))
  exact h
def W113 (b : S113) : Prop := (b.f0.length ≤ maxLen ∧ ∀ y ∈ b.f0, ((Lit.int .i64 y).wf = true)) ∧ (b.f1.length ≤ maxLen ∧ ∀ y ∈ b.f1, (W89 y))
theorem opn113 : Opn Try.prog 113 k113 W113 := by
  have h := opn_struct (P := Try.prog) Try.underlying113 (by kernel_rfl) (fun x : S113 => (x.f0, x.f1)) (fun p => ⟨p.1, p.2⟩) (fun _ => rfl) (opnF_cons rfl (by kernel_rfl) (opn_slice (k := (Kd.int .i64)) Try.underlying24 (by kernel_rfl) (opn_int Try.underlying3)) (opnF_one rfl (by kernel_rfl) (opn_slice (k := k89) Try.underlying37 (by kernel_rfl) opn89)))
  exact h
def W114 (b : S114) : Prop := ((Lit.int .i64 b.f0).wf = true) ∧ ((Lit.int .i64 b.f1).wf = true) ∧ ((Lit.int .i64 b.f2).wf = true) ∧ ((Lit.int .i64 b.f3).wf = true)
theorem opn114 : Opn Try.prog 114 k114 W114 := by
  have h := opn_struct (P := Try.prog) Try.underlying114 (by kernel_rfl) (fun x : S114 => (x.f0, x.f1, x.f2, x.f3)) (fun p => ⟨p.1, p.2.1, p.2.2.1, p.2.2.2⟩) (fun _ => rfl) (opnF_cons rfl (by kernel_rfl) (opn_int Try.underlying3) (opnF_cons rfl (by kernel_rfl) (opn_int Try.underlying3) (opnF_cons rfl (by kernel_rfl) (opn_int Try.underlying3) (opnF_one rfl (by kernel_rfl) (opn_int Try.underlying3)))))
  exact h
def W116 (b : S116) : Prop := ((Lit.int .i64 b.f0).wf = true) ∧ (W114 b.f1) ∧ (W114 b.f2) ∧ (W89 b.f3) ∧ (W89 b.f4)
theorem opn116 : Opn Try.prog 116 k116 W116 := by
  have h := opn_struct (P := Try.prog) Try.underlying116 (by kernel_rfl) (fun x : S116 => (x.f0, x.f1, x.f2, x.f3, x.f4)) (fun p => ⟨p.1, p.2.1, p.2.2.1, p.2.2.2.1, p.2.2.2.2⟩) (fun _ => rfl) (opnF_cons rfl (by kernel_rfl) (opn_int Try.underlying3) (opnF_cons rfl (by kernel_rfl) opn114 (opnF_cons rfl (by kernel_rfl) opn114 (opnF_cons rfl (by kernel_rfl) opn89 (opnF_one rfl (by kernel_rfl) opn89)))))
  exact h
def W118 (b : S118) : Prop := ((Lit.int .i64 b.f0).wf = true) ∧ ((Lit.int .i64 b.f1).wf = true) ∧ (True) ∧ (W111 b.f3) ∧ (W113 b.f4) ∧ (True) ∧ ((Lit.int .i64 b.f6).wf = true) ∧ (b.f7.length ≤ maxLen ∧ ∀ y ∈ b.f7, ((Lit.int .i64 y).wf = true)) ∧ (W116 b.f8) ∧ ((Lit.int .i64 b.f9).wf = true) ∧ ((Lit.int .i64 b.f10).wf = true) ∧ (W113 b.f11)
theorem opn118 : Opn Try.prog 118 k118 W118 := by
  have h := opn_struct (P := Try.prog) Try.underlying118 (by kernel_rfl) (fun x : S118 => (x.f0, x.f1, x.f2, x.f3, x.f4, x.f5, x.f6, x.f7, x.f8, x.f9, x.f10, x.f11)) (fun p => ⟨p.1, p.2.1, p.2.2.1, p.2.2.2.1, p.2.2.2.2.1, p.2.2.2.2.2.1, p.2.2.2.2.2.2.1, p.2.2.2.2.2.2.2.1, p.2.2.2.2.2.2.2.2.1, p.2.2.2.2.2.2.2.2.2.1, p.2.2.2.2.2.2.2.2.2.2.1, p.2.2.2.2.2.2.2.2.2.2.2⟩) (fun _ => rfl) (opnF_cons rfl (by kernel_rfl) (opn_int Try.underlying3) (opnF_cons rfl (by kernel_rfl) (opn_int Try.underlying3) (opnF_cons rfl (by kernel_rfl) (opn_bool Try.underlying4) (opnF_cons rfl (by kernel_rfl) opn111 (opnF_cons rfl (by kernel_rfl) opn113 (opnF_cons rfl (by kernel_rfl) (opn_bool Try.underlying4) (opnF_cons rfl (by kernel_rfl) (opn_int Try.underlying3) (opnF_cons rfl (by kernel_rfl) (opn_slice (k := (Kd.int .i64)) Try.underlying24 (by kernel_rfl) (opn_int Try.underlying3)) (opnF_cons rfl (by kernel_rfl) opn116 (opnF_cons rfl (by kernel_rfl) (opn_int Try.underlying3) (opnF_cons rfl (by kernel_rfl) (opn_int Try.underlying3) (opnF_one rfl (by kernel_rfl) opn113))))))))))))
  exact h
def PureS : Prop := ∀ (l0_0 : List (S118)) (a1 : Int), (l0_0.length ≤ maxLen ∧ ∀ y ∈ l0_0, (W118 y)) → ((Lit.int .i64 a1).wf = true) → ∃ k, laws_FnExactUnderOf.f k l0_0 a1 = some true
end Go.Proofs.Ytjfienkbcacijaa.TFnExactUnderOf
