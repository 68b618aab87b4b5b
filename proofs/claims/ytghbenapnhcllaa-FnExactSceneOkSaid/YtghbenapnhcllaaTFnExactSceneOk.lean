/- What comes into laws_FnExactSceneOk reads as; its pure statement. Printed by rowgen.py (this session's own). -/
import Derived.Test.YtghbenapnhcllaaOp
import Derived.Test.YtghbenapnhcllaaMFnExactSceneOkx18
import Derived.KernelRfl
namespace Go.Proofs.Ytghbenapnhcllaa.TFnExactSceneOk
open Go.RowKit Go.Proofs.Ytghbenapnhcllaa.Op Go.Proofs.Ytghbenapnhcllaa.MFnExactSceneOk Go.Proofs.YtghbenapnhcllaaW.PrintWords Go.Proofs.YtghbenapnhcllaaW.PrintLast
set_option linter.unusedVariables false
def W39 (b : S39) : Prop := ((Lit.int .i64 b.f0).wf = true) ∧ ((Lit.int .i64 b.f1).wf = true) ∧ ((Lit.int .i64 b.f2).wf = true) ∧ ((Lit.int .i64 b.f3).wf = true) ∧ ((Lit.int .i64 b.f4).wf = true) ∧ ((Lit.int .i64 b.f5).wf = true)
theorem opn39 : Opn Try.prog 39 k39 W39 := by
  have h := opn_struct (P := Try.prog) Try.underlying39 (by kernel_rfl) (fun x : S39 => (x.f0, x.f1, x.f2, x.f3, x.f4, x.f5)) (fun p => ⟨p.1, p.2.1, p.2.2.1, p.2.2.2.1, p.2.2.2.2.1, p.2.2.2.2.2⟩) (fun _ => rfl) (opnF_cons rfl (by kernel_rfl) (opn_int Try.underlying3) (opnF_cons rfl (by kernel_rfl) (opn_int Try.underlying3) (opnF_cons rfl (by kernel_rfl) (opn_int Try.underlying3) (opnF_cons rfl (by kernel_rfl) (opn_int Try.underlying3) (opnF_cons rfl (by kernel_rfl) (opn_int Try.underlying3) (opnF_one rfl (by kernel_rfl) (opn_int Try.underlying3)))))))
  exact h
def W43 (b : S43) : Prop := ((Lit.int .i64 b.f0).wf = true) ∧ ((Lit.int .i64 b.f1).wf = true)
theorem opn43 : Opn Try.prog 43 k43 W43 := by
  have h := opn_struct (P := Try.prog) Try.underlying43 (by kernel_rfl) (fun x : S43 => (x.f0, x.f1)) (fun p => ⟨p.1, p.2⟩) (fun _ => rfl) (opnF_cons rfl (by kernel_rfl) (opn_int Try.underlying3) (opnF_one rfl (by kernel_rfl) (opn_int Try.underlying3)))
  exact h
def W25 (b : S25) : Prop := (b.f0.length ≤ maxLen ∧ ∀ y ∈ b.f0, ((Lit.int .i64 y).wf = true)) ∧ (b.f1.length ≤ maxLen ∧ ∀ y ∈ b.f1, (W43 y))
theorem opn25 : Opn Try.prog 25 k25 W25 := by
  have h := opn_struct (P := Try.prog) Try.underlying25 (by kernel_rfl) (fun x : S25 => (x.f0, x.f1)) (fun p => ⟨p.1, p.2⟩) (fun _ => rfl) (opnF_cons rfl (by kernel_rfl) (opn_slice (k := (Kd.int .i64)) Try.underlying22 (by kernel_rfl) (opn_int Try.underlying3)) (opnF_one rfl (by kernel_rfl) (opn_slice (k := k43) Try.underlying23 (by kernel_rfl) opn43)))
  exact h
def W41 (b : S41) : Prop := ((Lit.int .i64 b.f0).wf = true) ∧ ((Lit.int .i64 b.f1).wf = true) ∧ ((Lit.int .i64 b.f2).wf = true) ∧ ((Lit.int .i64 b.f3).wf = true)
theorem opn41 : Opn Try.prog 41 k41 W41 := by
  have h := opn_struct (P := Try.prog) Try.underlying41 (by kernel_rfl) (fun x : S41 => (x.f0, x.f1, x.f2, x.f3)) (fun p => ⟨p.1, p.2.1, p.2.2.1, p.2.2.2⟩) (fun _ => rfl) (opnF_cons rfl (by kernel_rfl) (opn_int Try.underlying3) (opnF_cons rfl (by kernel_rfl) (opn_int Try.underlying3) (opnF_cons rfl (by kernel_rfl) (opn_int Try.underlying3) (opnF_one rfl (by kernel_rfl) (opn_int Try.underlying3)))))
  exact h
def W45 (b : S45) : Prop := ((Lit.int .i64 b.f0).wf = true) ∧ (W41 b.f1) ∧ (W41 b.f2) ∧ (W43 b.f3) ∧ (W43 b.f4)
theorem opn45 : Opn Try.prog 45 k45 W45 := by
  have h := opn_struct (P := Try.prog) Try.underlying45 (by kernel_rfl) (fun x : S45 => (x.f0, x.f1, x.f2, x.f3, x.f4)) (fun p => ⟨p.1, p.2.1, p.2.2.1, p.2.2.2.1, p.2.2.2.2⟩) (fun _ => rfl) (opnF_cons rfl (by kernel_rfl) (opn_int Try.underlying3) (opnF_cons rfl (by kernel_rfl) opn41 (opnF_cons rfl (by kernel_rfl) opn41 (opnF_cons rfl (by kernel_rfl) opn43 (opnF_one rfl (by kernel_rfl) opn43)))))
  exact h
def W47 (b : S47) : Prop := ((Lit.int .i64 b.f0).wf = true) ∧ ((Lit.int .i64 b.f1).wf = true) ∧ (True) ∧ (W39 b.f3) ∧ (W25 b.f4) ∧ (True) ∧ ((Lit.int .i64 b.f6).wf = true) ∧ (b.f7.length ≤ maxLen ∧ ∀ y ∈ b.f7, ((Lit.int .i64 y).wf = true)) ∧ (W45 b.f8) ∧ ((Lit.int .i64 b.f9).wf = true) ∧ ((Lit.int .i64 b.f10).wf = true) ∧ (W25 b.f11)
theorem opn47 : Opn Try.prog 47 k47 W47 := by
  have h := opn_struct (P := Try.prog) Try.underlying47 (by kernel_rfl) (fun x : S47 => (x.f0, x.f1, x.f2, x.f3, x.f4, x.f5, x.f6, x.f7, x.f8, x.f9, x.f10, x.f11)) (fun p => ⟨p.1, p.2.1, p.2.2.1, p.2.2.2.1, p.2.2.2.2.1, p.2.2.2.2.2.1, p.2.2.2.2.2.2.1, p.2.2.2.2.2.2.2.1, p.2.2.2.2.2.2.2.2.1, p.2.2.2.2.2.2.2.2.2.1, p.2.2.2.2.2.2.2.2.2.2.1, p.2.2.2.2.2.2.2.2.2.2.2⟩) (fun _ => rfl) (opnF_cons rfl (by kernel_rfl) (opn_int Try.underlying3) (opnF_cons rfl (by kernel_rfl) (opn_int Try.underlying3) (opnF_cons rfl (by kernel_rfl) (opn_bool Try.underlying4) (opnF_cons rfl (by kernel_rfl) opn39 (opnF_cons rfl (by kernel_rfl) opn25 (opnF_cons rfl (by kernel_rfl) (opn_bool Try.underlying4) (opnF_cons rfl (by kernel_rfl) (opn_int Try.underlying3) (opnF_cons rfl (by kernel_rfl) (opn_slice (k := (Kd.int .i64)) Try.underlying22 (by kernel_rfl) (opn_int Try.underlying3)) (opnF_cons rfl (by kernel_rfl) opn45 (opnF_cons rfl (by kernel_rfl) (opn_int Try.underlying3) (opnF_cons rfl (by kernel_rfl) (opn_int Try.underlying3) (opnF_one rfl (by kernel_rfl) opn25))))))))))))
  exact h
def PureS : Prop := ∀ (l0_0 : List (S47)), (l0_0.length ≤ maxLen ∧ ∀ y ∈ l0_0, (W47 y)) → ∃ k, laws_FnExactSceneOk.f k l0_0 = some true
end Go.Proofs.Ytghbenapnhcllaa.TFnExactSceneOk
