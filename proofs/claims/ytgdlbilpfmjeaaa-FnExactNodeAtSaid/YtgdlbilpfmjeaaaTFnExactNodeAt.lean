/- What comes into laws_FnExactNodeAt reads as; its pure statement. Printed by rowgen.py (this session's own). -/
import Derived.Test.YtgdlbilpfmjeaaaOp
import Derived.Test.YtgdlbilpfmjeaaaMFnExactNodeAtx6
import Derived.KernelRfl
namespace Go.Proofs.Ytgdlbilpfmjeaaa.TFnExactNodeAt
open Go.RowKit Go.Proofs.Ytgdlbilpfmjeaaa.Op Go.Proofs.Ytgdlbilpfmjeaaa.MFnExactNodeAt Go.Proofs.YtgdlbilpfmjeaaaW.PrintWords Go.Proofs.YtgdlbilpfmjeaaaW.PrintLast
set_option linter.unusedVariables false
def W166 (b : S166) : Prop := ((Lit.int .i64 b.f0).wf = true) ∧ ((Lit.int .i64 b.f1).wf = true) ∧ ((Lit.int .i64 b.f2).wf = true) ∧ ((Lit.int .i64 b.f3).wf = true) ∧ ((Lit.int .i64 b.f4).wf = true) ∧ ((Lit.int .i64 b.f5).wf = true)
theorem opn166 : Opn Try.prog 166 k166 W166 := by
  have h := opn_struct (P := Try.prog) Try.underlying166 (by kernel_rfl) (fun x : S166 => (x.f0, x.f1, x.f2, x.f3, x.f4, x.f5)) (fun p => ⟨p.1, p.2.1, p.2.2.1, p.2.2.2.1, p.2.2.2.2.1, p.2.2.2.2.2⟩) (fun _ => rfl) (opnF_cons rfl (by kernel_rfl) (opn_int Try.underlying3) (opnF_cons rfl (by kernel_rfl) (opn_int Try.underlying3) (opnF_cons rfl (by kernel_rfl) (opn_int Try.underlying3) (opnF_cons rfl (by kernel_rfl) (opn_int Try.underlying3) (opnF_cons rfl (by kernel_rfl) (opn_int Try.underlying3) (opnF_one rfl (by kernel_rfl) (opn_int Try.underlying3)))))))
  exact h
def W157 (b : S157) : Prop := ((Lit.int .i64 b.f0).wf = true) ∧ ((Lit.int .i64 b.f1).wf = true)
theorem opn157 : Opn Try.prog 157 k157 W157 := by
  have h := opn_struct (P := Try.prog) Try.underlying157 (by kernel_rfl) (fun x : S157 => (x.f0, x.f1)) (fun p => ⟨p.1, p.2⟩) (fun _ => rfl) (opnF_cons rfl (by kernel_rfl) (opn_int Try.underlying3) (opnF_one rfl (by kernel_rfl) (opn_int Try.underlying3)))
  exact h
def W168 (b : S168) : Prop := (b.f0.length ≤ maxLen ∧ ∀ y ∈ b.f0, ((Lit.int .i64 y).wf = true)) ∧ (b.f1.length ≤ maxLen ∧ ∀ y ∈ b.f1, (W157 y))
theorem opn168 : Opn Try.prog 168 k168 W168 := by
  have h := opn_struct (P := Try.prog) Try.underlying168 (by kernel_rfl) (fun x : S168 => (x.f0, x.f1)) (fun p => ⟨p.1, p.2⟩) (fun _ => rfl) (opnF_cons rfl (by kernel_rfl) (opn_slice (k := (Kd.int .i64)) Try.underlying26 (by kernel_rfl) (opn_int Try.underlying3)) (opnF_one rfl (by kernel_rfl) (opn_slice (k := k157) Try.underlying100 (by kernel_rfl) opn157)))
  exact h
def W169 (b : S169) : Prop := ((Lit.int .i64 b.f0).wf = true) ∧ ((Lit.int .i64 b.f1).wf = true) ∧ ((Lit.int .i64 b.f2).wf = true) ∧ ((Lit.int .i64 b.f3).wf = true)
theorem opn169 : Opn Try.prog 169 k169 W169 := by
  have h := opn_struct (P := Try.prog) Try.underlying169 (by kernel_rfl) (fun x : S169 => (x.f0, x.f1, x.f2, x.f3)) (fun p => ⟨p.1, p.2.1, p.2.2.1, p.2.2.2⟩) (fun _ => rfl) (opnF_cons rfl (by kernel_rfl) (opn_int Try.underlying3) (opnF_cons rfl (by kernel_rfl) (opn_int Try.underlying3) (opnF_cons rfl (by kernel_rfl) (opn_int Try.underlying3) (opnF_one rfl (by kernel_rfl) (opn_int Try.underlying3)))))
  exact h
def W171 (b : S171) : Prop := ((Lit.int .i64 b.f0).wf = true) ∧ (W169 b.f1) ∧ (W169 b.f2) ∧ (W157 b.f3) ∧ (W157 b.f4)
theorem opn171 : Opn Try.prog 171 k171 W171 := by
  have h := opn_struct (P := Try.prog) Try.underlying171 (by kernel_rfl) (fun x : S171 => (x.f0, x.f1, x.f2, x.f3, x.f4)) (fun p => ⟨p.1, p.2.1, p.2.2.1, p.2.2.2.1, p.2.2.2.2⟩) (fun _ => rfl) (opnF_cons rfl (by kernel_rfl) (opn_int Try.underlying3) (opnF_cons rfl (by kernel_rfl) opn169 (opnF_cons rfl (by kernel_rfl) opn169 (opnF_cons rfl (by kernel_rfl) opn157 (opnF_one rfl (by kernel_rfl) opn157)))))
  exact h
def W173 (b : S173) : Prop := ((Lit.int .i64 b.f0).wf = true) ∧ ((Lit.int .i64 b.f1).wf = true) ∧ (True) ∧ (W166 b.f3) ∧ (W168 b.f4) ∧ (True) ∧ ((Lit.int .i64 b.f6).wf = true) ∧ (b.f7.length ≤ maxLen ∧ ∀ y ∈ b.f7, ((Lit.int .i64 y).wf = true)) ∧ (W171 b.f8) ∧ ((Lit.int .i64 b.f9).wf = true) ∧ ((Lit.int .i64 b.f10).wf = true) ∧ (W168 b.f11)
theorem opn173 : Opn Try.prog 173 k173 W173 := by
  have h := opn_struct (P := Try.prog) Try.underlying173 (by kernel_rfl) (fun x : S173 => (x.f0, x.f1, x.f2, x.f3, x.f4, x.f5, x.f6, x.f7, x.f8, x.f9, x.f10, x.f11)) (fun p => ⟨p.1, p.2.1, p.2.2.1, p.2.2.2.1, p.2.2.2.2.1, p.2.2.2.2.2.1, p.2.2.2.2.2.2.1, p.2.2.2.2.2.2.2.1, p.2.2.2.2.2.2.2.2.1, p.2.2.2.2.2.2.2.2.2.1, p.2.2.2.2.2.2.2.2.2.2.1, p.2.2.2.2.2.2.2.2.2.2.2⟩) (fun _ => rfl) (opnF_cons rfl (by kernel_rfl) (opn_int Try.underlying3) (opnF_cons rfl (by kernel_rfl) (opn_int Try.underlying3) (opnF_cons rfl (by kernel_rfl) (opn_bool Try.underlying4) (opnF_cons rfl (by kernel_rfl) opn166 (opnF_cons rfl (by kernel_rfl) opn168 (opnF_cons rfl (by kernel_rfl) (opn_bool Try.underlying4) (opnF_cons rfl (by kernel_rfl) (opn_int Try.underlying3) (opnF_cons rfl (by kernel_rfl) (opn_slice (k := (Kd.int .i64)) Try.underlying26 (by kernel_rfl) (opn_int Try.underlying3)) (opnF_cons rfl (by kernel_rfl) opn171 (opnF_cons rfl (by kernel_rfl) (opn_int Try.underlying3) (opnF_cons rfl (by kernel_rfl) (opn_int Try.underlying3) (opnF_one rfl (by kernel_rfl) opn168))))))))))))
  exact h
def PureS : Prop := ∀ (l0_0 : List (S173)) (a1 : Int), (l0_0.length ≤ maxLen ∧ ∀ y ∈ l0_0, (W173 y)) → ((Lit.int .i64 a1).wf = true) → ∃ k, laws_FnExactNodeAt.f k l0_0 a1 = some true
end Go.Proofs.Ytgdlbilpfmjeaaa.TFnExactNodeAt
