/- The pure statement of the law FnExactSameSurface, for every input: what the printed functions compute makes the law answer true. No conditions beyond what the row reads. -/
import Derived.Test.YtkbgcdoeedmaiaaTFnExactSameSurface
namespace Go.Proofs.Ytkbgcdoeedmaiaa.QFnExactSameSurface
open Go.RowKit Go.Proofs.Ytkbgcdoeedmaiaa.PFnExactSameSurface Go.Proofs.Ytkbgcdoeedmaiaa.TFnExactSameSurface Go.Proofs.YtkbgcdoeedmaiaaW.PrintWords Go.Proofs.YtkbgcdoeedmaiaaW.PrintLast
set_option linter.unusedVariables false
set_option linter.unusedSimpArgs false

/-! base -/
theorem w64 {x : Int} (h1 : -9223372036854775808 ≤ x) (h2 : x ≤ 9223372036854775807) : wrap64 x = x := by
  unfold wrap64
  omega

theorem wf64 {x : Int} (h : (Lit.int .i64 x).wf = true) : -9223372036854775808 ≤ x ∧ x ≤ 9223372036854775807 := by
  have h2 : (decide (IntKind.i64.min ≤ x) && decide (x ≤ IntKind.i64.max)) = true := h
  rw [Bool.and_eq_true, decide_eq_true_eq, decide_eq_true_eq] at h2
  exact ⟨h2.1, h2.2⟩

theorem take_set_succ {α : Type} (xs : List α) (i : Nat) (v : α) (h : i < xs.length) : (xs.set i v).take (i + 1) = xs.take i ++ [v] := by
  rw [List.take_succ_eq_append_getElem (by simpa using h), List.take_set_of_le (Nat.le_refl i), List.getElem_set_self]

theorem step64 {i n : Nat} (h : i < n) (hn : n ≤ 4611686018427387904) : wrap64 ((i : Int) + 1) = ((i + 1 : Nat) : Int) := by
  rw [w64 (by omega) (by omega)]
  omega

theorem ev_done {α : Type} {g : Nat → Option α} {r : α} (h : ∀ k, g (k + 1) = some r) : Ev g r := Ev.step (f := fun _ => some r) h (Ev.now r)

theorem ev_const {α : Type} {o : Option α} {r : α} (h : o = some r) : Ev (fun _ => o) r := by
  subst h
  exact Ev.now r

/-! laws_szColorS -/
theorem laws_szColorS_v (l : List S33) (a : Int) (h0 : 0 ≤ a) (h1 : a ≤ 1048576) (hl : l.length ≤ maxLen) : laws_szColorS.f l a = some (if (l.length : Int) ≤ a then a - (l.length : Int) else -1) := by
  unfold maxLen at hl
  have hw : wrap64 (a - (l.length : Int)) = a - (l.length : Int) := w64 (by omega) (by omega)
  unfold laws_szColorS.f
  rw [hw]
  by_cases h : (l.length : Int) ≤ a
  · rw [if_neg (by omega), if_pos h]
  · rw [if_pos (by omega), if_neg h]

/-! rd_laws_Color -/
theorem rd_laws_Color (xs : List S33) (i : Nat) (h : i < xs.length) : rd_T33 xs (i : Int) = xs[i] := by
  unfold rd_T33
  simp [h]

/-! laws_toColorS -/
def convColor (x : S33) : S34 := ⟨x.f0, x.f1, x.f2, x.f3⟩
theorem laws_toColorS_l (x0 : List S33) (hn : x0.length ≤ 1048576) : ∀ (d i : Nat) (x3 : List S34), x3.length = x0.length → i + d = x0.length →
    Ev (fun k => laws_toColorS.l0 k x0 x3 (i : Int)) (x3.take i ++ (x0.drop i).map convColor) := by
  intro d
  induction d with
  | zero =>
    intro i x3 hl hi
    refine ev_done (fun k => ?_)
    simp only [laws_toColorS.l0]
    rw [if_neg (by omega), List.take_of_length_le (by omega), List.drop_of_length_le (by omega)]
    simp
  | succ d ih =>
    intro i x3 hl hi
    have hi2 : i < x0.length := by omega
    refine Ev.step (f := fun k => laws_toColorS.l0 k x0 (x3.set i (convColor x0[i])) ((i + 1 : Nat) : Int)) (fun k => ?_) ?_
    · simp only [laws_toColorS.l0, laws_toColor.f, Option.bind_some]
      rw [if_pos (by omega), if_pos (by omega), step64 hi2 (by omega), rd_laws_Color _ _ hi2]
      rw [if_pos (by omega)]
      rfl
    · have h := ih (i + 1) (x3.set i (convColor x0[i])) (by simpa using hl) (by omega)
      rw [take_set_succ _ _ _ (by omega)] at h
      rw [List.drop_eq_getElem_cons hi2]
      rw [List.append_assoc] at h
      exact h
theorem laws_toColorS_v (x0 : List S33) (hn : x0.length ≤ 1048576) : Ev (fun k => laws_toColorS.f k x0) (x0.map convColor) := by
  have h := laws_toColorS_l x0 hn x0.length 0 (List.replicate x0.length z34) (by simp) (by omega)
  refine Ev.congr (fun k => ?_) (by simpa using h)
  unfold laws_toColorS.f
  rw [if_pos (by omega), if_pos (by omega)]
  simp

/-! laws_eqColorS -/
theorem laws_eqColorS_l (x0 : List S34) (hn : x0.length ≤ 1048576) : ∀ (d i : Nat), i + d = x0.length → Ev (fun k => laws_eqColorS.l0 k x0 x0 (i : Int)) true := by
  intro d
  induction d with
  | zero =>
    intro i hi
    refine ev_done (fun k => ?_)
    simp only [laws_eqColorS.l0]
    rw [if_neg (by omega)]
  | succ d ih =>
    intro i hi
    have hi2 : i < x0.length := by omega
    refine Ev.step (fun k => ?_) (ih (i + 1) (by omega))
    simp only [laws_eqColorS.l0, laws_eqColor.f]
    rw [if_pos (by omega), if_pos (by omega), if_pos (by omega), step64 hi2 (by omega)]
    simp
theorem laws_eqColorS_v (x0 : List S34) (hn : x0.length ≤ 1048576) : Ev (fun k => laws_eqColorS.f k x0 x0) true := by
  refine Ev.congr (fun k => ?_) (laws_eqColorS_l x0 hn x0.length 0 (by omega))
  unfold laws_eqColorS.f
  rw [if_pos rfl]
  rfl

/-! Surf_lib -/
theorem laws_szSurface_v (a b : Int) (l : List S33) (n : Int) (h0 : 0 ≤ n) (h1 : n ≤ 1048576) (hl : l.length ≤ maxLen) : laws_szSurface.f a b l n = some (if (l.length : Int) ≤ n then n - (l.length : Int) else -1) := by
  unfold laws_szSurface.f
  rw [laws_szColorS_v l n h0 h1 hl, Option.bind_some]
  by_cases h : (l.length : Int) ≤ n
  · rw [if_pos h, if_neg (by omega)]
  · rw [if_neg h, if_pos (by omega)]
theorem laws_toSurface_v (a b : Int) (l : List S33) (hn : l.length ≤ 1048576) : Ev (fun k => laws_toSurface.f k a b l) (a, b, l.map convColor) := by
  unfold laws_toSurface.f
  exact Ev.bind (laws_toColorS_v l hn) (Ev.now _)
theorem laws_eqSurface_v (a b : Int) (l : List S34) (hn : l.length ≤ 1048576) : Ev (fun k => laws_eqSurface.f k a b l a b l) true := by
  unfold laws_eqSurface.f
  simp only [if_true]
  refine Ev.bind (laws_eqColorS_v l hn) ?_
  simp only [if_true]
  exact Ev.now true

/-! rd_impl_Color -/
theorem rd_impl_Color (xs : List S34) (i : Nat) (h : i < xs.length) : rd_T34 xs (i : Int) = xs[i] := by
  unfold rd_T34
  simp [h]

/-! law_FnExactSameSurface -/
theorem neq_color (x y : S34) : (!(x.f0 == y.f0) || (!(x.f1 == y.f1) || (!(x.f2 == y.f2) || (!(x.f3 == y.f3))))) = true ↔ x ≠ y := by
  obtain ⟨a, b, c, d⟩ := x
  obtain ⟨e, f, g, h⟩ := y
  simp
  omega
theorem Same_l (p q r s : Int) (x y : List S34) (hn : x.length ≤ 1048576) (he : x.length = y.length) : ∀ (m i : Nat), i + m = x.length →
    ∃ b : Bool, Ev (fun k => spec_SameSurface.l0 k (i : Int) p q x r s y) b ∧ Ev (fun k => impl_Color.l0 k x y (x.length : Int) (i : Int)) b := by
  intro m
  induction m with
  | zero =>
    intro i hi
    refine ⟨true, ev_done (fun k => ?_), ev_done (fun k => ?_)⟩
    · simp only [spec_SameSurface.l0]
      rw [if_neg (by omega)]
    · simp only [impl_Color.l0]
      rw [if_neg (by omega)]
  | succ m ih =>
    intro i hi
    have hi2 : i < x.length := by omega
    have hi3 : i < y.length := by omega
    by_cases hx : x[i] = y[i]
    · obtain ⟨b, h1, h2⟩ := ih (i + 1) (by omega)
      refine ⟨b, Ev.step (fun k => ?_) h1, Ev.step (fun k => ?_) h2⟩
      · simp only [spec_SameSurface.l0]
        rw [if_pos (by omega), if_pos (by omega), if_pos (by omega), rd_impl_Color _ _ hi2, rd_impl_Color _ _ hi3, step64 hi2 (by omega), if_neg (by rw [neq_color]; exact fun h => h hx)]
      · simp only [impl_Color.l0]
        rw [if_pos (by omega), if_pos (by omega), if_pos (by omega), if_pos (by omega), rd_impl_Color _ _ hi2, rd_impl_Color _ _ hi3, step64 hi2 (by omega), if_neg (by rw [neq_color]; exact fun h => h hx)]
    · refine ⟨false, ev_done (fun k => ?_), ev_done (fun k => ?_)⟩
      · simp only [spec_SameSurface.l0]
        rw [if_pos (by omega), if_pos (by omega), if_pos (by omega), rd_impl_Color _ _ hi2, rd_impl_Color _ _ hi3, if_pos (by rw [neq_color]; exact hx)]
      · simp only [impl_Color.l0]
        rw [if_pos (by omega), if_pos (by omega), if_pos (by omega), if_pos (by omega), rd_impl_Color _ _ hi2, rd_impl_Color _ _ hi3, if_pos (by rw [neq_color]; exact hx)]
theorem Same_v (p q r s : Int) (x y : List S34) (hn : x.length ≤ 1048576) : ∃ b : Bool, Ev (fun k => spec_SameSurface.f k p q x r s y) b ∧ Ev (fun k => impl_SameSurface.f k p q x r s y) b := by
  have j1 : ∀ k, spec_SameSurface.j0 (k + 1) true p q x r s y = some false := fun k => by simp only [spec_SameSurface.j0, if_true]
  by_cases h1 : p = r
  · by_cases h2 : q = s
    · by_cases he : x.length = y.length
      · obtain ⟨b, e1, e2⟩ := Same_l p q r s x y hn he x.length 0 (by omega)
        refine ⟨b, ?_, ?_⟩
        · unfold spec_SameSurface.f
          simp only [if_pos h1, if_pos h2]
          refine Ev.step (fun k => ?_) e1
          simp only [spec_SameSurface.j0]
          rw [if_neg (by simp [he])]
          rfl
        · unfold impl_SameSurface.f impl_Color.f
          simp only [if_pos h1, if_pos h2, if_pos (show (x.length : Int) = (y.length : Int) by omega)]
          refine Ev.bind e2 ?_
          exact Ev.now _
      · refine ⟨false, ?_, ?_⟩
        · unfold spec_SameSurface.f
          simp only [if_pos h1, if_pos h2]
          refine ev_done (fun k => ?_)
          simp only [spec_SameSurface.j0]
          rw [if_pos (by simp; omega)]
        · unfold impl_SameSurface.f impl_Color.f
          simp only [if_pos h1, if_pos h2, if_neg (show ¬ (x.length : Int) = (y.length : Int) by omega)]
          exact Ev.now _
    · refine ⟨false, ?_, ?_⟩
      · unfold spec_SameSurface.f
        simp only [if_pos h1, if_neg h2]
        exact ev_done j1
      · unfold impl_SameSurface.f
        simp only [if_pos h1, if_neg h2]
        exact Ev.now _
  · refine ⟨false, ?_, ?_⟩
    · unfold spec_SameSurface.f
      simp only [if_neg h1]
      exact ev_done j1
    · unfold impl_SameSurface.f
      simp only [if_neg h1]
      exact Ev.now _
theorem pure : PureS := by
  intro p q x r s y _ _ hx _ _ hy
  have hz := laws_szSurface_v p q x 1048576 (by omega) (by omega) hx.1
  by_cases h : (x.length : Int) ≤ 1048576
  · rw [if_pos h] at hz
    have hz2 := laws_szSurface_v r s y (1048576 - (x.length : Int)) (by omega) (by omega) hy.1
    by_cases h2 : (y.length : Int) ≤ 1048576 - (x.length : Int)
    · rw [if_pos h2] at hz2
      have hn : x.length ≤ 1048576 := by omega
      have hm : y.length ≤ 1048576 := by omega
      have hn2 : (x.map convColor).length ≤ 1048576 := by simpa using hn
      have hm2 : (y.map convColor).length ≤ 1048576 := by simpa using hm
      have ht := laws_toSurface_v p q x hn
      have hu := laws_toSurface_v r s y hm
      obtain ⟨b, hs, hi⟩ := Same_v p q r s (x.map convColor) (y.map convColor) hn2
      refine Ev.rounds ?_
      simp only [laws_FnExactSameSurface.f, hz, hz2, Option.bind_some]
      simp only [if_neg (show ¬ (1048576 - (x.length : Int) < 0) by omega), if_neg (show ¬ (1048576 - (x.length : Int) - (y.length : Int) < 0) by omega)]
      refine Ev.bind ht (Ev.bind hu (Ev.bind hs (Ev.bind ht (Ev.bind hu (Ev.bind hi ?_)))))
      simp only [bne_self_eq_false, Bool.false_eq_true, if_false]
      refine Ev.bind ht (Ev.bind (laws_eqSurface_v p q _ hn2) ?_)
      simp only [if_true]
      refine Ev.bind hu (Ev.bind (laws_eqSurface_v r s _ hm2) ?_)
      simp only [if_true]
      exact Ev.now true
    · rw [if_neg h2] at hz2
      refine ⟨0, ?_⟩
      simp only [laws_FnExactSameSurface.f, hz, hz2, Option.bind_some]
      rw [if_neg (by omega), if_pos (by decide)]
  · rw [if_neg h] at hz
    exact ⟨0, by simp [laws_FnExactSameSurface.f, hz]⟩

end Go.Proofs.Ytkbgcdoeedmaiaa.QFnExactSameSurface
