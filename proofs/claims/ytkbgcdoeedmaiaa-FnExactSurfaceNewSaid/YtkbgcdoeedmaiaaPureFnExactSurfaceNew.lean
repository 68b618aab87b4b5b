/- The pure statement of the law FnExactSurfaceNew, for every input: what the printed functions compute makes the law answer true. No conditions beyond what the row reads. -/
import Derived.Test.YtkbgcdoeedmaiaaPFnExactSurfaceNewx3
namespace Go.Proofs.Ytkbgcdoeedmaiaa.Pure
open Go.RowKit Go.Proofs.Ytkbgcdoeedmaiaa.PFnExactSurfaceNew Go.Proofs.YtkbgcdoeedmaiaaW.PrintWords Go.Proofs.YtkbgcdoeedmaiaaW.PrintLast
set_option linter.unusedVariables false
set_option linter.unusedSimpArgs false

/-! base -/
theorem w64 {x : Int} (h1 : -9223372036854775808 ≤ x) (h2 : x ≤ 9223372036854775807) : wrap64 x = x := by
  unfold wrap64
  omega

theorem wf64 {x : Int} (h : (Lit.int .i64 x).wf = true) : -9223372036854775808 ≤ x ∧ x ≤ 9223372036854775807 := by
  have h2 : (decide (IntKind.i64.min ≤ x) && decide (x ≤ IntKind.i64.max)) = true := h
  rw [Bool.and_eq_true, decide_eq_true_eq, decide_eq_true_eq] at h2
  exact ⟨h2.1, h2.2⟩

theorem take_set_succ {α : Type} (xs : List α) (i : Nat) (v : α) (h : i < xs.length) : (xs.set i v).take (i + 1) = xs.take i ++ [v] := by
  rw [List.take_succ_eq_append_getElem (by simpa using h), List.take_set_of_le (Nat.le_refl i), List.getElem_set_self]

theorem step64 {i n : Nat} (h : i < n) (hn : n ≤ 4611686018427387904) : wrap64 ((i : Int) + 1) = ((i + 1 : Nat) : Int) := by
  rw [w64 (by omega) (by omega)]
  omega

theorem ev_done {α : Type} {g : Nat → Option α} {r : α} (h : ∀ k, g (k + 1) = some r) : Ev g r := Ev.step (f := fun _ => some r) h (Ev.now r)

theorem ev_const {α : Type} {o : Option α} {r : α} (h : o = some r) : Ev (fun _ => o) r := by
  subst h
  exact Ev.now r

/-! spec_l01In -/
theorem spec_l01In_v (a b c : Int) : spec_l01In.f a b c = some (decide (b ≤ a ∧ a ≤ c)) := by
  unfold spec_l01In.f
  by_cases h : a ≥ b
  · rw [if_pos h]
    simp [h]
  · rw [if_neg h]
    simp
    omega

/-! impl_inRange -/
theorem impl_inRange_v (a b c : Int) : impl_inRange.f a b c = some (decide (b ≤ a ∧ a ≤ c)) := by
  unfold impl_inRange.f
  by_cases h : a ≥ b
  · rw [if_pos h]
    simp [h]
  · rw [if_neg h]
    simp
    omega

/-! marksColor -/
def marksColor : Nat → Int → List S34
  | 0, _ => []
  | n + 1, c => ⟨c, c + 1, c + 2, c + 3⟩ :: marksColor n (c + 4)
theorem marksColor_length : ∀ (n : Nat) (c : Int), (marksColor n c).length = n
  | 0, _ => rfl
  | n + 1, c => by rw [marksColor, List.length_cons, marksColor_length n]

/-! rd_impl_Color -/
theorem rd_impl_Color (xs : List S34) (i : Nat) (h : i < xs.length) : rd_T34 xs (i : Int) = xs[i] := by
  unfold rd_T34
  simp [h]

/-! laws_markColorS -/
theorem laws_markColorS_l : ∀ (d i : Nat) (x0 : List S34) (c : Int), x0.length ≤ 4194304 → i + d = x0.length → 0 ≤ c → c + 4 * (d : Int) ≤ 1152921504606846976 →
    Ev (fun k => laws_markColorS.l0 k x0 c (i : Int)) (c + 4 * (d : Int), x0.take i ++ marksColor d c) := by
  intro d
  induction d with
  | zero =>
    intro i x0 c hn hi h0 h1
    refine ev_done (fun k => ?_)
    simp only [laws_markColorS.l0]
    rw [if_neg (by omega), List.take_of_length_le (by omega)]
    simp [marksColor]
  | succ d ih =>
    intro i x0 c hn hi h0 h1
    have hi2 : i < x0.length := by omega
    have e1 : wrap64 (c + 1) = c + 1 := by rw [w64 (by omega) (by omega)] <;> omega
    have e2 : wrap64 (c + 1 + 1) = c + 2 := by rw [w64 (by omega) (by omega)] <;> omega
    have e3 : wrap64 (c + 2 + 1) = c + 3 := by rw [w64 (by omega) (by omega)] <;> omega
    have e4 : wrap64 (c + 3 + 1) = c + 4 := by rw [w64 (by omega) (by omega)] <;> omega
    have hs : ∀ v, rd_T34 (x0.set i v) (i : Int) = v := fun v => by rw [rd_impl_Color _ _ (by simpa using hi2)]; simp
    refine Ev.step (f := fun k => laws_markColorS.l0 k (x0.set i ⟨c, c + 1, c + 2, c + 3⟩) (c + 4) ((i + 1 : Nat) : Int)) (fun k => ?_) ?_
    · simp only [laws_markColorS.l0, Option.bind_some, Int.toNat_natCast, List.set_set, hs, e1, e2, e3, e4, step64 hi2 (show x0.length ≤ 4611686018427387904 by omega)]
      rw [if_pos (by omega), if_pos (by omega)]
    · have h := ih (i + 1) (x0.set i ⟨c, c + 1, c + 2, c + 3⟩) (c + 4) (by simpa using hn) (by simp; omega) (by omega) (by omega)
      rw [take_set_succ _ _ _ (by omega), List.append_assoc] at h
      have e : c + 4 * ((d + 1 : Nat) : Int) = c + 4 + 4 * (d : Int) := by omega
      rw [e]
      exact h
theorem laws_markColorS_v (x0 : List S34) (c : Int) (hn : x0.length ≤ 4194304) (h0 : 0 ≤ c) (h1 : c ≤ 1125899906842624) : Ev (fun k => laws_markColorS.f k x0 c) (c + 4 * (x0.length : Int), marksColor x0.length c) := by
  have h := laws_markColorS_l x0.length 0 x0 c hn (by omega) h0 (by omega)
  exact h

/-! laws_heldColorS -/
theorem laws_heldColorS_l : ∀ (d i : Nat) (x0 : List S34) (c : Int), x0.length ≤ 4194304 → i + d = x0.length → 0 ≤ c → c + 4 * (d : Int) ≤ 1152921504606846976 → x0.drop i = marksColor d c →
    Ev (fun k => laws_heldColorS.l0 k x0 c (i : Int)) (c + 4 * (d : Int)) := by
  intro d
  induction d with
  | zero =>
    intro i x0 c hn hi h0 h1 hd
    refine ev_done (fun k => ?_)
    simp only [laws_heldColorS.l0]
    rw [if_neg (by omega)]
    simp
  | succ d ih =>
    intro i x0 c hn hi h0 h1 hd
    have hi2 : i < x0.length := by omega
    rw [List.drop_eq_getElem_cons hi2, marksColor] at hd
    obtain ⟨hx, hd⟩ := List.cons.inj hd
    have e1 : wrap64 (c + 1) = c + 1 := by rw [w64 (by omega) (by omega)] <;> omega
    have e2 : wrap64 (c + 1 + 1) = c + 2 := by rw [w64 (by omega) (by omega)] <;> omega
    have e3 : wrap64 (c + 2 + 1) = c + 3 := by rw [w64 (by omega) (by omega)] <;> omega
    have e4 : wrap64 (c + 3 + 1) = c + 4 := by rw [w64 (by omega) (by omega)] <;> omega
    have e : c + 4 * ((d + 1 : Nat) : Int) = c + 4 + 4 * (d : Int) := by omega
    rw [e]
    refine Ev.step (fun k => ?_) (ih (i + 1) x0 (c + 4) hn (by omega) (by omega) (by omega) hd)
    simp only [laws_heldColorS.l0, rd_impl_Color _ _ hi2, hx, e1, e2, e3, e4, if_true, step64 hi2 (show x0.length ≤ 4611686018427387904 by omega)]
    rw [if_pos (by omega), if_pos (by omega)]
theorem laws_heldColorS_v (n : Nat) (c : Int) (hn : n ≤ 4194304) (h0 : 0 ≤ c) (h1 : c ≤ 1125899906842624) : Ev (fun k => laws_heldColorS.f k (marksColor n c) c) (c + 4 * (n : Int)) :=
  laws_heldColorS_l n 0 (marksColor n c) c (by rw [marksColor_length]; exact hn) (by rw [marksColor_length]; omega) h0 (by omega) rfl

/-! laws_eqColorS -/
theorem laws_eqColorS_l (x0 : List S34) (hn : x0.length ≤ 1048576) : ∀ (d i : Nat), i + d = x0.length → Ev (fun k => laws_eqColorS.l0 k x0 x0 (i : Int)) true := by
  intro d
  induction d with
  | zero =>
    intro i hi
    refine ev_done (fun k => ?_)
    simp only [laws_eqColorS.l0]
    rw [if_neg (by omega)]
  | succ d ih =>
    intro i hi
    have hi2 : i < x0.length := by omega
    refine Ev.step (fun k => ?_) (ih (i + 1) (by omega))
    simp only [laws_eqColorS.l0, laws_eqColor.f]
    rw [if_pos (by omega), if_pos (by omega), if_pos (by omega), step64 hi2 (by omega)]
    simp
theorem laws_eqColorS_v (x0 : List S34) (hn : x0.length ≤ 1048576) : Ev (fun k => laws_eqColorS.f k x0 x0) true := by
  refine Ev.congr (fun k => ?_) (laws_eqColorS_l x0 hn x0.length 0 (by omega))
  unfold laws_eqColorS.f
  rw [if_pos rfl]
  rfl

/-! law_FnExactSurfaceNew -/
theorem surfNew_bd {a b : Int} (ha : 1 ≤ a ∧ a ≤ 12) (hb : 1 ≤ b ∧ b ≤ 12) : wrap64 (a * b) = a * b ∧ 1 ≤ a * b ∧ a * b ≤ 144 := by
  have e1 : 1 * 1 ≤ a * b := Int.mul_le_mul (by omega) (by omega) (by omega) (by omega)
  have e2 : a * b ≤ 12 * 12 := Int.mul_le_mul (by omega) (by omega) (by omega) (by omega)
  exact ⟨w64 (by omega) (by omega), by omega, by omega⟩
theorem SurfNew_v (a b : Int) : ∃ p q l f, l.length ≤ 144 ∧ spec_SurfaceNew.f a b = some (p, q, l, f) ∧ impl_SurfaceNew.f a b = some (p, q, l, f) := by
  unfold spec_SurfaceNew.f impl_SurfaceNew.f impl_isSide.f
  simp only [spec_l01In_v, impl_inRange_v, Option.bind_some]
  by_cases ha : 1 ≤ a ∧ a ≤ 12
  · by_cases hb : 1 ≤ b ∧ b ≤ 12
    · obtain ⟨h1, h2, h3⟩ := surfNew_bd ha hb
      rw [h1]
      have h4 : 0 ≤ a * b := by omega
      have h5 : (a * b).toNat ≤ 8796093022208 := by omega
      refine ⟨a, b, List.replicate (a * b).toNat z34, true, by simp; omega, ?_, ?_⟩
      · simp only [decide_eq_true ha, decide_eq_true hb, if_true, if_pos h4, if_pos h5]
      · simp only [decide_eq_true ha, decide_eq_true hb, if_true, if_pos h4, if_pos h5]
    · exact ⟨0, 0, [], false, by simp, by simp only [decide_eq_true ha, decide_eq_false hb, if_true, Bool.false_eq_true, if_false], by simp only [decide_eq_true ha, decide_eq_false hb, if_true, Bool.false_eq_true, if_false]⟩
  · exact ⟨0, 0, [], false, by simp, by simp only [decide_eq_false ha, Bool.false_eq_true, if_false], by simp only [decide_eq_false ha, Bool.false_eq_true, if_false]⟩
theorem eqSurf_v (p q : Int) (l : List S34) (h : l.length ≤ 144) : Ev (fun k => laws_eqSurface.f k p q l p q l) true := by
  unfold laws_eqSurface.f
  simp only [if_true]
  refine Ev.bind (laws_eqColorS_v l (by omega)) ?_
  simp only [if_true]
  exact Ev.now true
theorem heldSurf_v (p q : Int) (n : Nat) (h : n ≤ 144) : Ev (fun k => laws_heldSurface.f k p q (marksColor n 1) 1) (1 + 4 * (n : Int)) := by
  unfold laws_heldSurface.f
  refine Ev.bind (laws_heldColorS_v n 1 (by omega) (by omega) (by omega)) ?_
  simp only [if_neg (show ¬ (1 + 4 * (n : Int) < 0) by omega)]
  exact Ev.now _
theorem FnExactSurfaceNew : laws_FnExactSurfaceNew.Pure := by
  intro a b _ _
  obtain ⟨p, q, l, f, hl, h1, h2⟩ := SurfNew_v a b
  have hm : Ev (fun k => laws_markSurface.f k p q l 1) (1 + 4 * (l.length : Int), marksColor l.length 1) := by
    unfold laws_markSurface.f
    exact Ev.bind (laws_markColorS_v l 1 (by omega) (by omega) (by omega)) (Ev.now _)
  have hh := heldSurf_v p q l.length hl
  have he := eqSurf_v p q l hl
  have e1 : ¬ (1 + 4 * (l.length : Int) < 0) := by omega
  refine Ev.rounds ?_
  simp only [laws_FnExactSurfaceNew.f, h1, h2, Option.bind_some]
  refine Ev.bind he ?_
  simp only [if_true, bne_self_eq_false]
  refine Ev.step (fun k => by simp only [laws_FnExactSurfaceNew.j0, h2, Option.bind_some, Bool.false_eq_true, if_false]; exact rfl) ?_
  refine Ev.bind hm (Ev.bind hh ?_)
  simp only [if_true, if_neg e1, bne_self_eq_false]
  refine Ev.bind he ?_
  simp only [if_true]
  refine Ev.step (fun k => by simp only [laws_FnExactSurfaceNew.j1, Bool.false_eq_true, if_false]; exact rfl) ?_
  refine Ev.bind hh ?_
  simp only [if_true, if_neg e1]
  exact Ev.now true

end Go.Proofs.Ytkbgcdoeedmaiaa.Pure
