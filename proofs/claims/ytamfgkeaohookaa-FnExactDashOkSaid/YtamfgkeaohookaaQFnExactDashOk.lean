/- The pure statement of the law FnExactDashOk, for every input: what the printed functions compute makes the law answer true. No conditions beyond what the row reads. -/
import Derived.Test.YtamfgkeaohookaaTFnExactDashOk
namespace Go.Proofs.Ytamfgkeaohookaa.QFnExactDashOk
open Go.RowKit Go.Proofs.Ytamfgkeaohookaa.PFnExactDashOk Go.Proofs.Ytamfgkeaohookaa.TFnExactDashOk Go.Proofs.YtamfgkeaohookaaW.PrintWords Go.Proofs.YtamfgkeaohookaaW.PrintLast
set_option linter.unusedVariables false
set_option linter.unusedSimpArgs false

/-! base -/
theorem w64 {x : Int} (h1 : -9223372036854775808 ≤ x) (h2 : x ≤ 9223372036854775807) : wrap64 x = x := by
  unfold wrap64
  omega

theorem wf64 {x : Int} (h : (Lit.int .i64 x).wf = true) : -9223372036854775808 ≤ x ∧ x ≤ 9223372036854775807 := by
  have h2 : (decide (IntKind.i64.min ≤ x) && decide (x ≤ IntKind.i64.max)) = true := h
  rw [Bool.and_eq_true, decide_eq_true_eq, decide_eq_true_eq] at h2
  exact ⟨h2.1, h2.2⟩

theorem take_set_succ {α : Type} (xs : List α) (i : Nat) (v : α) (h : i < xs.length) : (xs.set i v).take (i + 1) = xs.take i ++ [v] := by
  rw [List.take_succ_eq_append_getElem (by simpa using h), List.take_set_of_le (Nat.le_refl i), List.getElem_set_self]

theorem step64 {i n : Nat} (h : i < n) (hn : n ≤ 4611686018427387904) : wrap64 ((i : Int) + 1) = ((i + 1 : Nat) : Int) := by
  rw [w64 (by omega) (by omega)]
  omega

theorem ev_done {α : Type} {g : Nat → Option α} {r : α} (h : ∀ k, g (k + 1) = some r) : Ev g r := Ev.step (f := fun _ => some r) h (Ev.now r)

theorem ev_const {α : Type} {o : Option α} {r : α} (h : o = some r) : Ev (fun _ => o) r := by
  subst h
  exact Ev.now r

/-! rd_int -/
theorem rd_int (xs : List Int) (i : Nat) (h : i < xs.length) : rd xs (i : Int) = xs[i] := by
  unfold rd
  simp [h]

/-! laws_toIntS -/
def convInt (x : Int) : Int := x
theorem laws_toIntS_l (x0 : List Int) (hn : x0.length ≤ 1048576) : ∀ (d i : Nat) (x3 : List Int), x3.length = x0.length → i + d = x0.length →
    Ev (fun k => laws_toIntS.l0 k x0 x3 (i : Int)) (x3.take i ++ (x0.drop i).map convInt) := by
  intro d
  induction d with
  | zero =>
    intro i x3 hl hi
    refine ev_done (fun k => ?_)
    simp only [laws_toIntS.l0]
    rw [if_neg (by omega), List.take_of_length_le (by omega), List.drop_of_length_le (by omega)]
    simp
  | succ d ih =>
    intro i x3 hl hi
    have hi2 : i < x0.length := by omega
    refine Ev.step (f := fun k => laws_toIntS.l0 k x0 (x3.set i (convInt x0[i])) ((i + 1 : Nat) : Int)) (fun k => ?_) ?_
    · simp only [laws_toIntS.l0]
      rw [if_pos (by omega), if_pos (by omega), step64 hi2 (by omega), rd_int _ _ hi2]
      rw [if_pos (by omega)]
      rfl
    · have h := ih (i + 1) (x3.set i (convInt x0[i])) (by simpa using hl) (by omega)
      rw [take_set_succ _ _ _ (by omega)] at h
      rw [List.drop_eq_getElem_cons hi2]
      rw [List.append_assoc] at h
      exact h
theorem laws_toIntS_v (x0 : List Int) (hn : x0.length ≤ 1048576) : Ev (fun k => laws_toIntS.f k x0) (x0.map convInt) := by
  have h := laws_toIntS_l x0 hn x0.length 0 (List.replicate x0.length 0) (by simp) (by omega)
  refine Ev.congr (fun k => ?_) (by simpa using h)
  unfold laws_toIntS.f
  rw [if_pos (by omega), if_pos (by omega)]
  simp
theorem laws_toIntS_w (x0 : List Int) (hn : x0.length ≤ 1048576) : Ev (fun k => laws_toIntS.f k x0) x0 := by
  have h := laws_toIntS_v x0 hn
  rw [show x0.map convInt = x0 from (List.map_congr_left (fun _ _ => rfl)).trans (List.map_id x0)] at h
  exact h

/-! laws_eqIntS -/
theorem laws_eqIntS_l (x0 : List Int) (hn : x0.length ≤ 1048576) : ∀ (d i : Nat), i + d = x0.length → Ev (fun k => laws_eqIntS.l0 k x0 x0 (i : Int)) true := by
  intro d
  induction d with
  | zero =>
    intro i hi
    refine ev_done (fun k => ?_)
    simp only [laws_eqIntS.l0]
    rw [if_neg (by omega)]
  | succ d ih =>
    intro i hi
    have hi2 : i < x0.length := by omega
    refine Ev.step (fun k => ?_) (ih (i + 1) (by omega))
    simp only [laws_eqIntS.l0]
    rw [if_pos (by omega), if_pos (by omega), if_pos (by omega), step64 hi2 (by omega)]
    simp
theorem laws_eqIntS_v (x0 : List Int) (hn : x0.length ≤ 1048576) : Ev (fun k => laws_eqIntS.f k x0 x0) true := by
  refine Ev.congr (fun k => ?_) (laws_eqIntS_l x0 hn x0.length 0 (by omega))
  unfold laws_eqIntS.f
  rw [if_pos rfl]
  rfl

/-! spec_l01In -/
theorem spec_l01In_v (a b c : Int) : spec_l01In.f a b c = some (decide (b ≤ a ∧ a ≤ c)) := by
  unfold spec_l01In.f
  by_cases h : a ≥ b
  · rw [if_pos h]
    simp [h]
  · rw [if_neg h]
    simp
    omega

/-! spec_DashOk -/
def dashOkB (l : List Int) : Bool := l.all (fun x => decide (1 ≤ x ∧ x ≤ 20000)) && (decide (l.length % 2 = 0) && decide (l.length ≤ 4))
theorem dash_end (l : List Int) : (if ((l.length : Int) % 2) = 0 then some (decide ((l.length : Int) ≤ 4)) else some false) = some (decide (l.length % 2 = 0) && decide (l.length ≤ 4)) := by
  by_cases h : (l.length : Int) % 2 = 0
  · rw [if_pos h]
    have h2 : l.length % 2 = 0 := by omega
    simp [h2]
    omega
  · rw [if_neg h]
    have h2 : ¬ l.length % 2 = 0 := by omega
    simp [h2]
theorem spec_DashOk_l (l : List Int) (hn : l.length ≤ 1048576) : ∀ (d i : Nat), i + d = l.length → Ev (fun k => spec_DashOk.l0 k l (i : Int)) ((l.drop i).all (fun x => decide (1 ≤ x ∧ x ≤ 20000)) && (decide (l.length % 2 = 0) && decide (l.length ≤ 4))) := by
  intro d
  induction d with
  | zero =>
    intro i hi
    refine ev_done (fun k => ?_)
    simp only [spec_DashOk.l0]
    rw [if_neg (by omega), dash_end, List.drop_of_length_le (by omega)]
    rfl
  | succ d ih =>
    intro i hi
    have hi2 : i < l.length := by omega
    rw [List.drop_eq_getElem_cons hi2, List.all_cons]
    by_cases hx : 1 ≤ l[i] ∧ l[i] ≤ 20000
    · rw [decide_eq_true hx, Bool.true_and]
      refine Ev.step (fun k => ?_) (ih (i + 1) (by omega))
      simp only [spec_DashOk.l0, spec_l01In_v, Option.bind_some]
      rw [if_pos (by omega), if_pos (by omega), rd_int _ _ hi2, step64 hi2 (by omega), if_pos (by simpa using hx)]
    · rw [decide_eq_false hx, Bool.false_and, Bool.false_and]
      refine ev_done (fun k => ?_)
      simp only [spec_DashOk.l0, spec_l01In_v, Option.bind_some]
      rw [if_pos (by omega), if_pos (by omega), rd_int _ _ hi2, if_neg (by simpa using hx)]
theorem spec_DashOk_v (l : List Int) (hn : l.length ≤ 1048576) : Ev (fun k => spec_DashOk.f k l) (dashOkB l) := spec_DashOk_l l hn l.length 0 (by omega)

/-! impl_inRange -/
theorem impl_inRange_v (a b c : Int) : impl_inRange.f a b c = some (decide (b ≤ a ∧ a ≤ c)) := by
  unfold impl_inRange.f
  by_cases h : a ≥ b
  · rw [if_pos h]
    simp [h]
  · rw [if_neg h]
    simp
    omega

/-! impl_DashOk -/
theorem impl_DashOk_l (l : List Int) (hn : l.length ≤ 1048576) : ∀ (d i : Nat), i + d = l.length → Ev (fun k => impl_DashOk.l0 k l l (l.length : Int) (i : Int)) ((l.drop i).all (fun x => decide (1 ≤ x ∧ x ≤ 20000)) && (decide (l.length % 2 = 0) && decide (l.length ≤ 4))) := by
  intro d
  induction d with
  | zero =>
    intro i hi
    refine ev_done (fun k => ?_)
    simp only [impl_DashOk.l0]
    rw [if_neg (by omega), dash_end, List.drop_of_length_le (by omega)]
    rfl
  | succ d ih =>
    intro i hi
    have hi2 : i < l.length := by omega
    rw [List.drop_eq_getElem_cons hi2, List.all_cons]
    by_cases hx : 1 ≤ l[i] ∧ l[i] ≤ 20000
    · rw [decide_eq_true hx, Bool.true_and]
      refine Ev.step (fun k => ?_) (ih (i + 1) (by omega))
      simp only [impl_DashOk.l0, impl_inRange_v, Option.bind_some]
      rw [if_pos (by omega), if_pos (by omega), if_pos (by omega), rd_int _ _ hi2, step64 hi2 (by omega), if_pos (by simpa using hx)]
    · rw [decide_eq_false hx, Bool.false_and, Bool.false_and]
      refine ev_done (fun k => ?_)
      simp only [impl_DashOk.l0, impl_inRange_v, Option.bind_some]
      rw [if_pos (by omega), if_pos (by omega), if_pos (by omega), rd_int _ _ hi2, if_neg (by simpa using hx)]
theorem impl_DashOk_v (l : List Int) (hn : l.length ≤ 1048576) : Ev (fun k => impl_DashOk.f k l) (dashOkB l) := impl_DashOk_l l hn l.length 0 (by omega)

/-! law_FnExactDashOk -/
theorem pure : PureS := by
  intro l _
  by_cases h : (l.length : Int) > 1048576
  · exact ⟨0, by unfold laws_FnExactDashOk.f; rw [if_pos h]⟩
  · have hn : l.length ≤ 1048576 := by omega
    refine Ev.rounds ?_
    unfold laws_FnExactDashOk.f
    simp only [if_neg h]
    have ht := laws_toIntS_w l hn
    refine Ev.bind ht (Ev.bind (spec_DashOk_v l hn) (Ev.bind ht (Ev.bind (impl_DashOk_v l hn) ?_)))
    simp only [bne_self_eq_false, Bool.false_eq_true, if_false]
    refine Ev.bind ht (Ev.bind (laws_eqIntS_v l hn) ?_)
    simp only [if_true]
    exact Ev.now true

end Go.Proofs.Ytamfgkeaohookaa.QFnExactDashOk
