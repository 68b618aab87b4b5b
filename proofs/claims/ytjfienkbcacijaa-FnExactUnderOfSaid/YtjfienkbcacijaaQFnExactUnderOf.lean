/- The pure statement of the law FnExactUnderOf, for every input: what the printed functions compute makes the law answer true. No conditions beyond what the row reads. -/
import Derived.Test.YtjfienkbcacijaaTFnExactUnderOf
namespace Go.Proofs.Ytjfienkbcacijaa.QFnExactUnderOf
open Go.RowKit Go.Proofs.Ytjfienkbcacijaa.MFnExactUnderOf Go.Proofs.Ytjfienkbcacijaa.TFnExactUnderOf Go.Proofs.YtjfienkbcacijaaW.PrintWords Go.Proofs.YtjfienkbcacijaaW.PrintLast
set_option linter.unusedVariables false
set_option linter.unusedSimpArgs false

/-! base -/
theorem w64 {x : Int} (h1 : -9223372036854775808 ≤ x) (h2 : x ≤ 9223372036854775807) : wrap64 x = x := by
  unfold wrap64
  omega

theorem wf64 {x : Int} (h : (Lit.int .i64 x).wf = true) : -9223372036854775808 ≤ x ∧ x ≤ 9223372036854775807 := by
  have h2 : (decide (IntKind.i64.min ≤ x) && decide (x ≤ IntKind.i64.max)) = true := h
  rw [Bool.and_eq_true, decide_eq_true_eq, decide_eq_true_eq] at h2
  exact ⟨h2.1, h2.2⟩

theorem take_set_succ {α : Type} (xs : List α) (i : Nat) (v : α) (h : i < xs.length) : (xs.set i v).take (i + 1) = xs.take i ++ [v] := by
  rw [List.take_succ_eq_append_getElem (by simpa using h), List.take_set_of_le (Nat.le_refl i), List.getElem_set_self]

theorem step64 {i n : Nat} (h : i < n) (hn : n ≤ 4611686018427387904) : wrap64 ((i : Int) + 1) = ((i + 1 : Nat) : Int) := by
  rw [w64 (by omega) (by omega)]
  omega

theorem ev_done {α : Type} {g : Nat → Option α} {r : α} (h : ∀ k, g (k + 1) = some r) : Ev g r := Ev.step (f := fun _ => some r) h (Ev.now r)

theorem ev_const {α : Type} {o : Option α} {r : α} (h : o = some r) : Ev (fun _ => o) r := by
  subst h
  exact Ev.now r

/-! laws_szIntS -/
theorem laws_szIntS_v (l : List Int) (a : Int) (h0 : 0 ≤ a) (h1 : a ≤ 1048576) (hl : l.length ≤ maxLen) : laws_szIntS.f l a = some (if (l.length : Int) ≤ a then a - (l.length : Int) else -1) := by
  unfold maxLen at hl
  have hw : wrap64 (a - (l.length : Int)) = a - (l.length : Int) := w64 (by omega) (by omega)
  unfold laws_szIntS.f
  rw [hw]
  by_cases h : (l.length : Int) ≤ a
  · rw [if_neg (by omega), if_pos h]
  · rw [if_pos (by omega), if_neg h]

/-! laws_szPointS -/
theorem laws_szPointS_v (l : List S89) (a : Int) (h0 : 0 ≤ a) (h1 : a ≤ 1048576) (hl : l.length ≤ maxLen) : laws_szPointS.f l a = some (if (l.length : Int) ≤ a then a - (l.length : Int) else -1) := by
  unfold maxLen at hl
  have hw : wrap64 (a - (l.length : Int)) = a - (l.length : Int) := w64 (by omega) (by omega)
  unfold laws_szPointS.f
  rw [hw]
  by_cases h : (l.length : Int) ≤ a
  · rw [if_neg (by omega), if_pos h]
  · rw [if_pos (by omega), if_neg h]

/-! rd_int -/
theorem rd_int (xs : List Int) (i : Nat) (h : i < xs.length) : rd xs (i : Int) = xs[i] := by
  unfold rd
  simp [h]

/-! laws_toIntS -/
def convInt (x : Int) : Int := x
theorem laws_toIntS_l (x0 : List Int) (hn : x0.length ≤ 1048576) : ∀ (d i : Nat) (x3 : List Int), x3.length = x0.length → i + d = x0.length →
    Ev (fun k => laws_toIntS.l0 k x0 x3 (i : Int)) (x3.take i ++ (x0.drop i).map convInt) := by
  intro d
  induction d with
  | zero =>
    intro i x3 hl hi
    refine ev_done (fun k => ?_)
    simp only [laws_toIntS.l0]
    rw [if_neg (by omega), List.take_of_length_le (by omega), List.drop_of_length_le (by omega)]
    simp
  | succ d ih =>
    intro i x3 hl hi
    have hi2 : i < x0.length := by omega
    refine Ev.step (f := fun k => laws_toIntS.l0 k x0 (x3.set i (convInt x0[i])) ((i + 1 : Nat) : Int)) (fun k => ?_) ?_
    · simp only [laws_toIntS.l0]
      rw [if_pos (by omega), if_pos (by omega), step64 hi2 (by omega), rd_int _ _ hi2]
      rw [if_pos (by omega)]
      rfl
    · have h := ih (i + 1) (x3.set i (convInt x0[i])) (by simpa using hl) (by omega)
      rw [take_set_succ _ _ _ (by omega)] at h
      rw [List.drop_eq_getElem_cons hi2]
      rw [List.append_assoc] at h
      exact h
theorem laws_toIntS_v (x0 : List Int) (hn : x0.length ≤ 1048576) : Ev (fun k => laws_toIntS.f k x0) (x0.map convInt) := by
  have h := laws_toIntS_l x0 hn x0.length 0 (List.replicate x0.length 0) (by simp) (by omega)
  refine Ev.congr (fun k => ?_) (by simpa using h)
  unfold laws_toIntS.f
  rw [if_pos (by omega), if_pos (by omega)]
  simp
theorem laws_toIntS_w (x0 : List Int) (hn : x0.length ≤ 1048576) : Ev (fun k => laws_toIntS.f k x0) x0 := by
  have h := laws_toIntS_v x0 hn
  rw [show x0.map convInt = x0 from (List.map_congr_left (fun _ _ => rfl)).trans (List.map_id x0)] at h
  exact h

/-! rd_laws_Point -/
theorem rd_laws_Point (xs : List S89) (i : Nat) (h : i < xs.length) : rd_T89 xs (i : Int) = xs[i] := by
  unfold rd_T89
  simp [h]

/-! laws_toPointS -/
def convPoint (x : S89) : S29 := ⟨x.f0, x.f1⟩
theorem laws_toPointS_l (x0 : List S89) (hn : x0.length ≤ 1048576) : ∀ (d i : Nat) (x3 : List S29), x3.length = x0.length → i + d = x0.length →
    Ev (fun k => laws_toPointS.l0 k x0 x3 (i : Int)) (x3.take i ++ (x0.drop i).map convPoint) := by
  intro d
  induction d with
  | zero =>
    intro i x3 hl hi
    refine ev_done (fun k => ?_)
    simp only [laws_toPointS.l0]
    rw [if_neg (by omega), List.take_of_length_le (by omega), List.drop_of_length_le (by omega)]
    simp
  | succ d ih =>
    intro i x3 hl hi
    have hi2 : i < x0.length := by omega
    refine Ev.step (f := fun k => laws_toPointS.l0 k x0 (x3.set i (convPoint x0[i])) ((i + 1 : Nat) : Int)) (fun k => ?_) ?_
    · simp only [laws_toPointS.l0, laws_toPoint.f, Option.bind_some]
      rw [if_pos (by omega), if_pos (by omega), step64 hi2 (by omega), rd_laws_Point _ _ hi2]
      rw [if_pos (by omega)]
      rfl
    · have h := ih (i + 1) (x3.set i (convPoint x0[i])) (by simpa using hl) (by omega)
      rw [take_set_succ _ _ _ (by omega)] at h
      rw [List.drop_eq_getElem_cons hi2]
      rw [List.append_assoc] at h
      exact h
theorem laws_toPointS_v (x0 : List S89) (hn : x0.length ≤ 1048576) : Ev (fun k => laws_toPointS.f k x0) (x0.map convPoint) := by
  have h := laws_toPointS_l x0 hn x0.length 0 (List.replicate x0.length z29) (by simp) (by omega)
  refine Ev.congr (fun k => ?_) (by simpa using h)
  unfold laws_toPointS.f
  rw [if_pos (by omega), if_pos (by omega)]
  simp

/-! laws_eqIntS -/
theorem laws_eqIntS_l (x0 : List Int) (hn : x0.length ≤ 1048576) : ∀ (d i : Nat), i + d = x0.length → Ev (fun k => laws_eqIntS.l0 k x0 x0 (i : Int)) true := by
  intro d
  induction d with
  | zero =>
    intro i hi
    refine ev_done (fun k => ?_)
    simp only [laws_eqIntS.l0]
    rw [if_neg (by omega)]
  | succ d ih =>
    intro i hi
    have hi2 : i < x0.length := by omega
    refine Ev.step (fun k => ?_) (ih (i + 1) (by omega))
    simp only [laws_eqIntS.l0]
    rw [if_pos (by omega), if_pos (by omega), if_pos (by omega), step64 hi2 (by omega)]
    simp
theorem laws_eqIntS_v (x0 : List Int) (hn : x0.length ≤ 1048576) : Ev (fun k => laws_eqIntS.f k x0 x0) true := by
  refine Ev.congr (fun k => ?_) (laws_eqIntS_l x0 hn x0.length 0 (by omega))
  unfold laws_eqIntS.f
  rw [if_pos rfl]
  rfl

/-! laws_eqPointS -/
theorem laws_eqPointS_l (x0 : List S29) (hn : x0.length ≤ 1048576) : ∀ (d i : Nat), i + d = x0.length → Ev (fun k => laws_eqPointS.l0 k x0 x0 (i : Int)) true := by
  intro d
  induction d with
  | zero =>
    intro i hi
    refine ev_done (fun k => ?_)
    simp only [laws_eqPointS.l0]
    rw [if_neg (by omega)]
  | succ d ih =>
    intro i hi
    have hi2 : i < x0.length := by omega
    refine Ev.step (fun k => ?_) (ih (i + 1) (by omega))
    simp only [laws_eqPointS.l0, laws_eqPoint.f]
    rw [if_pos (by omega), if_pos (by omega), if_pos (by omega), step64 hi2 (by omega)]
    simp
theorem laws_eqPointS_v (x0 : List S29) (hn : x0.length ≤ 1048576) : Ev (fun k => laws_eqPointS.f k x0 x0) true := by
  refine Ev.congr (fun k => ?_) (laws_eqPointS_l x0 hn x0.length 0 (by omega))
  unfold laws_eqPointS.f
  rw [if_pos rfl]
  rfl

/-! PathM -/
theorem szInt_m (l : List Int) (n : Int) (h0 : 0 ≤ n) (h1 : n ≤ 1048576) (hl : l.length ≤ maxLen) : ∃ m, laws_szIntS.f l n = some m ∧ m ≤ n ∧ (0 ≤ m → l.length ≤ 1048576) := by
  refine ⟨_, laws_szIntS_v l n h0 h1 hl, ?_, ?_⟩
  · split <;> omega
  · split <;> omega
theorem szPoint_m (l : List S89) (n : Int) (h0 : 0 ≤ n) (h1 : n ≤ 1048576) (hl : l.length ≤ maxLen) : ∃ m, laws_szPointS.f l n = some m ∧ m ≤ n ∧ (0 ≤ m → l.length ≤ 1048576) := by
  refine ⟨_, laws_szPointS_v l n h0 h1 hl, ?_, ?_⟩
  · split <;> omega
  · split <;> omega
theorem szPath_m (l : List Int) (p : List S89) (n : Int) (h0 : 0 ≤ n) (h1 : n ≤ 1048576) (hl : l.length ≤ maxLen) (hp : p.length ≤ maxLen) : ∃ m, laws_szPath.f l p n = some m ∧ m ≤ n ∧ (0 ≤ m → l.length ≤ 1048576 ∧ p.length ≤ 1048576) := by
  obtain ⟨m, e1, b1, c1⟩ := szInt_m l n h0 h1 hl
  unfold laws_szPath.f
  rw [e1, Option.bind_some]
  by_cases hm : m < 0
  · rw [if_pos hm]
    exact ⟨-1, rfl, by omega, by omega⟩
  · rw [if_neg hm]
    obtain ⟨q, e2, b2, c2⟩ := szPoint_m p m (by omega) (by omega) hp
    rw [e2, Option.bind_some]
    by_cases hq : q < 0
    · rw [if_pos hq]
      exact ⟨-1, rfl, by omega, by omega⟩
    · rw [if_neg hq]
      exact ⟨q, rfl, by omega, fun _ => ⟨c1 (by omega), c2 (by omega)⟩⟩
theorem toPath_v (l : List Int) (p : List S89) (hl : l.length ≤ 1048576) (hp : p.length ≤ 1048576) : Ev (fun k => laws_toPath.f k l p) (l, p.map convPoint) := by
  unfold laws_toPath.f
  exact Ev.bind (laws_toIntS_w l hl) (Ev.bind (laws_toPointS_v p hp) (Ev.now _))
theorem eqPath_v (l : List Int) (p : List S29) (hl : l.length ≤ 1048576) (hp : p.length ≤ 1048576) : Ev (fun k => laws_eqPath.f k l p l p) true := by
  unfold laws_eqPath.f
  refine Ev.bind (laws_eqIntS_v l hl) ?_
  simp only [if_true]
  refine Ev.bind (laws_eqPointS_v p hp) ?_
  simp only [if_true]
  exact Ev.now _

/-! rd_impl_Node -/
theorem rd_impl_Node (xs : List S69) (i : Nat) (h : i < xs.length) : rd_T69 xs (i : Int) = xs[i] := by
  unfold rd_T69
  simp [h]

/-! rd_laws_Node -/
theorem rd_laws_Node (xs : List S118) (i : Nat) (h : i < xs.length) : rd_T118 xs (i : Int) = xs[i] := by
  unfold rd_T118
  simp [h]

/-! Scene -/
def convNode (x : S118) : S69 :=
  ⟨x.f0, x.f1, x.f2, ⟨x.f3.f0, x.f3.f1, x.f3.f2, x.f3.f3, x.f3.f4, x.f3.f5⟩, ⟨x.f4.f0, x.f4.f1.map convPoint⟩, x.f5, x.f6, x.f7,
    ⟨x.f8.f0, ⟨x.f8.f1.f0, x.f8.f1.f1, x.f8.f1.f2, x.f8.f1.f3⟩, ⟨x.f8.f2.f0, x.f8.f2.f1, x.f8.f2.f2, x.f8.f2.f3⟩, ⟨x.f8.f3.f0, x.f8.f3.f1⟩, ⟨x.f8.f4.f0, x.f8.f4.f1⟩⟩, x.f9, x.f10, ⟨x.f11.f0, x.f11.f1.map convPoint⟩⟩
def nodeFits (x : S118) : Prop := x.f4.f0.length ≤ 1048576 ∧ x.f4.f1.length ≤ 1048576 ∧ x.f7.length ≤ 1048576 ∧ x.f11.f0.length ≤ 1048576 ∧ x.f11.f1.length ≤ 1048576
def nodeFitsI (x : S69) : Prop := x.f4.f0.length ≤ 1048576 ∧ x.f4.f1.length ≤ 1048576 ∧ x.f7.length ≤ 1048576 ∧ x.f11.f0.length ≤ 1048576 ∧ x.f11.f1.length ≤ 1048576
def nodeRoom (x : S118) : Prop := x.f4.f0.length ≤ maxLen ∧ x.f4.f1.length ≤ maxLen ∧ x.f7.length ≤ maxLen ∧ x.f11.f0.length ≤ maxLen ∧ x.f11.f1.length ≤ maxLen
theorem convNode_fits {x : S118} (h : nodeFits x) : nodeFitsI (convNode x) := by
  unfold nodeFits at h
  unfold nodeFitsI convNode
  simpa using h
theorem szNode_m (x : S118) (n : Int) (h0 : 0 ≤ n) (h1 : n ≤ 1048576) (hr : nodeRoom x) :
    ∃ m, laws_szNode.f x.f0 x.f1 x.f2 x.f3.f0 x.f3.f1 x.f3.f2 x.f3.f3 x.f3.f4 x.f3.f5 x.f4.f0 x.f4.f1 x.f5 x.f6 x.f7 x.f8.f0 x.f8.f1.f0 x.f8.f1.f1 x.f8.f1.f2 x.f8.f1.f3 x.f8.f2.f0 x.f8.f2.f1 x.f8.f2.f2 x.f8.f2.f3 x.f8.f3.f0 x.f8.f3.f1 x.f8.f4.f0 x.f8.f4.f1 x.f9 x.f10 x.f11.f0 x.f11.f1 n = some m ∧ m ≤ n ∧ (0 ≤ m → nodeFits x) := by
  obtain ⟨r1, r2, r3, r4, r5⟩ := hr
  obtain ⟨m, e1, b1, c1⟩ := szPath_m x.f4.f0 x.f4.f1 n h0 h1 r1 r2
  unfold laws_szNode.f
  rw [e1, Option.bind_some]
  by_cases hm : m < 0
  · rw [if_pos hm]
    exact ⟨-1, rfl, by omega, by omega⟩
  · rw [if_neg hm]
    obtain ⟨q, e2, b2, c2⟩ := szInt_m x.f7 m (by omega) (by omega) r3
    rw [e2, Option.bind_some]
    by_cases hq : q < 0
    · rw [if_pos hq]
      exact ⟨-1, rfl, by omega, by omega⟩
    · rw [if_neg hq]
      obtain ⟨p, e3, b3, c3⟩ := szPath_m x.f11.f0 x.f11.f1 q (by omega) (by omega) r4 r5
      rw [e3, Option.bind_some]
      by_cases hp : p < 0
      · rw [if_pos hp]
        exact ⟨-1, rfl, by omega, by omega⟩
      · rw [if_neg hp]
        exact ⟨p, rfl, by omega, fun _ => ⟨(c1 (by omega)).1, (c1 (by omega)).2, c2 (by omega), (c3 (by omega)).1, (c3 (by omega)).2⟩⟩
theorem szNodeS_l (xs : List S118) (hn : xs.length ≤ 1048576) (hr : ∀ x ∈ xs, nodeRoom x) : ∀ (d i : Nat) (n : Int), i + d = xs.length → 0 ≤ n → n ≤ 1048576 → ∃ m, Ev (fun k => laws_szNodeS.l0 k xs n (i : Int)) m ∧ (0 ≤ m → ∀ x ∈ xs.drop i, nodeFits x) := by
  intro d
  induction d with
  | zero =>
    intro i n hi h0 h1
    refine ⟨n, ev_done (fun k => ?_), fun _ x hx => ?_⟩
    · simp only [laws_szNodeS.l0]
      rw [if_neg (by omega)]
    · rw [List.drop_of_length_le (by omega)] at hx
      exact absurd hx (by simp)
  | succ d ih =>
    intro i n hi h0 h1
    have hi2 : i < xs.length := by omega
    have e := rd_laws_Node xs i hi2
    obtain ⟨m, e1, b1, c1⟩ := szNode_m (xs[i]) n h0 h1 (hr _ (List.getElem_mem hi2))
    by_cases hm : m < 0
    · refine ⟨-1, ev_done (fun k => ?_), by omega⟩
      simp only [laws_szNodeS.l0, e, e1, Option.bind_some]
      rw [if_pos (by omega), if_pos (by omega), if_pos hm]
    · obtain ⟨q, e2, c2⟩ := ih (i + 1) m (by omega) (by omega) (by omega)
      refine ⟨q, Ev.step (fun k => ?_) e2, fun hq x hx => ?_⟩
      · simp only [laws_szNodeS.l0, e, e1, Option.bind_some, step64 hi2 (show xs.length ≤ 4611686018427387904 by omega)]
        rw [if_pos (by omega), if_pos (by omega), if_neg hm]
      · rw [List.drop_eq_getElem_cons hi2] at hx
        rcases List.mem_cons.mp hx with rfl | hx
        · exact c1 (by omega)
        · exact c2 hq x hx
theorem szScene_v (xs : List S118) (hl : xs.length ≤ maxLen) (hr : ∀ x ∈ xs, nodeRoom x) : ∃ m, Ev (fun k => laws_szScene.f k xs 1048576) m ∧ (0 ≤ m → xs.length ≤ 1048576 ∧ ∀ x ∈ xs, nodeFits x) := by
  have hl2 : xs.length ≤ 9223372036854775807 := Nat.le_trans hl (by decide)
  unfold laws_szScene.f laws_szNodeS.f
  by_cases h : (xs.length : Int) ≤ 1048576
  · obtain ⟨m, e, c⟩ := szNodeS_l xs (by omega) hr xs.length 0 (1048576 - (xs.length : Int)) (by omega) (by omega) (by omega)
    by_cases hm : m < 0
    · refine ⟨-1, ?_, by omega⟩
      simp only [w64 (x := 1048576 - (xs.length : Int)) (by omega) (by omega), if_neg (show ¬ (1048576 - (xs.length : Int) < 0) by omega)]
      refine Ev.bind e ?_
      simp only [if_pos hm]
      exact Ev.now _
    · refine ⟨m, ?_, fun _ => ⟨by omega, by simpa using c (by omega)⟩⟩
      simp only [w64 (x := 1048576 - (xs.length : Int)) (by omega) (by omega), if_neg (show ¬ (1048576 - (xs.length : Int) < 0) by omega)]
      refine Ev.bind e ?_
      simp only [if_neg hm]
      exact Ev.now _
  · refine ⟨-1, ?_, by omega⟩
    simp only [w64 (x := 1048576 - (xs.length : Int)) (by omega) (by omega), if_pos (show (1048576 - (xs.length : Int) < 0) by omega), Option.bind_some]
    exact Ev.now _
theorem toNodeS_l (xs : List S118) (hn : xs.length ≤ 1048576) (hf : ∀ x ∈ xs, nodeFits x) : ∀ (d i : Nat) (x3 : List S69), x3.length = xs.length → i + d = xs.length →
    Ev (fun k => laws_toNodeS.l0 k xs x3 (i : Int)) (x3.take i ++ (xs.drop i).map convNode) := by
  intro d
  induction d with
  | zero =>
    intro i x3 hl hi
    refine ev_done (fun k => ?_)
    simp only [laws_toNodeS.l0]
    rw [if_neg (by omega), List.take_of_length_le (by omega), List.drop_of_length_le (by omega)]
    simp
  | succ d ih =>
    intro i x3 hl hi
    have hi2 : i < xs.length := by omega
    have e := rd_laws_Node xs i hi2
    obtain ⟨f1, f2, f3, f4, f5⟩ := hf _ (List.getElem_mem hi2)
    have h := ih (i + 1) (x3.set i (convNode xs[i])) (by simpa using hl) (by omega)
    rw [take_set_succ _ _ _ (by omega)] at h
    rw [List.drop_eq_getElem_cons hi2]
    rw [List.append_assoc] at h
    refine Ev.step (f := _) (fun k => by simp only [laws_toNodeS.l0, e]; rw [if_pos (by omega), if_pos (by omega)]) ?_
    simp only [laws_toNode.f, laws_toMat.f, laws_toPaint.f, laws_toColor.f, laws_toPoint.f, Option.bind_some, Option.bind_assoc]
    refine Ev.bind (toPath_v _ _ f1 f2) (Ev.bind (laws_toIntS_w _ f3) (Ev.bind (toPath_v _ _ f4 f5) ?_))
    simp only [Option.bind_some, step64 hi2 (show xs.length ≤ 4611686018427387904 by omega), if_pos (show (i : Int) < (x3.length : Int) by omega), Int.toNat_natCast]
    exact h
theorem toScene_v (xs : List S118) (hn : xs.length ≤ 1048576) (hf : ∀ x ∈ xs, nodeFits x) : Ev (fun k => laws_toScene.f k xs) (xs.map convNode) := by
  have h := toNodeS_l xs hn hf xs.length 0 (List.replicate xs.length z69) (by simp) (by omega)
  unfold laws_toScene.f
  refine Ev.bind (a := xs.map convNode) ?_ (Ev.now _)
  refine Ev.congr (fun k => ?_) (by simpa using h)
  unfold laws_toNodeS.f
  rw [if_pos (by omega), if_pos (by omega)]
  simp
theorem eqNodeS_l (xs : List S69) (hn : xs.length ≤ 1048576) (hf : ∀ x ∈ xs, nodeFitsI x) : ∀ (d i : Nat), i + d = xs.length → Ev (fun k => laws_eqNodeS.l0 k xs xs (i : Int)) true := by
  intro d
  induction d with
  | zero =>
    intro i hi
    refine ev_done (fun k => ?_)
    simp only [laws_eqNodeS.l0]
    rw [if_neg (by omega)]
  | succ d ih =>
    intro i hi
    have hi2 : i < xs.length := by omega
    have e := rd_impl_Node xs i hi2
    obtain ⟨f1, f2, f3, f4, f5⟩ := hf _ (List.getElem_mem hi2)
    refine Ev.step (f := _) (fun k => by simp only [laws_eqNodeS.l0, e]; rw [if_pos (by omega), if_pos (by omega), if_pos (by omega)]) ?_
    simp only [laws_eqNode.f, laws_eqMat.f, laws_eqPaint.f, laws_eqColor.f, laws_eqPoint.f, bne_self_eq_false, Bool.false_eq_true, if_true, if_false, Option.bind_some, Option.bind_assoc]
    refine Ev.bind (eqPath_v _ _ f1 f2) ?_
    simp only [if_true, Option.bind_assoc]
    refine Ev.bind (laws_eqIntS_v _ f3) ?_
    simp only [if_true, Option.bind_assoc]
    refine Ev.bind (eqPath_v _ _ f4 f5) ?_
    simp only [if_true, Option.bind_some, step64 hi2 (show xs.length ≤ 4611686018427387904 by omega)]
    exact ih (i + 1) (by omega)
theorem eqScene_v (xs : List S69) (hn : xs.length ≤ 1048576) (hf : ∀ x ∈ xs, nodeFitsI x) : Ev (fun k => laws_eqScene.f k xs xs) true := by
  unfold laws_eqScene.f laws_eqNodeS.f
  simp only [if_true]
  refine Ev.bind (eqNodeS_l xs hn hf xs.length 0 (by omega)) ?_
  simp only [if_true]
  exact Ev.now _

/-! NodeAt -/
def nodeAtP : List S69 → Int → Int → Int
  | [], _, _ => -1
  | x :: t, id, i => if x.f0 = id then i else nodeAtP t id (i + 1)
theorem nodeAtP_bd : ∀ (t : List S69) (id i : Int), 0 ≤ i → nodeAtP t id i = -1 ∨ (i ≤ nodeAtP t id i ∧ nodeAtP t id i < i + t.length)
  | [], _, _, _ => .inl rfl
  | x :: t, id, i, h => by
    unfold nodeAtP
    simp only [List.length_cons]
    split
    · exact .inr ⟨by omega, by omega⟩
    · rcases nodeAtP_bd t id (i + 1) (by omega) with h1 | h1
      · exact .inl h1
      · exact .inr ⟨by omega, by omega⟩
theorem NodeAt_l (xs : List S69) (hn : xs.length ≤ 1048576) (id : Int) : ∀ (d i : Nat), i + d = xs.length →
    Ev (fun k => spec_NodeAt.l0 k id (i : Int) xs) (nodeAtP (xs.drop i) id (i : Int)) ∧ Ev (fun k => impl_Node_NodeAt_1.l0 k xs (xs.length : Int) (i : Int) id) (nodeAtP (xs.drop i) id (i : Int)) := by
  intro d
  induction d with
  | zero =>
    intro i hi
    rw [List.drop_of_length_le (by omega)]
    refine ⟨ev_done (fun k => ?_), ev_done (fun k => ?_)⟩
    · simp only [spec_NodeAt.l0, nodeAtP]
      rw [if_neg (by omega)]
    · simp only [impl_Node_NodeAt_1.l0, nodeAtP]
      rw [if_neg (by omega)]
  | succ d ih =>
    intro i hi
    have hi2 : i < xs.length := by omega
    have e := rd_impl_Node xs i hi2
    rw [List.drop_eq_getElem_cons hi2, nodeAtP]
    by_cases h : (xs[i]).f0 = id
    · rw [if_pos h]
      refine ⟨ev_done (fun k => ?_), ev_done (fun k => ?_)⟩
      · simp only [spec_NodeAt.l0, e]
        rw [if_pos (by omega), if_pos (by omega), if_pos h]
      · simp only [impl_Node_NodeAt_1.l0, impl_NodeAt_1.f, e, h, beq_self_eq_true, Option.bind_some, if_true]
        rw [if_pos (by omega), if_pos (by omega), if_pos (by omega)]
    · rw [if_neg h]
      obtain ⟨h1, h2⟩ := ih (i + 1) (by omega)
      have e2 : (((i + 1 : Nat) : Int)) = (i : Int) + 1 := by omega
      rw [e2] at h1 h2
      refine ⟨Ev.step (fun k => ?_) h1, Ev.step (fun k => ?_) h2⟩
      · simp only [spec_NodeAt.l0, e, step64 hi2 (show xs.length ≤ 4611686018427387904 by omega), e2]
        rw [if_pos (by omega), if_pos (by omega), if_neg h]
      · simp only [impl_Node_NodeAt_1.l0, impl_NodeAt_1.f, e, beq_eq_false_iff_ne.mpr h, Option.bind_some, Bool.false_eq_true, if_false, step64 hi2 (show xs.length ≤ 4611686018427387904 by omega), e2]
        rw [if_pos (by omega), if_pos (by omega), if_pos (by omega)]
theorem NodeAt_v (xs : List S69) (hn : xs.length ≤ 1048576) (id : Int) :
    Ev (fun k => spec_NodeAt.f k xs id) (nodeAtP xs id 0) ∧ Ev (fun k => impl_NodeAt.f k xs id) (nodeAtP xs id 0) := by
  obtain ⟨h1, h2⟩ := NodeAt_l xs hn id xs.length 0 (by omega)
  rw [List.drop_zero] at h1 h2
  refine ⟨h1, ?_⟩
  unfold impl_NodeAt.f impl_Node_NodeAt_1.f
  exact Ev.bind h2 (Ev.now _)

/-! UnderOf -/
theorem Under_l (xs : List S69) (hn : xs.length ≤ 1048576) (top : Int) : ∀ (d : Nat) (i x : Int), i + d = 8 → 0 ≤ i → ∃ b : Bool, Ev (fun k => spec_l15Under.l0 k x top i xs) b ∧ Ev (fun k => impl_Scene_comesTo.l0 k x top i xs) b := by
  intro d
  induction d with
  | zero =>
    intro i x hi h0
    obtain ⟨h1, h2⟩ := NodeAt_v xs hn x
    by_cases hx : x = top
    · refine ⟨true, ev_done (fun k => ?_), ev_done (fun k => ?_)⟩
      · simp only [spec_l15Under.l0]
        rw [if_pos (by omega), if_pos hx]
      · simp only [impl_Scene_comesTo.l0]
        rw [if_neg (by omega), hx, beq_self_eq_true]
    · refine ⟨false, ?_, ev_done (fun k => ?_)⟩
      · refine Ev.step (f := _) (fun k => by simp only [spec_l15Under.l0]; rw [if_pos (by omega), if_neg hx]) ?_
        refine Ev.bind h1 ?_
        by_cases hm : nodeAtP xs x 0 < 0
        · simp only [if_pos hm]
          exact Ev.now _
        · rcases nodeAtP_bd xs x 0 (by omega) with hb | hb
          · omega
          · simp only [if_neg hm, if_pos (show 0 ≤ nodeAtP xs x 0 by omega), if_pos (show nodeAtP xs x 0 < (xs.length : Int) by omega), w64 (x := i + 1) (by omega) (by omega)]
            refine ev_done (fun k => ?_)
            simp only [spec_l15Under.l0]
            rw [if_neg (by omega)]
      · simp only [impl_Scene_comesTo.l0]
        rw [if_neg (by omega), beq_eq_false_iff_ne.mpr hx]
  | succ d ih =>
    intro i x hi h0
    obtain ⟨h1, h2⟩ := NodeAt_v xs hn x
    by_cases hx : x = top
    · refine ⟨true, ev_done (fun k => ?_), ?_⟩
      · simp only [spec_l15Under.l0]
        rw [if_pos (by omega), if_pos hx]
      · refine Ev.step (f := _) (fun k => by simp only [impl_Scene_comesTo.l0]; rw [if_pos (by omega)]) ?_
        refine Ev.bind h2 ?_
        simp only [if_pos hx, hx, beq_self_eq_true]
        exact Ev.now _
    · by_cases hm : nodeAtP xs x 0 < 0
      · refine ⟨false, ?_, ?_⟩
        · refine Ev.step (f := _) (fun k => by simp only [spec_l15Under.l0]; rw [if_pos (by omega), if_neg hx]) ?_
          refine Ev.bind h1 ?_
          simp only [if_pos hm]
          exact Ev.now _
        · refine Ev.step (f := _) (fun k => by simp only [impl_Scene_comesTo.l0]; rw [if_pos (by omega)]) ?_
          refine Ev.bind h2 ?_
          simp only [if_neg hx, if_pos hm, beq_eq_false_iff_ne.mpr hx]
          exact Ev.now _
      · have hb : 0 ≤ nodeAtP xs x 0 ∧ nodeAtP xs x 0 < (xs.length : Int) := by
          rcases nodeAtP_bd xs x 0 (by omega) with hb | hb <;> omega
        obtain ⟨b, g1, g2⟩ := ih (i + 1) (rd_T69 xs (nodeAtP xs x 0)).f1 (by omega) (by omega)
        refine ⟨b, ?_, ?_⟩
        · refine Ev.step (f := _) (fun k => by simp only [spec_l15Under.l0]; rw [if_pos (by omega), if_neg hx]) ?_
          refine Ev.bind h1 ?_
          simp only [if_neg hm, if_pos hb.1, if_pos hb.2, w64 (x := i + 1) (by omega) (by omega)]
          exact g1
        · refine Ev.step (f := _) (fun k => by simp only [impl_Scene_comesTo.l0]; rw [if_pos (by omega)]) ?_
          refine Ev.bind h2 ?_
          simp only [if_neg hx, if_neg hm, if_pos hb.1, if_pos hb.2, w64 (x := i + 1) (by omega) (by omega)]
          exact g2
theorem UnderOf_l (xs : List S69) (hn : xs.length ≤ 1048576) (id : Int) : ∀ (d i : Nat) (acc : List Int), i + d = xs.length → acc.length ≤ i → ∃ r : List Int, Ev (fun k => spec_UnderOf.l0 k id acc (i : Int) xs) r ∧ Ev (fun k => impl_UnderOf.l0 k id acc xs (xs.length : Int) (i : Int) xs) r ∧ r.length ≤ xs.length := by
  intro d
  induction d with
  | zero =>
    intro i acc hi ha
    refine ⟨acc, ev_done (fun k => ?_), ev_done (fun k => ?_), by omega⟩
    · simp only [spec_UnderOf.l0]
      rw [if_neg (by omega)]
    · simp only [impl_UnderOf.l0]
      rw [if_neg (by omega)]
  | succ d ih =>
    intro i acc hi ha
    have hi2 : i < xs.length := by omega
    have e := rd_impl_Node xs i hi2
    obtain ⟨b, g1, g2⟩ := Under_l xs hn id 8 0 xs[i].f0 (by omega) (by omega)
    replace g1 : Ev (fun k => spec_l15Under.f k xs xs[i].f0 id) b := g1
    replace g2 : Ev (fun k => impl_Scene_comesTo.f k xs xs[i].f0 id) b := g2
    have hst := step64 hi2 (show xs.length ≤ 4611686018427387904 by omega)
    cases b with
    | true =>
      obtain ⟨r, k1, k2, k3⟩ := ih (i + 1) (acc ++ [xs[i].f0]) (by omega) (by simp; omega)
      refine ⟨r, Ev.step (fun k => rfl) ?_, Ev.step (fun k => rfl) ?_, k3⟩
      · simp only [spec_UnderOf.l0, e, if_pos (show (i : Int) < (xs.length : Int) by omega), if_pos (show (0 : Int) ≤ (i : Int) by omega), hst]
        refine Ev.bind g1 ?_
        simp only [if_true, if_pos (show acc.length < 17592186044416 by omega)]
        exact k1
      · simp only [impl_UnderOf.l0, e, if_pos (show (i : Int) < (xs.length : Int) by omega), if_pos (show (0 : Int) ≤ (i : Int) by omega), hst]
        refine Ev.bind g2 ?_
        simp only [if_true, if_pos (show acc.length < 17592186044416 by omega)]
        exact k2
    | false =>
      obtain ⟨r, k1, k2, k3⟩ := ih (i + 1) acc (by omega) (by omega)
      refine ⟨r, Ev.step (fun k => rfl) ?_, Ev.step (fun k => rfl) ?_, k3⟩
      · simp only [spec_UnderOf.l0, e, if_pos (show (i : Int) < (xs.length : Int) by omega), if_pos (show (0 : Int) ≤ (i : Int) by omega), hst]
        refine Ev.bind g1 ?_
        simp only [Bool.false_eq_true, if_false]
        exact k1
      · simp only [impl_UnderOf.l0, e, if_pos (show (i : Int) < (xs.length : Int) by omega), if_pos (show (0 : Int) ≤ (i : Int) by omega), hst]
        refine Ev.bind g2 ?_
        simp only [Bool.false_eq_true, if_false]
        exact k2
theorem UnderOf_v (xs : List S69) (hn : xs.length ≤ 1048576) (id : Int) : ∃ r : List Int, Ev (fun k => spec_UnderOf.f k xs id) r ∧ Ev (fun k => impl_UnderOf.f k xs id) r ∧ r.length ≤ 1048576 := by
  obtain ⟨h1, h2⟩ := NodeAt_v xs hn id
  unfold spec_UnderOf.f impl_UnderOf.f
  simp only [Option.bind_some]
  by_cases hm : nodeAtP xs id 0 < 0
  · refine ⟨[], Ev.bind h1 ?_, Ev.bind h2 ?_, by simp⟩
    · simp only [if_pos hm]
      exact Ev.now _
    · simp only [if_pos hm]
      exact Ev.now _
  · obtain ⟨r, k1, k2, k3⟩ := UnderOf_l xs hn id xs.length 0 [] (by omega) (by simp)
    refine ⟨r, Ev.bind h1 ?_, Ev.bind h2 ?_, by omega⟩
    · simp only [if_neg hm]
      exact k1
    · simp only [if_neg hm]
      exact k2

/-! marksInt -/
def marksInt : Nat → Int → List Int
  | 0, _ => []
  | n + 1, c => c :: marksInt n (c + 1)
theorem marksInt_length : ∀ (n : Nat) (c : Int), (marksInt n c).length = n
  | 0, _ => rfl
  | n + 1, c => by rw [marksInt, List.length_cons, marksInt_length n]

/-! laws_markIntS -/
theorem laws_markIntS_l : ∀ (d i : Nat) (x0 : List Int) (c : Int), x0.length ≤ 4194304 → i + d = x0.length → 0 ≤ c → c + 1 * (d : Int) ≤ 1152921504606846976 →
    Ev (fun k => laws_markIntS.l0 k x0 c (i : Int)) (c + 1 * (d : Int), x0.take i ++ marksInt d c) := by
  intro d
  induction d with
  | zero =>
    intro i x0 c hn hi h0 h1
    refine ev_done (fun k => ?_)
    simp only [laws_markIntS.l0]
    rw [if_neg (by omega), List.take_of_length_le (by omega)]
    simp [marksInt]
  | succ d ih =>
    intro i x0 c hn hi h0 h1
    have hi2 : i < x0.length := by omega
    have e1 : wrap64 (c + 1) = c + 1 := by rw [w64 (by omega) (by omega)] <;> omega
    refine Ev.step (f := fun k => laws_markIntS.l0 k (x0.set i c) (c + 1) ((i + 1 : Nat) : Int)) (fun k => ?_) ?_
    · simp only [laws_markIntS.l0, Option.bind_some, Int.toNat_natCast, List.set_set, e1, step64 hi2 (show x0.length ≤ 4611686018427387904 by omega)]
      rw [if_pos (by omega), if_pos (by omega)]
    · have h := ih (i + 1) (x0.set i c) (c + 1) (by simpa using hn) (by simp; omega) (by omega) (by omega)
      rw [take_set_succ _ _ _ (by omega), List.append_assoc] at h
      have e : c + 1 * ((d + 1 : Nat) : Int) = c + 1 + 1 * (d : Int) := by omega
      rw [e]
      exact h
theorem laws_markIntS_v (x0 : List Int) (c : Int) (hn : x0.length ≤ 4194304) (h0 : 0 ≤ c) (h1 : c ≤ 1125899906842624) : Ev (fun k => laws_markIntS.f k x0 c) (c + 1 * (x0.length : Int), marksInt x0.length c) := by
  have h := laws_markIntS_l x0.length 0 x0 c hn (by omega) h0 (by omega)
  exact h

/-! marksPoint -/
def marksPoint : Nat → Int → List S29
  | 0, _ => []
  | n + 1, c => ⟨c, c + 1⟩ :: marksPoint n (c + 2)
theorem marksPoint_length : ∀ (n : Nat) (c : Int), (marksPoint n c).length = n
  | 0, _ => rfl
  | n + 1, c => by rw [marksPoint, List.length_cons, marksPoint_length n]

/-! rd_impl_Point -/
theorem rd_impl_Point (xs : List S29) (i : Nat) (h : i < xs.length) : rd_T29 xs (i : Int) = xs[i] := by
  unfold rd_T29
  simp [h]

/-! laws_markPointS -/
theorem laws_markPointS_l : ∀ (d i : Nat) (x0 : List S29) (c : Int), x0.length ≤ 4194304 → i + d = x0.length → 0 ≤ c → c + 2 * (d : Int) ≤ 1152921504606846976 →
    Ev (fun k => laws_markPointS.l0 k x0 c (i : Int)) (c + 2 * (d : Int), x0.take i ++ marksPoint d c) := by
  intro d
  induction d with
  | zero =>
    intro i x0 c hn hi h0 h1
    refine ev_done (fun k => ?_)
    simp only [laws_markPointS.l0]
    rw [if_neg (by omega), List.take_of_length_le (by omega)]
    simp [marksPoint]
  | succ d ih =>
    intro i x0 c hn hi h0 h1
    have hi2 : i < x0.length := by omega
    have e1 : wrap64 (c + 1) = c + 1 := by rw [w64 (by omega) (by omega)] <;> omega
    have e2 : wrap64 (c + 1 + 1) = c + 2 := by rw [w64 (by omega) (by omega)] <;> omega
    have hs : ∀ v, rd_T29 (x0.set i v) (i : Int) = v := fun v => by rw [rd_impl_Point _ _ (by simpa using hi2)]; simp
    refine Ev.step (f := fun k => laws_markPointS.l0 k (x0.set i ⟨c, c + 1⟩) (c + 2) ((i + 1 : Nat) : Int)) (fun k => ?_) ?_
    · simp only [laws_markPointS.l0, Option.bind_some, Int.toNat_natCast, List.set_set, hs, e1, e2, step64 hi2 (show x0.length ≤ 4611686018427387904 by omega)]
      rw [if_pos (by omega), if_pos (by omega)]
    · have h := ih (i + 1) (x0.set i ⟨c, c + 1⟩) (c + 2) (by simpa using hn) (by simp; omega) (by omega) (by omega)
      rw [take_set_succ _ _ _ (by omega), List.append_assoc] at h
      have e : c + 2 * ((d + 1 : Nat) : Int) = c + 2 + 2 * (d : Int) := by omega
      rw [e]
      exact h
theorem laws_markPointS_v (x0 : List S29) (c : Int) (hn : x0.length ≤ 4194304) (h0 : 0 ≤ c) (h1 : c ≤ 1125899906842624) : Ev (fun k => laws_markPointS.f k x0 c) (c + 2 * (x0.length : Int), marksPoint x0.length c) := by
  have h := laws_markPointS_l x0.length 0 x0 c hn (by omega) h0 (by omega)
  exact h

/-! MarkScene -/
theorem inc9 (c : Int) (h0 : 0 ≤ c) (h1 : c ≤ 4000000000000000000) : (wrap64 ((wrap64 ((wrap64 ((wrap64 ((wrap64 ((wrap64 ((wrap64 ((wrap64 ((wrap64 (c + 1)) + 1)) + 1)) + 1)) + 1)) + 1)) + 1)) + 1)) + 1)) = c + 9 := by
  rw [w64 (x := c + 1) (by omega) (by omega), w64 (x := c + 1 + 1) (by omega) (by omega), w64 (x := c + 1 + 1 + 1) (by omega) (by omega), w64 (x := c + 1 + 1 + 1 + 1) (by omega) (by omega), w64 (x := c + 1 + 1 + 1 + 1 + 1) (by omega) (by omega), w64 (x := c + 1 + 1 + 1 + 1 + 1 + 1) (by omega) (by omega), w64 (x := c + 1 + 1 + 1 + 1 + 1 + 1 + 1) (by omega) (by omega), w64 (x := c + 1 + 1 + 1 + 1 + 1 + 1 + 1 + 1) (by omega) (by omega), w64 (x := c + 1 + 1 + 1 + 1 + 1 + 1 + 1 + 1 + 1) (by omega) (by omega)]
  omega
theorem inc2 (c : Int) (h0 : 0 ≤ c) (h1 : c ≤ 4000000000000000000) : (wrap64 ((wrap64 (c + 1)) + 1)) = c + 2 := by
  rw [w64 (x := c + 1) (by omega) (by omega), w64 (x := c + 1 + 1) (by omega) (by omega)]
  omega
theorem inc15 (c : Int) (h0 : 0 ≤ c) (h1 : c ≤ 4000000000000000000) : (wrap64 ((wrap64 ((wrap64 ((wrap64 ((wrap64 ((wrap64 ((wrap64 ((wrap64 ((wrap64 ((wrap64 ((wrap64 ((wrap64 ((wrap64 ((wrap64 ((wrap64 (c + 1)) + 1)) + 1)) + 1)) + 1)) + 1)) + 1)) + 1)) + 1)) + 1)) + 1)) + 1)) + 1)) + 1)) + 1)) = c + 15 := by
  rw [w64 (x := c + 1) (by omega) (by omega), w64 (x := c + 1 + 1) (by omega) (by omega), w64 (x := c + 1 + 1 + 1) (by omega) (by omega), w64 (x := c + 1 + 1 + 1 + 1) (by omega) (by omega), w64 (x := c + 1 + 1 + 1 + 1 + 1) (by omega) (by omega), w64 (x := c + 1 + 1 + 1 + 1 + 1 + 1) (by omega) (by omega), w64 (x := c + 1 + 1 + 1 + 1 + 1 + 1 + 1) (by omega) (by omega), w64 (x := c + 1 + 1 + 1 + 1 + 1 + 1 + 1 + 1) (by omega) (by omega), w64 (x := c + 1 + 1 + 1 + 1 + 1 + 1 + 1 + 1 + 1) (by omega) (by omega), w64 (x := c + 1 + 1 + 1 + 1 + 1 + 1 + 1 + 1 + 1 + 1) (by omega) (by omega), w64 (x := c + 1 + 1 + 1 + 1 + 1 + 1 + 1 + 1 + 1 + 1 + 1) (by omega) (by omega), w64 (x := c + 1 + 1 + 1 + 1 + 1 + 1 + 1 + 1 + 1 + 1 + 1 + 1) (by omega) (by omega), w64 (x := c + 1 + 1 + 1 + 1 + 1 + 1 + 1 + 1 + 1 + 1 + 1 + 1 + 1) (by omega) (by omega), w64 (x := c + 1 + 1 + 1 + 1 + 1 + 1 + 1 + 1 + 1 + 1 + 1 + 1 + 1 + 1) (by omega) (by omega), w64 (x := c + 1 + 1 + 1 + 1 + 1 + 1 + 1 + 1 + 1 + 1 + 1 + 1 + 1 + 1 + 1) (by omega) (by omega)]
  omega
theorem markNodeS_l (xs : List S69) (hn : xs.length ≤ 1048576) (hf : ∀ x ∈ xs, nodeFitsI x) : ∀ (d i : Nat) (c : Int), i + d = xs.length → 0 ≤ c → c + 8000000 * (d : Int) ≤ 1125899906842624 → ∃ K, Ev (fun k => laws_markNodeS.l0 k xs c (i : Int)) K ∧ 0 ≤ K := by
  intro d
  induction d with
  | zero =>
    intro i c hi h0 h1
    refine ⟨c, ev_done (fun k => ?_), h0⟩
    simp only [laws_markNodeS.l0]
    rw [if_neg (by omega)]
  | succ d ih =>
    intro i c hi h0 h1
    have hi2 : i < xs.length := by omega
    have e := rd_impl_Node xs i hi2
    obtain ⟨f1, f2, f3, f4, f5⟩ := hf _ (List.getElem_mem hi2)
    have m1 := laws_markIntS_v xs[i].f4.f0 (c + 9) (by omega) (by omega) (by omega)
    have m2 := laws_markPointS_v xs[i].f4.f1 (c + 9 + 1 * (xs[i].f4.f0.length : Int)) (by omega) (by omega) (by omega)
    have m3 := laws_markIntS_v xs[i].f7 (c + 9 + 1 * (xs[i].f4.f0.length : Int) + 2 * (xs[i].f4.f1.length : Int) + 2) (by omega) (by omega) (by omega)
    have m4 := laws_markIntS_v xs[i].f11.f0 (c + 9 + 1 * (xs[i].f4.f0.length : Int) + 2 * (xs[i].f4.f1.length : Int) + 2 + 1 * (xs[i].f7.length : Int) + 15) (by omega) (by omega) (by omega)
    have m5 := laws_markPointS_v xs[i].f11.f1 (c + 9 + 1 * (xs[i].f4.f0.length : Int) + 2 * (xs[i].f4.f1.length : Int) + 2 + 1 * (xs[i].f7.length : Int) + 15 + 1 * (xs[i].f11.f0.length : Int)) (by omega) (by omega) (by omega)
    obtain ⟨K, k1, k2⟩ := ih (i + 1) (c + 9 + 1 * (xs[i].f4.f0.length : Int) + 2 * (xs[i].f4.f1.length : Int) + 2 + 1 * (xs[i].f7.length : Int) + 15 + 1 * (xs[i].f11.f0.length : Int) + 2 * (xs[i].f11.f1.length : Int)) (by omega) (by omega) (by omega)
    refine ⟨K, ?_, k2⟩
    refine Ev.step (fun k => rfl) ?_
    simp only [laws_markNodeS.l0, e, if_pos (show (i : Int) < (xs.length : Int) by omega), if_pos (show (0 : Int) ≤ (i : Int) by omega), step64 hi2 (show xs.length ≤ 4611686018427387904 by omega), inc9 c h0 (by omega)]
    refine Ev.bind m1 (Ev.bind m2 ?_)
    simp only [inc2 (c + 9 + 1 * (xs[i].f4.f0.length : Int) + 2 * (xs[i].f4.f1.length : Int)) (by omega) (by omega)]
    refine Ev.bind m3 ?_
    simp only [inc15 (c + 9 + 1 * (xs[i].f4.f0.length : Int) + 2 * (xs[i].f4.f1.length : Int) + 2 + 1 * (xs[i].f7.length : Int)) (by omega) (by omega)]
    exact Ev.bind m4 (Ev.bind m5 k1)
theorem markScene_v (xs : List S69) (hn : xs.length ≤ 1048576) (hf : ∀ x ∈ xs, nodeFitsI x) : ∃ K, Ev (fun k => laws_markScene.f k xs 1) K ∧ 0 ≤ K :=
  markNodeS_l xs hn hf xs.length 0 1 (by omega) (by omega) (by omega)

/-! laws_heldIntS -/
theorem laws_heldIntS_l : ∀ (d i : Nat) (x0 : List Int) (c : Int), x0.length ≤ 4194304 → i + d = x0.length → 0 ≤ c → c + 1 * (d : Int) ≤ 1152921504606846976 → x0.drop i = marksInt d c →
    Ev (fun k => laws_heldIntS.l0 k x0 c (i : Int)) (c + 1 * (d : Int)) := by
  intro d
  induction d with
  | zero =>
    intro i x0 c hn hi h0 h1 hd
    refine ev_done (fun k => ?_)
    simp only [laws_heldIntS.l0]
    rw [if_neg (by omega)]
    simp
  | succ d ih =>
    intro i x0 c hn hi h0 h1 hd
    have hi2 : i < x0.length := by omega
    rw [List.drop_eq_getElem_cons hi2, marksInt] at hd
    obtain ⟨hx, hd⟩ := List.cons.inj hd
    have e1 : wrap64 (c + 1) = c + 1 := by rw [w64 (by omega) (by omega)] <;> omega
    have e : c + 1 * ((d + 1 : Nat) : Int) = c + 1 + 1 * (d : Int) := by omega
    rw [e]
    refine Ev.step (fun k => ?_) (ih (i + 1) x0 (c + 1) hn (by omega) (by omega) (by omega) hd)
    simp only [laws_heldIntS.l0, rd_int _ _ hi2, hx, e1, if_true, step64 hi2 (show x0.length ≤ 4611686018427387904 by omega)]
    rw [if_pos (by omega), if_pos (by omega)]
theorem laws_heldIntS_v (n : Nat) (c : Int) (hn : n ≤ 4194304) (h0 : 0 ≤ c) (h1 : c ≤ 1125899906842624) : Ev (fun k => laws_heldIntS.f k (marksInt n c) c) (c + 1 * (n : Int)) :=
  laws_heldIntS_l n 0 (marksInt n c) c (by rw [marksInt_length]; exact hn) (by rw [marksInt_length]; omega) h0 (by omega) rfl

/-! law_FnExactUnderOf -/
theorem pure : PureS := by
  intro l x hl wx
  have hr : ∀ y ∈ l, nodeRoom y := fun y hy => by
    obtain ⟨_, _, _, _, h4, _, _, h7, _, _, _, h11⟩ := hl.2 y hy
    exact ⟨h4.1.1, h4.2.1, h7.1, h11.1.1, h11.2.1⟩
  obtain ⟨m, hz, hc⟩ := szScene_v l hl.1 hr
  refine Ev.rounds ?_
  unfold laws_FnExactUnderOf.f
  refine Ev.bind hz ?_
  by_cases hm : m < 0
  · simp only [if_pos hm]
    exact Ev.now true
  · obtain ⟨hn, hf⟩ := hc (by omega)
    have ht := toScene_v l hn hf
    have hn2 : (l.map convNode).length ≤ 1048576 := by simpa using hn
    have hfi : ∀ y ∈ l.map convNode, nodeFitsI y := fun y hy => by
      obtain ⟨z, hz, rfl⟩ := List.mem_map.mp hy
      exact convNode_fits (hf z hz)
    have he := eqScene_v (l.map convNode) hn2 hfi
    obtain ⟨K, hM, hK⟩ := markScene_v (l.map convNode) hn2 hfi
    simp only [if_neg hm]
    obtain ⟨r, h1, h2, hr2⟩ := UnderOf_v (l.map convNode) hn2 x
    have hq := laws_eqIntS_v r hr2
    have hG := laws_markIntS_v r 1 (by omega) (by omega) (by omega)
    have hH := laws_heldIntS_v r.length 1 (by omega) (by omega) (by omega)
    refine Ev.bind ht (Ev.bind h1 (Ev.bind ht (Ev.bind h2 (Ev.bind hq ?_))))
    simp only [if_true]
    refine Ev.bind ht (Ev.bind he ?_)
    simp only [if_true]
    refine Ev.bind hM ?_
    simp only [if_neg (show ¬ K < 0 by omega)]
    refine Ev.bind hq ?_
    simp only [Bool.not_true]
    refine Ev.step (fun k => rfl) ?_
    simp only [laws_FnExactUnderOf.j0, Bool.false_eq_true, if_false]
    refine Ev.bind hG (Ev.bind hH ?_)
    simp only [if_neg (show ¬ (1 + 1 * (r.length : Int) < 0) by omega), if_true]
    refine Ev.bind ht (Ev.bind h2 (Ev.bind hq ?_))
    simp only [if_true]
    refine Ev.bind hH ?_
    simp only [if_neg (show ¬ (1 + 1 * (r.length : Int) < 0) by omega), if_true]
    exact Ev.now true

end Go.Proofs.Ytjfienkbcacijaa.QFnExactUnderOf
