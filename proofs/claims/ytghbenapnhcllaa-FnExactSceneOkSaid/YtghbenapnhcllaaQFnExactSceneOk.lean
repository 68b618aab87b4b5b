/- The pure statement of the law FnExactSceneOk, for every input: what the printed functions compute makes the law answer true. No conditions beyond what the row reads. -/
import Derived.Test.YtghbenapnhcllaaTFnExactSceneOk
namespace Go.Proofs.Ytghbenapnhcllaa.QFnExactSceneOk
open Go.RowKit Go.Proofs.Ytghbenapnhcllaa.MFnExactSceneOk Go.Proofs.Ytghbenapnhcllaa.TFnExactSceneOk Go.Proofs.YtghbenapnhcllaaW.PrintWords Go.Proofs.YtghbenapnhcllaaW.PrintLast
set_option linter.unusedVariables false
set_option linter.unusedSimpArgs false

/-! base -/
theorem w64 {x : Int} (h1 : -9223372036854775808 ≤ x) (h2 : x ≤ 9223372036854775807) : wrap64 x = x := by
  unfold wrap64
  omega

theorem wf64 {x : Int} (h : (Lit.int .i64 x).wf = true) : -9223372036854775808 ≤ x ∧ x ≤ 9223372036854775807 := by
  have h2 : (decide (IntKind.i64.min ≤ x) && decide (x ≤ IntKind.i64.max)) = true := h
  rw [Bool.and_eq_true, decide_eq_true_eq, decide_eq_true_eq] at h2
  exact ⟨h2.1, h2.2⟩

theorem take_set_succ {α : Type} (xs : List α) (i : Nat) (v : α) (h : i < xs.length) : (xs.set i v).take (i + 1) = xs.take i ++ [v] := by
  rw [List.take_succ_eq_append_getElem (by simpa using h), List.take_set_of_le (Nat.le_refl i), List.getElem_set_self]

theorem step64 {i n : Nat} (h : i < n) (hn : n ≤ 4611686018427387904) : wrap64 ((i : Int) + 1) = ((i + 1 : Nat) : Int) := by
  rw [w64 (by omega) (by omega)]
  omega

theorem ev_done {α : Type} {g : Nat → Option α} {r : α} (h : ∀ k, g (k + 1) = some r) : Ev g r := Ev.step (f := fun _ => some r) h (Ev.now r)

theorem ev_const {α : Type} {o : Option α} {r : α} (h : o = some r) : Ev (fun _ => o) r := by
  subst h
  exact Ev.now r

/-! laws_szIntS -/
theorem laws_szIntS_v (l : List Int) (a : Int) (h0 : 0 ≤ a) (h1 : a ≤ 1048576) (hl : l.length ≤ maxLen) : laws_szIntS.f l a = some (if (l.length : Int) ≤ a then a - (l.length : Int) else -1) := by
  unfold maxLen at hl
  have hw : wrap64 (a - (l.length : Int)) = a - (l.length : Int) := w64 (by omega) (by omega)
  unfold laws_szIntS.f
  rw [hw]
  by_cases h : (l.length : Int) ≤ a
  · rw [if_neg (by omega), if_pos h]
  · rw [if_pos (by omega), if_neg h]

/-! laws_szPointS -/
theorem laws_szPointS_v (l : List S43) (a : Int) (h0 : 0 ≤ a) (h1 : a ≤ 1048576) (hl : l.length ≤ maxLen) : laws_szPointS.f l a = some (if (l.length : Int) ≤ a then a - (l.length : Int) else -1) := by
  unfold maxLen at hl
  have hw : wrap64 (a - (l.length : Int)) = a - (l.length : Int) := w64 (by omega) (by omega)
  unfold laws_szPointS.f
  rw [hw]
  by_cases h : (l.length : Int) ≤ a
  · rw [if_neg (by omega), if_pos h]
  · rw [if_pos (by omega), if_neg h]

/-! rd_int -/
theorem rd_int (xs : List Int) (i : Nat) (h : i < xs.length) : rd xs (i : Int) = xs[i] := by
  unfold rd
  simp [h]

/-! laws_toIntS -/
def convInt (x : Int) : Int := x
theorem laws_toIntS_l (x0 : List Int) (hn : x0.length ≤ 1048576) : ∀ (d i : Nat) (x3 : List Int), x3.length = x0.length → i + d = x0.length →
    Ev (fun k => laws_toIntS.l0 k x0 x3 (i : Int)) (x3.take i ++ (x0.drop i).map convInt) := by
  intro d
  induction d with
  | zero =>
    intro i x3 hl hi
    refine ev_done (fun k => ?_)
    simp only [laws_toIntS.l0]
    rw [if_neg (by omega), List.take_of_length_le (by omega), List.drop_of_length_le (by omega)]
    simp
  | succ d ih =>
    intro i x3 hl hi
    have hi2 : i < x0.length := by omega
    refine Ev.step (f := fun k => laws_toIntS.l0 k x0 (x3.set i (convInt x0[i])) ((i + 1 : Nat) : Int)) (fun k => ?_) ?_
    · simp only [laws_toIntS.l0]
      rw [if_pos (by omega), if_pos (by omega), step64 hi2 (by omega), rd_int _ _ hi2]
      rw [if_pos (by omega)]
      rfl
    · have h := ih (i + 1) (x3.set i (convInt x0[i])) (by simpa using hl) (by omega)
      rw [take_set_succ _ _ _ (by omega)] at h
      rw [List.drop_eq_getElem_cons hi2]
      rw [List.append_assoc] at h
      exact h
theorem laws_toIntS_v (x0 : List Int) (hn : x0.length ≤ 1048576) : Ev (fun k => laws_toIntS.f k x0) (x0.map convInt) := by
  have h := laws_toIntS_l x0 hn x0.length 0 (List.replicate x0.length 0) (by simp) (by omega)
  refine Ev.congr (fun k => ?_) (by simpa using h)
  unfold laws_toIntS.f
  rw [if_pos (by omega), if_pos (by omega)]
  simp
theorem laws_toIntS_w (x0 : List Int) (hn : x0.length ≤ 1048576) : Ev (fun k => laws_toIntS.f k x0) x0 := by
  have h := laws_toIntS_v x0 hn
  rw [show x0.map convInt = x0 from (List.map_congr_left (fun _ _ => rfl)).trans (List.map_id x0)] at h
  exact h

/-! rd_laws_Point -/
theorem rd_laws_Point (xs : List S43) (i : Nat) (h : i < xs.length) : rd_T43 xs (i : Int) = xs[i] := by
  unfold rd_T43
  simp [h]

/-! laws_toPointS -/
def convPoint (x : S43) : S52 := ⟨x.f0, x.f1⟩
theorem laws_toPointS_l (x0 : List S43) (hn : x0.length ≤ 1048576) : ∀ (d i : Nat) (x3 : List S52), x3.length = x0.length → i + d = x0.length →
    Ev (fun k => laws_toPointS.l0 k x0 x3 (i : Int)) (x3.take i ++ (x0.drop i).map convPoint) := by
  intro d
  induction d with
  | zero =>
    intro i x3 hl hi
    refine ev_done (fun k => ?_)
    simp only [laws_toPointS.l0]
    rw [if_neg (by omega), List.take_of_length_le (by omega), List.drop_of_length_le (by omega)]
    simp
  | succ d ih =>
    intro i x3 hl hi
    have hi2 : i < x0.length := by omega
    refine Ev.step (f := fun k => laws_toPointS.l0 k x0 (x3.set i (convPoint x0[i])) ((i + 1 : Nat) : Int)) (fun k => ?_) ?_
    · simp only [laws_toPointS.l0, laws_toPoint.f, Option.bind_some]
      rw [if_pos (by omega), if_pos (by omega), step64 hi2 (by omega), rd_laws_Point _ _ hi2]
      rw [if_pos (by omega)]
      rfl
    · have h := ih (i + 1) (x3.set i (convPoint x0[i])) (by simpa using hl) (by omega)
      rw [take_set_succ _ _ _ (by omega)] at h
      rw [List.drop_eq_getElem_cons hi2]
      rw [List.append_assoc] at h
      exact h
theorem laws_toPointS_v (x0 : List S43) (hn : x0.length ≤ 1048576) : Ev (fun k => laws_toPointS.f k x0) (x0.map convPoint) := by
  have h := laws_toPointS_l x0 hn x0.length 0 (List.replicate x0.length z52) (by simp) (by omega)
  refine Ev.congr (fun k => ?_) (by simpa using h)
  unfold laws_toPointS.f
  rw [if_pos (by omega), if_pos (by omega)]
  simp

/-! laws_eqIntS -/
theorem laws_eqIntS_l (x0 : List Int) (hn : x0.length ≤ 1048576) : ∀ (d i : Nat), i + d = x0.length → Ev (fun k => laws_eqIntS.l0 k x0 x0 (i : Int)) true := by
  intro d
  induction d with
  | zero =>
    intro i hi
    refine ev_done (fun k => ?_)
    simp only [laws_eqIntS.l0]
    rw [if_neg (by omega)]
  | succ d ih =>
    intro i hi
    have hi2 : i < x0.length := by omega
    refine Ev.step (fun k => ?_) (ih (i + 1) (by omega))
    simp only [laws_eqIntS.l0]
    rw [if_pos (by omega), if_pos (by omega), if_pos (by omega), step64 hi2 (by omega)]
    simp
theorem laws_eqIntS_v (x0 : List Int) (hn : x0.length ≤ 1048576) : Ev (fun k => laws_eqIntS.f k x0 x0) true := by
  refine Ev.congr (fun k => ?_) (laws_eqIntS_l x0 hn x0.length 0 (by omega))
  unfold laws_eqIntS.f
  rw [if_pos rfl]
  rfl

/-! laws_eqPointS -/
theorem laws_eqPointS_l (x0 : List S52) (hn : x0.length ≤ 1048576) : ∀ (d i : Nat), i + d = x0.length → Ev (fun k => laws_eqPointS.l0 k x0 x0 (i : Int)) true := by
  intro d
  induction d with
  | zero =>
    intro i hi
    refine ev_done (fun k => ?_)
    simp only [laws_eqPointS.l0]
    rw [if_neg (by omega)]
  | succ d ih =>
    intro i hi
    have hi2 : i < x0.length := by omega
    refine Ev.step (fun k => ?_) (ih (i + 1) (by omega))
    simp only [laws_eqPointS.l0, laws_eqPoint.f]
    rw [if_pos (by omega), if_pos (by omega), if_pos (by omega), step64 hi2 (by omega)]
    simp
theorem laws_eqPointS_v (x0 : List S52) (hn : x0.length ≤ 1048576) : Ev (fun k => laws_eqPointS.f k x0 x0) true := by
  refine Ev.congr (fun k => ?_) (laws_eqPointS_l x0 hn x0.length 0 (by omega))
  unfold laws_eqPointS.f
  rw [if_pos rfl]
  rfl

/-! PathM -/
theorem szInt_m (l : List Int) (n : Int) (h0 : 0 ≤ n) (h1 : n ≤ 1048576) (hl : l.length ≤ maxLen) : ∃ m, laws_szIntS.f l n = some m ∧ m ≤ n ∧ (0 ≤ m → l.length ≤ 1048576) := by
  refine ⟨_, laws_szIntS_v l n h0 h1 hl, ?_, ?_⟩
  · split <;> omega
  · split <;> omega
theorem szPoint_m (l : List S43) (n : Int) (h0 : 0 ≤ n) (h1 : n ≤ 1048576) (hl : l.length ≤ maxLen) : ∃ m, laws_szPointS.f l n = some m ∧ m ≤ n ∧ (0 ≤ m → l.length ≤ 1048576) := by
  refine ⟨_, laws_szPointS_v l n h0 h1 hl, ?_, ?_⟩
  · split <;> omega
  · split <;> omega
theorem szPath_m (l : List Int) (p : List S43) (n : Int) (h0 : 0 ≤ n) (h1 : n ≤ 1048576) (hl : l.length ≤ maxLen) (hp : p.length ≤ maxLen) : ∃ m, laws_szPath.f l p n = some m ∧ m ≤ n ∧ (0 ≤ m → l.length ≤ 1048576 ∧ p.length ≤ 1048576) := by
  obtain ⟨m, e1, b1, c1⟩ := szInt_m l n h0 h1 hl
  unfold laws_szPath.f
  rw [e1, Option.bind_some]
  by_cases hm : m < 0
  · rw [if_pos hm]
    exact ⟨-1, rfl, by omega, by omega⟩
  · rw [if_neg hm]
    obtain ⟨q, e2, b2, c2⟩ := szPoint_m p m (by omega) (by omega) hp
    rw [e2, Option.bind_some]
    by_cases hq : q < 0
    · rw [if_pos hq]
      exact ⟨-1, rfl, by omega, by omega⟩
    · rw [if_neg hq]
      exact ⟨q, rfl, by omega, fun _ => ⟨c1 (by omega), c2 (by omega)⟩⟩
theorem toPath_v (l : List Int) (p : List S43) (hl : l.length ≤ 1048576) (hp : p.length ≤ 1048576) : Ev (fun k => laws_toPath.f k l p) (l, p.map convPoint) := by
  unfold laws_toPath.f
  exact Ev.bind (laws_toIntS_w l hl) (Ev.bind (laws_toPointS_v p hp) (Ev.now _))
theorem eqPath_v (l : List Int) (p : List S52) (hl : l.length ≤ 1048576) (hp : p.length ≤ 1048576) : Ev (fun k => laws_eqPath.f k l p l p) true := by
  unfold laws_eqPath.f
  refine Ev.bind (laws_eqIntS_v l hl) ?_
  simp only [if_true]
  refine Ev.bind (laws_eqPointS_v p hp) ?_
  simp only [if_true]
  exact Ev.now _

/-! rd_impl_Node -/
theorem rd_impl_Node (xs : List S56) (i : Nat) (h : i < xs.length) : rd_T56 xs (i : Int) = xs[i] := by
  unfold rd_T56
  simp [h]

/-! rd_laws_Node -/
theorem rd_laws_Node (xs : List S47) (i : Nat) (h : i < xs.length) : rd_T47 xs (i : Int) = xs[i] := by
  unfold rd_T47
  simp [h]

/-! Scene -/
def convNode (x : S47) : S56 :=
  ⟨x.f0, x.f1, x.f2, ⟨x.f3.f0, x.f3.f1, x.f3.f2, x.f3.f3, x.f3.f4, x.f3.f5⟩, ⟨x.f4.f0, x.f4.f1.map convPoint⟩, x.f5, x.f6, x.f7,
    ⟨x.f8.f0, ⟨x.f8.f1.f0, x.f8.f1.f1, x.f8.f1.f2, x.f8.f1.f3⟩, ⟨x.f8.f2.f0, x.f8.f2.f1, x.f8.f2.f2, x.f8.f2.f3⟩, ⟨x.f8.f3.f0, x.f8.f3.f1⟩, ⟨x.f8.f4.f0, x.f8.f4.f1⟩⟩, x.f9, x.f10, ⟨x.f11.f0, x.f11.f1.map convPoint⟩⟩
def nodeFits (x : S47) : Prop := x.f4.f0.length ≤ 1048576 ∧ x.f4.f1.length ≤ 1048576 ∧ x.f7.length ≤ 1048576 ∧ x.f11.f0.length ≤ 1048576 ∧ x.f11.f1.length ≤ 1048576
def nodeFitsI (x : S56) : Prop := x.f4.f0.length ≤ 1048576 ∧ x.f4.f1.length ≤ 1048576 ∧ x.f7.length ≤ 1048576 ∧ x.f11.f0.length ≤ 1048576 ∧ x.f11.f1.length ≤ 1048576
def nodeRoom (x : S47) : Prop := x.f4.f0.length ≤ maxLen ∧ x.f4.f1.length ≤ maxLen ∧ x.f7.length ≤ maxLen ∧ x.f11.f0.length ≤ maxLen ∧ x.f11.f1.length ≤ maxLen
theorem convNode_fits {x : S47} (h : nodeFits x) : nodeFitsI (convNode x) := by
  unfold nodeFits at h
  unfold nodeFitsI convNode
  simpa using h
theorem szNode_m (x : S47) (n : Int) (h0 : 0 ≤ n) (h1 : n ≤ 1048576) (hr : nodeRoom x) :
    ∃ m, laws_szNode.f x.f0 x.f1 x.f2 x.f3.f0 x.f3.f1 x.f3.f2 x.f3.f3 x.f3.f4 x.f3.f5 x.f4.f0 x.f4.f1 x.f5 x.f6 x.f7 x.f8.f0 x.f8.f1.f0 x.f8.f1.f1 x.f8.f1.f2 x.f8.f1.f3 x.f8.f2.f0 x.f8.f2.f1 x.f8.f2.f2 x.f8.f2.f3 x.f8.f3.f0 x.f8.f3.f1 x.f8.f4.f0 x.f8.f4.f1 x.f9 x.f10 x.f11.f0 x.f11.f1 n = some m ∧ m ≤ n ∧ (0 ≤ m → nodeFits x) := by
  obtain ⟨r1, r2, r3, r4, r5⟩ := hr
  obtain ⟨m, e1, b1, c1⟩ := szPath_m x.f4.f0 x.f4.f1 n h0 h1 r1 r2
  unfold laws_szNode.f
  rw [e1, Option.bind_some]
  by_cases hm : m < 0
  · rw [if_pos hm]
    exact ⟨-1, rfl, by omega, by omega⟩
  · rw [if_neg hm]
    obtain ⟨q, e2, b2, c2⟩ := szInt_m x.f7 m (by omega) (by omega) r3
    rw [e2, Option.bind_some]
    by_cases hq : q < 0
    · rw [if_pos hq]
      exact ⟨-1, rfl, by omega, by omega⟩
    · rw [if_neg hq]
      obtain ⟨p, e3, b3, c3⟩ := szPath_m x.f11.f0 x.f11.f1 q (by omega) (by omega) r4 r5
      rw [e3, Option.bind_some]
      by_cases hp : p < 0
      · rw [if_pos hp]
        exact ⟨-1, rfl, by omega, by omega⟩
      · rw [if_neg hp]
        exact ⟨p, rfl, by omega, fun _ => ⟨(c1 (by omega)).1, (c1 (by omega)).2, c2 (by omega), (c3 (by omega)).1, (c3 (by omega)).2⟩⟩
theorem szNodeS_l (xs : List S47) (hn : xs.length ≤ 1048576) (hr : ∀ x ∈ xs, nodeRoom x) : ∀ (d i : Nat) (n : Int), i + d = xs.length → 0 ≤ n → n ≤ 1048576 → ∃ m, Ev (fun k => laws_szNodeS.l0 k xs n (i : Int)) m ∧ (0 ≤ m → ∀ x ∈ xs.drop i, nodeFits x) := by
  intro d
  induction d with
  | zero =>
    intro i n hi h0 h1
    refine ⟨n, ev_done (fun k => ?_), fun _ x hx => ?_⟩
    · simp only [laws_szNodeS.l0]
      rw [if_neg (by omega)]
    · rw [List.drop_of_length_le (by omega)] at hx
      exact absurd hx (by simp)
  | succ d ih =>
    intro i n hi h0 h1
    have hi2 : i < xs.length := by omega
    have e := rd_laws_Node xs i hi2
    obtain ⟨m, e1, b1, c1⟩ := szNode_m (xs[i]) n h0 h1 (hr _ (List.getElem_mem hi2))
    by_cases hm : m < 0
    · refine ⟨-1, ev_done (fun k => ?_), by omega⟩
      simp only [laws_szNodeS.l0, e, e1, Option.bind_some]
      rw [if_pos (by omega), if_pos (by omega), if_pos hm]
    · obtain ⟨q, e2, c2⟩ := ih (i + 1) m (by omega) (by omega) (by omega)
      refine ⟨q, Ev.step (fun k => ?_) e2, fun hq x hx => ?_⟩
      · simp only [laws_szNodeS.l0, e, e1, Option.bind_some, step64 hi2 (show xs.length ≤ 4611686018427387904 by omega)]
        rw [if_pos (by omega), if_pos (by omega), if_neg hm]
      · rw [List.drop_eq_getElem_cons hi2] at hx
        rcases List.mem_cons.mp hx with rfl | hx
        · exact c1 (by omega)
        · exact c2 hq x hx
theorem szScene_v (xs : List S47) (hl : xs.length ≤ maxLen) (hr : ∀ x ∈ xs, nodeRoom x) : ∃ m, Ev (fun k => laws_szScene.f k xs 1048576) m ∧ (0 ≤ m → xs.length ≤ 1048576 ∧ ∀ x ∈ xs, nodeFits x) := by
  have hl2 : xs.length ≤ 9223372036854775807 := Nat.le_trans hl (by decide)
  unfold laws_szScene.f laws_szNodeS.f
  by_cases h : (xs.length : Int) ≤ 1048576
  · obtain ⟨m, e, c⟩ := szNodeS_l xs (by omega) hr xs.length 0 (1048576 - (xs.length : Int)) (by omega) (by omega) (by omega)
    by_cases hm : m < 0
    · refine ⟨-1, ?_, by omega⟩
      simp only [w64 (x := 1048576 - (xs.length : Int)) (by omega) (by omega), if_neg (show ¬ (1048576 - (xs.length : Int) < 0) by omega)]
      refine Ev.bind e ?_
      simp only [if_pos hm]
      exact Ev.now _
    · refine ⟨m, ?_, fun _ => ⟨by omega, by simpa using c (by omega)⟩⟩
      simp only [w64 (x := 1048576 - (xs.length : Int)) (by omega) (by omega), if_neg (show ¬ (1048576 - (xs.length : Int) < 0) by omega)]
      refine Ev.bind e ?_
      simp only [if_neg hm]
      exact Ev.now _
  · refine ⟨-1, ?_, by omega⟩
    simp only [w64 (x := 1048576 - (xs.length : Int)) (by omega) (by omega), if_pos (show (1048576 - (xs.length : Int) < 0) by omega), Option.bind_some]
    exact Ev.now _
theorem toNodeS_l (xs : List S47) (hn : xs.length ≤ 1048576) (hf : ∀ x ∈ xs, nodeFits x) : ∀ (d i : Nat) (x3 : List S56), x3.length = xs.length → i + d = xs.length →
    Ev (fun k => laws_toNodeS.l0 k xs x3 (i : Int)) (x3.take i ++ (xs.drop i).map convNode) := by
  intro d
  induction d with
  | zero =>
    intro i x3 hl hi
    refine ev_done (fun k => ?_)
    simp only [laws_toNodeS.l0]
    rw [if_neg (by omega), List.take_of_length_le (by omega), List.drop_of_length_le (by omega)]
    simp
  | succ d ih =>
    intro i x3 hl hi
    have hi2 : i < xs.length := by omega
    have e := rd_laws_Node xs i hi2
    obtain ⟨f1, f2, f3, f4, f5⟩ := hf _ (List.getElem_mem hi2)
    have h := ih (i + 1) (x3.set i (convNode xs[i])) (by simpa using hl) (by omega)
    rw [take_set_succ _ _ _ (by omega)] at h
    rw [List.drop_eq_getElem_cons hi2]
    rw [List.append_assoc] at h
    refine Ev.step (f := _) (fun k => by simp only [laws_toNodeS.l0, e]; rw [if_pos (by omega), if_pos (by omega)]) ?_
    simp only [laws_toNode.f, laws_toMat.f, laws_toPaint.f, laws_toColor.f, laws_toPoint.f, Option.bind_some, Option.bind_assoc]
    refine Ev.bind (toPath_v _ _ f1 f2) (Ev.bind (laws_toIntS_w _ f3) (Ev.bind (toPath_v _ _ f4 f5) ?_))
    simp only [Option.bind_some, step64 hi2 (show xs.length ≤ 4611686018427387904 by omega), if_pos (show (i : Int) < (x3.length : Int) by omega), Int.toNat_natCast]
    exact h
theorem toScene_v (xs : List S47) (hn : xs.length ≤ 1048576) (hf : ∀ x ∈ xs, nodeFits x) : Ev (fun k => laws_toScene.f k xs) (xs.map convNode) := by
  have h := toNodeS_l xs hn hf xs.length 0 (List.replicate xs.length z56) (by simp) (by omega)
  unfold laws_toScene.f
  refine Ev.bind (a := xs.map convNode) ?_ (Ev.now _)
  refine Ev.congr (fun k => ?_) (by simpa using h)
  unfold laws_toNodeS.f
  rw [if_pos (by omega), if_pos (by omega)]
  simp
theorem eqNodeS_l (xs : List S56) (hn : xs.length ≤ 1048576) (hf : ∀ x ∈ xs, nodeFitsI x) : ∀ (d i : Nat), i + d = xs.length → Ev (fun k => laws_eqNodeS.l0 k xs xs (i : Int)) true := by
  intro d
  induction d with
  | zero =>
    intro i hi
    refine ev_done (fun k => ?_)
    simp only [laws_eqNodeS.l0]
    rw [if_neg (by omega)]
  | succ d ih =>
    intro i hi
    have hi2 : i < xs.length := by omega
    have e := rd_impl_Node xs i hi2
    obtain ⟨f1, f2, f3, f4, f5⟩ := hf _ (List.getElem_mem hi2)
    refine Ev.step (f := _) (fun k => by simp only [laws_eqNodeS.l0, e]; rw [if_pos (by omega), if_pos (by omega), if_pos (by omega)]) ?_
    simp only [laws_eqNode.f, laws_eqMat.f, laws_eqPaint.f, laws_eqColor.f, laws_eqPoint.f, bne_self_eq_false, Bool.false_eq_true, if_true, if_false, Option.bind_some, Option.bind_assoc]
    refine Ev.bind (eqPath_v _ _ f1 f2) ?_
    simp only [if_true, Option.bind_assoc]
    refine Ev.bind (laws_eqIntS_v _ f3) ?_
    simp only [if_true, Option.bind_assoc]
    refine Ev.bind (eqPath_v _ _ f4 f5) ?_
    simp only [if_true, Option.bind_some, step64 hi2 (show xs.length ≤ 4611686018427387904 by omega)]
    exact ih (i + 1) (by omega)
theorem eqScene_v (xs : List S56) (hn : xs.length ≤ 1048576) (hf : ∀ x ∈ xs, nodeFitsI x) : Ev (fun k => laws_eqScene.f k xs xs) true := by
  unfold laws_eqScene.f laws_eqNodeS.f
  simp only [if_true]
  refine Ev.bind (eqNodeS_l xs hn hf xs.length 0 (by omega)) ?_
  simp only [if_true]
  exact Ev.now _

/-! NodeAt -/
def nodeAtP : List S56 → Int → Int → Int
  | [], _, _ => -1
  | x :: t, id, i => if x.f0 = id then i else nodeAtP t id (i + 1)
theorem nodeAtP_bd : ∀ (t : List S56) (id i : Int), 0 ≤ i → nodeAtP t id i = -1 ∨ (i ≤ nodeAtP t id i ∧ nodeAtP t id i < i + t.length)
  | [], _, _, _ => .inl rfl
  | x :: t, id, i, h => by
    unfold nodeAtP
    simp only [List.length_cons]
    split
    · exact .inr ⟨by omega, by omega⟩
    · rcases nodeAtP_bd t id (i + 1) (by omega) with h1 | h1
      · exact .inl h1
      · exact .inr ⟨by omega, by omega⟩
theorem NodeAt_l (xs : List S56) (hn : xs.length ≤ 1048576) (id : Int) : ∀ (d i : Nat), i + d = xs.length →
    Ev (fun k => spec_NodeAt.l0 k id (i : Int) xs) (nodeAtP (xs.drop i) id (i : Int)) ∧ Ev (fun k => impl_Node_NodeAt_1.l0 k xs (xs.length : Int) (i : Int) id) (nodeAtP (xs.drop i) id (i : Int)) := by
  intro d
  induction d with
  | zero =>
    intro i hi
    rw [List.drop_of_length_le (by omega)]
    refine ⟨ev_done (fun k => ?_), ev_done (fun k => ?_)⟩
    · simp only [spec_NodeAt.l0, nodeAtP]
      rw [if_neg (by omega)]
    · simp only [impl_Node_NodeAt_1.l0, nodeAtP]
      rw [if_neg (by omega)]
  | succ d ih =>
    intro i hi
    have hi2 : i < xs.length := by omega
    have e := rd_impl_Node xs i hi2
    rw [List.drop_eq_getElem_cons hi2, nodeAtP]
    by_cases h : (xs[i]).f0 = id
    · rw [if_pos h]
      refine ⟨ev_done (fun k => ?_), ev_done (fun k => ?_)⟩
      · simp only [spec_NodeAt.l0, e]
        rw [if_pos (by omega), if_pos (by omega), if_pos h]
      · simp only [impl_Node_NodeAt_1.l0, impl_NodeAt_1.f, e, h, beq_self_eq_true, Option.bind_some, if_true]
        rw [if_pos (by omega), if_pos (by omega), if_pos (by omega)]
    · rw [if_neg h]
      obtain ⟨h1, h2⟩ := ih (i + 1) (by omega)
      have e2 : (((i + 1 : Nat) : Int)) = (i : Int) + 1 := by omega
      rw [e2] at h1 h2
      refine ⟨Ev.step (fun k => ?_) h1, Ev.step (fun k => ?_) h2⟩
      · simp only [spec_NodeAt.l0, e, step64 hi2 (show xs.length ≤ 4611686018427387904 by omega), e2]
        rw [if_pos (by omega), if_pos (by omega), if_neg h]
      · simp only [impl_Node_NodeAt_1.l0, impl_NodeAt_1.f, e, beq_eq_false_iff_ne.mpr h, Option.bind_some, Bool.false_eq_true, if_false, step64 hi2 (show xs.length ≤ 4611686018427387904 by omega), e2]
        rw [if_pos (by omega), if_pos (by omega), if_pos (by omega)]
theorem NodeAt_v (xs : List S56) (hn : xs.length ≤ 1048576) (id : Int) :
    Ev (fun k => spec_NodeAt.f k xs id) (nodeAtP xs id 0) ∧ Ev (fun k => impl_NodeAt.f k xs id) (nodeAtP xs id 0) := by
  obtain ⟨h1, h2⟩ := NodeAt_l xs hn id xs.length 0 (by omega)
  rw [List.drop_zero] at h1 h2
  refine ⟨h1, ?_⟩
  unfold impl_NodeAt.f impl_Node_NodeAt_1.f
  exact Ev.bind h2 (Ev.now _)

/-! DepthOf -/
theorem DepthOf_l (xs : List S56) (hn : xs.length ≤ 1048576) : ∀ (d : Nat) (i x : Int), i + d = 8 → 0 ≤ i → ¬ x = 0 → ∃ r, Ev (fun k => spec_DepthOf.l0 k x i i xs) r ∧ Ev (fun k => impl_DepthOf.l0 k x (i + 1) xs) r := by
  intro d
  induction d with
  | zero =>
    intro i x hi h0 hx
    obtain ⟨h1, h2⟩ := NodeAt_v xs hn x
    refine ⟨0, ?_, ev_done (fun k => ?_)⟩
    · refine Ev.step (f := _) (fun k => by simp only [spec_DepthOf.l0]; rw [if_pos (by omega), if_neg hx]) ?_
      refine Ev.bind h1 ?_
      by_cases hm : nodeAtP xs x 0 < 0
      · simp only [if_pos hm]
        exact Ev.now _
      · rcases nodeAtP_bd xs x 0 (by omega) with hb | hb
        · omega
        · simp only [if_neg hm, if_pos (show 0 ≤ nodeAtP xs x 0 by omega), if_pos (show nodeAtP xs x 0 < (xs.length : Int) by omega), w64 (x := i + 1) (by omega) (by omega)]
          refine ev_done (fun k => ?_)
          simp only [spec_DepthOf.l0]
          rw [if_neg (by omega)]
    · simp only [impl_DepthOf.l0]
      rw [if_neg (by omega)]
  | succ d ih =>
    intro i x hi h0 hx
    obtain ⟨h1, h2⟩ := NodeAt_v xs hn x
    by_cases hm : nodeAtP xs x 0 < 0
    · refine ⟨0, ?_, ?_⟩
      · refine Ev.step (f := _) (fun k => by simp only [spec_DepthOf.l0]; rw [if_pos (by omega), if_neg hx]) ?_
        refine Ev.bind h1 ?_
        simp only [if_pos hm]
        exact Ev.now _
      · refine Ev.step (f := _) (fun k => by simp only [impl_DepthOf.l0]; rw [if_pos (by omega)]) ?_
        refine Ev.bind h2 ?_
        simp only [if_pos hm]
        exact Ev.now _
    · have hb : 0 ≤ nodeAtP xs x 0 ∧ nodeAtP xs x 0 < (xs.length : Int) := by
        rcases nodeAtP_bd xs x 0 (by omega) with hb | hb <;> omega
      by_cases hp : (rd_T56 xs (nodeAtP xs x 0)).f1 = 0
      · refine ⟨i + 1, ?_, ?_⟩
        · refine Ev.step (f := _) (fun k => by simp only [spec_DepthOf.l0]; rw [if_pos (by omega), if_neg hx]) ?_
          refine Ev.bind h1 ?_
          simp only [if_neg hm, if_pos hb.1, if_pos hb.2, w64 (x := i + 1) (by omega) (by omega), hp]
          refine ev_done (fun k => ?_)
          simp only [spec_DepthOf.l0, if_true]
          rw [if_pos (by omega)]
        · refine Ev.step (f := _) (fun k => by simp only [impl_DepthOf.l0]; rw [if_pos (by omega)]) ?_
          refine Ev.bind h2 ?_
          simp only [if_neg hm, if_pos hb.1, if_pos hb.2, if_pos hp]
          exact Ev.now _
      · obtain ⟨r, g1, g2⟩ := ih (i + 1) _ (by omega) (by omega) hp
        refine ⟨r, ?_, ?_⟩
        · refine Ev.step (f := _) (fun k => by simp only [spec_DepthOf.l0]; rw [if_pos (by omega), if_neg hx]) ?_
          refine Ev.bind h1 ?_
          simp only [if_neg hm, if_pos hb.1, if_pos hb.2, w64 (x := i + 1) (by omega) (by omega)]
          exact g1
        · refine Ev.step (f := _) (fun k => by simp only [impl_DepthOf.l0]; rw [if_pos (by omega)]) ?_
          refine Ev.bind h2 ?_
          simp only [if_neg hm, if_pos hb.1, if_pos hb.2, if_neg hp, w64 (x := i + 1 + 1) (by omega) (by omega)]
          exact g2
theorem DepthOf_v (xs : List S56) (hn : xs.length ≤ 1048576) (x : Int) : ∃ r, Ev (fun k => spec_DepthOf.f k xs x) r ∧ Ev (fun k => impl_DepthOf.f k xs x) r := by
  unfold spec_DepthOf.f impl_DepthOf.f
  by_cases hx : x = 0
  · refine ⟨0, ev_done (fun k => ?_), ?_⟩
    · simp only [spec_DepthOf.l0, if_pos hx]
      rw [if_pos (by omega)]
    · simp only [if_pos hx]
      exact Ev.now _
  · obtain ⟨r, h1, h2⟩ := DepthOf_l xs hn 8 0 x (by omega) (by omega) hx
    refine ⟨r, h1, ?_⟩
    simp only [if_neg hx]
    exact h2

/-! spec_l01In -/
theorem spec_l01In_v (a b c : Int) : spec_l01In.f a b c = some (decide (b ≤ a ∧ a ≤ c)) := by
  unfold spec_l01In.f
  by_cases h : a ≥ b
  · rw [if_pos h]
    simp [h]
  · rw [if_neg h]
    simp
    omega

/-! spec_PointOk -/
def pointOkP (a b : Int) : Prop := (-8388608 ≤ a ∧ a ≤ 8388608) ∧ (-8388608 ≤ b ∧ b ≤ 8388608)
instance (a b : Int) : Decidable (pointOkP a b) := by unfold pointOkP; infer_instance
theorem spec_PointOk_v (a b : Int) : spec_PointOk.f a b = some (decide (pointOkP a b)) := by
  unfold spec_PointOk.f pointOkP
  simp only [spec_l01In_v, Option.bind_some, decide_eq_true_eq]
  repeat' split
  all_goals first | (refine congrArg some (decide_eq_decide.mpr ?_); omega) | (refine congrArg some (Eq.symm (decide_eq_false ?_)); omega)

/-! PathB -/
def needB (v : Int) : Int := if v = 1 ∨ v = 2 then 1 else if v = 3 then 2 else if v = 4 then 3 else if v = 5 then 0 else -1
theorem needB_bd (v : Int) : -1 ≤ needB v ∧ needB v ≤ 3 := by
  unfold needB
  repeat' split
  all_goals omega
def prevB (l : List Int) : Nat → Int
  | 0 => 5
  | i + 1 => rd l (i : Int)
def verbsB : Int → List Int → Int → Option Int
  | _, [], n => some n
  | p, v :: vs, n => if needB v < 0 then none else if p = 5 ∧ v ≠ 1 then none else verbsB v vs (n + needB v)
def pointsB (l : List S52) : Bool := l.all (fun p => decide (pointOkP p.f0 p.f1))
def endB (pts : List S52) : Option Int → Bool
  | none => false
  | some m => m == (pts.length : Int)
def pathB (l : List Int) (pts : List S52) : Bool := decide (pts.length ≤ 24) && (decide (l.length ≤ 24) && (pointsB pts && endB pts (verbsB 5 l 0)))

/-! impl_inRange -/
theorem impl_inRange_v (a b c : Int) : impl_inRange.f a b c = some (decide (b ≤ a ∧ a ≤ c)) := by
  unfold impl_inRange.f
  by_cases h : a ≥ b
  · rw [if_pos h]
    simp [h]
  · rw [if_neg h]
    simp
    omega

/-! impl_isFar -/
theorem impl_isFar_v (a : Int) : impl_isFar.f a = some (decide (-8388608 ≤ a ∧ a ≤ 8388608)) := by
  unfold impl_isFar.f
  simp only [impl_inRange_v, Option.bind_some]

/-! impl_PointOk -/
theorem impl_PointOk_v (a b : Int) : impl_PointOk.f a b = some (decide (pointOkP a b)) := by
  unfold impl_PointOk.f pointOkP
  simp only [impl_isFar_v, Option.bind_some, decide_eq_true_eq]
  repeat' split
  all_goals first | (refine congrArg some (decide_eq_decide.mpr ?_); omega) | (refine congrArg some (Eq.symm (decide_eq_false ?_)); omega)

/-! rd_impl_Point -/
theorem rd_impl_Point (xs : List S52) (i : Nat) (h : i < xs.length) : rd_T52 xs (i : Int) = xs[i] := by
  unfold rd_T52
  simp [h]

/-! PathOk -/
theorem impl_NeedOf_v (v : Int) : Ev (fun k => impl_NeedOf.f k v) (needB v) := by
  unfold impl_NeedOf.f needB
  by_cases h1 : v = 1
  · subst h1
    exact ev_done (fun k => rfl)
  · simp only [if_neg h1]
    by_cases h2 : v = 2
    · subst h2
      exact ev_done (fun k => rfl)
    · refine ev_done (fun k => ?_)
      simp only [impl_NeedOf.j0]
      have e : (v == 2) = false := beq_eq_false_iff_ne.mpr h2
      rw [if_neg (by simp [e]), if_neg (show ¬ (v = 1 ∨ v = 2) by omega)]
      repeat' split
      all_goals rfl
theorem impl_pointsOk_l (l : List S52) (hn : l.length ≤ 1048576) : ∀ (d i : Nat), i + d = l.length → Ev (fun k => impl_pointsOk.l0 k l (l.length : Int) (i : Int)) (pointsB (l.drop i)) := by
  intro d
  induction d with
  | zero =>
    intro i hi
    refine ev_done (fun k => ?_)
    simp only [impl_pointsOk.l0]
    rw [if_neg (by omega), List.drop_of_length_le (by omega)]
    rfl
  | succ d ih =>
    intro i hi
    have hi2 : i < l.length := by omega
    rw [List.drop_eq_getElem_cons hi2, pointsB, List.all_cons]
    by_cases hx : pointOkP l[i].f0 l[i].f1
    · rw [decide_eq_true hx, Bool.true_and]
      refine Ev.step (fun k => ?_) (ih (i + 1) (by omega))
      simp only [impl_pointsOk.l0, impl_PointOk_v, Option.bind_some]
      rw [if_pos (by omega), if_pos (by omega), if_pos (by omega), rd_impl_Point _ _ hi2, step64 hi2 (by omega), if_pos (by simpa using hx)]
    · rw [decide_eq_false hx, Bool.false_and]
      refine ev_done (fun k => ?_)
      simp only [impl_pointsOk.l0, impl_PointOk_v, Option.bind_some]
      rw [if_pos (by omega), if_pos (by omega), if_pos (by omega), rd_impl_Point _ _ hi2, if_neg (by simpa using hx)]
theorem impl_path_l (l : List Int) (pts : List S52) (hn : l.length ≤ 24) : ∀ (d i : Nat) (n : Int), i + d = l.length → 0 ≤ n → n ≤ 3 * (i : Int) →
    Ev (fun k => impl_PathOk.l0 k n l (l.length : Int) (i : Int) l pts) (endB pts (verbsB (prevB l i) (l.drop i) n)) := by
  intro d
  induction d with
  | zero =>
    intro i n hi h0 h1
    refine ev_done (fun k => ?_)
    simp only [impl_PathOk.l0]
    rw [if_neg (by omega), List.drop_of_length_le (by omega)]
    rfl
  | succ d ih =>
    intro i n hi h0 h1
    have hi2 : i < l.length := by omega
    have hb := needB_bd l[i]
    rw [List.drop_eq_getElem_cons hi2, verbsB]
    refine Ev.step (fun k => rfl) ?_
    simp only [impl_PathOk.l0, if_pos (show (i : Int) < (l.length : Int) by omega), if_pos (show (0 : Int) ≤ (i : Int) by omega), rd_int _ _ hi2]
    refine Ev.bind (impl_NeedOf_v _) ?_
    by_cases hneg : needB l[i] < 0
    · rw [if_pos hneg]
      simp only [if_pos hneg]
      cases i with
      | zero => exact Ev.now _
      | succ j =>
        simp only [if_neg (show ¬ ((j + 1 : Nat) : Int) = 0 by omega), w64 (x := ((j + 1 : Nat) : Int) - 1) (by omega) (by omega)]
        rw [if_pos (by omega), if_pos (by omega)]
        exact Ev.now _
    · rw [if_neg hneg]
      simp only [if_neg hneg, w64 (x := n + needB l[i]) (by omega) (by omega), step64 hi2 (show l.length ≤ 4611686018427387904 by omega)]
      have hr := ih (i + 1) (n + needB l[i]) (by omega) (by omega) (by omega)
      rw [show prevB l (i + 1) = l[i] from rd_int l i hi2] at hr
      cases i with
      | zero =>
        simp only [if_pos (show ((0 : Nat) : Int) = 0 from rfl)]
        by_cases hv : l[0] = 1
        · rw [if_neg (fun h => h.2 hv)]
          simp only [if_pos hv]
          exact hr
        · rw [if_pos ⟨rfl, hv⟩]
          simp only [if_neg hv]
          exact Ev.now _
      | succ j =>
        simp only [if_neg (show ¬ ((j + 1 : Nat) : Int) = 0 by omega), w64 (x := ((j + 1 : Nat) : Int) - 1) (by omega) (by omega)]
        simp only [show ((j + 1 : Nat) : Int) - 1 = (j : Int) by omega, if_pos (show (0 : Int) ≤ (j : Int) by omega), if_pos (show (j : Int) < (l.length : Int) by omega)]
        show Ev _ (endB pts (if rd l (j : Int) = 5 ∧ l[j + 1] ≠ 1 then none else _))
        by_cases hp : rd l (j : Int) = 5
        · simp only [if_pos hp]
          by_cases hv : l[j + 1] = 1
          · rw [if_neg (fun h => h.2 hv)]
            simp only [if_pos hv]
            exact hr
          · rw [if_pos ⟨hp, hv⟩]
            simp only [if_neg hv]
            exact Ev.now _
        · rw [if_neg (fun h => hp h.1)]
          simp only [if_neg hp]
          exact hr
theorem impl_PathOk_v (l : List Int) (pts : List S52) : Ev (fun k => impl_PathOk.f k l pts) (pathB l pts) := by
  unfold impl_PathOk.f pathB
  have hno : Ev (fun k => impl_PathOk.j0 k true l pts) false := ev_done (fun k => rfl)
  by_cases h1 : pts.length ≤ 24
  · rw [decide_eq_true h1, Bool.true_and]
    simp only [if_neg (show ¬ (pts.length : Int) > 24 by omega)]
    by_cases h2 : l.length ≤ 24
    · rw [decide_eq_true h2, Bool.true_and]
      simp only [if_neg (show ¬ (l.length : Int) > 24 by omega)]
      have hp : Ev (fun k => impl_pointsOk.f k pts) (pointsB pts) := impl_pointsOk_l pts (by omega) pts.length 0 (by omega)
      refine Ev.bind hp ?_
      cases pointsB pts with
      | true => exact Ev.step (fun k => rfl) (impl_path_l l pts h2 l.length 0 0 (by omega) (by omega) (by omega))
      | false => exact hno
    · rw [decide_eq_false h2, Bool.false_and]
      simp only [if_pos (show (l.length : Int) > 24 by omega)]
      exact hno
  · rw [decide_eq_false h1, Bool.false_and]
    simp only [if_pos (show (pts.length : Int) > 24 by omega)]
    exact hno

/-! PathOk_spec -/
theorem spec_NeedOf_v (v : Int) : spec_NeedOf.f v = some (needB v) := by
  unfold spec_NeedOf.f
  simp only [spec_l01In_v, Option.bind_some]
  by_cases h : 1 ≤ v ∧ v ≤ 5
  · rw [decide_eq_true h, if_pos rfl]
    have h5 : v = 1 ∨ v = 2 ∨ v = 3 ∨ v = 4 ∨ v = 5 := by omega
    rcases h5 with rfl | rfl | rfl | rfl | rfl <;> simp [wrap64, rd, needB]
  · rw [decide_eq_false h, if_neg (by simp)]
    unfold needB
    rw [if_neg (by omega), if_neg (by omega), if_neg (by omega), if_neg (by omega)]
theorem spec_points_l (l : List Int) (pts : List S52) (n : Int) (hn : pts.length ≤ 1048576) : ∀ (d i : Nat), i + d = pts.length → Ev (fun k => spec_PathOk.l1 k n (i : Int) l pts) (pointsB (pts.drop i) && (n == (pts.length : Int))) := by
  intro d
  induction d with
  | zero =>
    intro i hi
    refine ev_done (fun k => ?_)
    simp only [spec_PathOk.l1]
    rw [if_neg (by omega), List.drop_of_length_le (by omega)]
    rfl
  | succ d ih =>
    intro i hi
    have hi2 : i < pts.length := by omega
    rw [List.drop_eq_getElem_cons hi2, pointsB, List.all_cons]
    by_cases hx : pointOkP pts[i].f0 pts[i].f1
    · rw [decide_eq_true hx, Bool.true_and]
      refine Ev.step (fun k => ?_) (ih (i + 1) (by omega))
      simp only [spec_PathOk.l1, spec_PointOk_v, Option.bind_some]
      rw [if_pos (by omega), if_pos (by omega), rd_impl_Point _ _ hi2, step64 hi2 (by omega), if_pos (by simpa using hx)]
    · rw [decide_eq_false hx, Bool.false_and, Bool.false_and]
      refine ev_done (fun k => ?_)
      simp only [spec_PathOk.l1, spec_PointOk_v, Option.bind_some]
      rw [if_pos (by omega), if_pos (by omega), rd_impl_Point _ _ hi2, if_neg (by simpa using hx)]
theorem spec_path_l (l : List Int) (pts : List S52) (hn : l.length ≤ 24) (hp : pts.length ≤ 24) : ∀ (d i : Nat) (n : Int), i + d = l.length → 0 ≤ n → n ≤ 3 * (i : Int) →
    Ev (fun k => spec_PathOk.l0 k n (i : Int) l pts) (pointsB pts && endB pts (verbsB (prevB l i) (l.drop i) n)) := by
  intro d
  induction d with
  | zero =>
    intro i n hi h0 h1
    rw [List.drop_of_length_le (by omega)]
    refine Ev.step (fun k => ?_) (spec_points_l l pts n (by omega) pts.length 0 (by omega))
    simp only [spec_PathOk.l0]
    rw [if_neg (by omega)]
    rfl
  | succ d ih =>
    intro i n hi h0 h1
    have hi2 : i < l.length := by omega
    have hb := needB_bd l[i]
    have hno : (pointsB pts && false) = false := Bool.and_false _
    rw [List.drop_eq_getElem_cons hi2, verbsB]
    by_cases hneg : needB l[i] < 0
    · rw [if_pos hneg]
      show Ev _ (pointsB pts && false)
      rw [hno]
      refine ev_done (fun k => ?_)
      simp only [spec_PathOk.l0, rd_int _ _ hi2, spec_NeedOf_v, Option.bind_some]
      rw [if_pos (by omega), if_pos (by omega), if_pos hneg]
    · rw [if_neg hneg]
      have hr := ih (i + 1) (n + needB l[i]) (by omega) (by omega) (by omega)
      rw [show prevB l (i + 1) = l[i] from rd_int l i hi2] at hr
      cases i with
      | zero =>
        by_cases hv : l[0] = 1
        · rw [if_neg (fun h => h.2 hv)]
          refine Ev.step (fun k => ?_) hr
          simp only [spec_PathOk.l0, rd_int _ _ hi2, spec_NeedOf_v, Option.bind_some]
          rw [if_pos (by omega), if_pos (by omega), if_neg hneg, if_pos (by omega), if_pos hv, w64 (x := n + needB l[0]) (by omega) (by omega), step64 hi2 (by omega)]
        · rw [if_pos ⟨rfl, hv⟩]
          show Ev _ (pointsB pts && false)
          rw [hno]
          refine ev_done (fun k => ?_)
          simp only [spec_PathOk.l0, rd_int _ _ hi2, spec_NeedOf_v, Option.bind_some]
          rw [if_pos (by omega), if_pos (by omega), if_neg hneg, if_pos (by omega), if_neg hv]
      | succ j =>
        have ej : wrap64 (((j + 1 : Nat) : Int) - 1) = (j : Int) := by rw [w64 (by omega) (by omega)]; omega
        show Ev _ (pointsB pts && endB pts (if rd l (j : Int) = 5 ∧ l[j + 1] ≠ 1 then none else _))
        by_cases hp5 : rd l (j : Int) = 5
        · by_cases hv : l[j + 1] = 1
          · rw [if_neg (fun h => h.2 hv)]
            refine Ev.step (fun k => ?_) hr
            simp only [spec_PathOk.l0, rd_int _ _ hi2, spec_NeedOf_v, Option.bind_some, ej]
            rw [if_pos (by omega), if_pos (by omega), if_neg hneg, if_neg (by omega), if_pos (by omega), if_pos (by omega), if_pos hp5, if_pos hv, w64 (x := n + needB l[j + 1]) (by omega) (by omega), step64 hi2 (by omega)]
          · rw [if_pos ⟨hp5, hv⟩]
            show Ev _ (pointsB pts && false)
            rw [hno]
            refine ev_done (fun k => ?_)
            simp only [spec_PathOk.l0, rd_int _ _ hi2, spec_NeedOf_v, Option.bind_some, ej]
            rw [if_pos (by omega), if_pos (by omega), if_neg hneg, if_neg (by omega), if_pos (by omega), if_pos (by omega), if_pos hp5, if_neg hv]
        · rw [if_neg (fun h => hp5 h.1)]
          refine Ev.step (fun k => ?_) hr
          simp only [spec_PathOk.l0, rd_int _ _ hi2, spec_NeedOf_v, Option.bind_some, ej]
          rw [if_pos (by omega), if_pos (by omega), if_neg hneg, if_neg (by omega), if_pos (by omega), if_pos (by omega), if_neg hp5, w64 (x := n + needB l[j + 1]) (by omega) (by omega), step64 hi2 (by omega)]
theorem spec_PathOk_v (l : List Int) (pts : List S52) : Ev (fun k => spec_PathOk.f k l pts) (pathB l pts) := by
  unfold spec_PathOk.f pathB
  have hno : Ev (fun k => spec_PathOk.j0 k true l pts) false := ev_done (fun k => rfl)
  by_cases h1 : pts.length ≤ 24
  · rw [decide_eq_true h1, Bool.true_and]
    simp only [if_neg (show ¬ (pts.length : Int) > 24 by omega)]
    by_cases h2 : l.length ≤ 24
    · rw [decide_eq_true h2, Bool.true_and, decide_eq_false (show ¬ (l.length : Int) > 24 by omega)]
      exact Ev.step (fun k => rfl) (spec_path_l l pts h2 h1 l.length 0 0 (by omega) (by omega) (by omega))
    · rw [decide_eq_false h2, Bool.false_and, decide_eq_true (show (l.length : Int) > 24 by omega)]
      exact hno
  · rw [decide_eq_false h1, Bool.false_and]
    simp only [if_pos (show (pts.length : Int) > 24 by omega)]
    exact hno

/-! MatOk -/
def matB (a b c d e f : Int) : Bool := decide ((-1048576 ≤ a ∧ a ≤ 1048576) ∧ (-1048576 ≤ b ∧ b ≤ 1048576) ∧ (-1048576 ≤ c ∧ c ≤ 1048576) ∧ (-1048576 ≤ d ∧ d ≤ 1048576) ∧ (-8388608 ≤ e ∧ e ≤ 8388608) ∧ (-8388608 ≤ f ∧ f ≤ 8388608))
theorem impl_mat_s (a b c d A B C D E F : Int) (i : Int) (h0 : 0 ≤ i) (h1 : i < 4) {r : Bool} (h : (if -1048576 ≤ ix4 i a b c d ∧ ix4 i a b c d ≤ 1048576 then Ev (fun k => impl_MatOk.l0 k (i + 1) a b c d A B C D E F) r else r = false)) : Ev (fun k => impl_MatOk.l0 k i a b c d A B C D E F) r := by
  by_cases hq : -1048576 ≤ ix4 i a b c d ∧ ix4 i a b c d ≤ 1048576
  · rw [if_pos hq] at h
    refine Ev.step (fun k => ?_) h
    simp only [impl_MatOk.l0, impl_inRange_v, Option.bind_some]
    rw [if_pos h1, if_pos h0, if_pos (by simpa using hq), w64 (by omega) (by omega)]
  · rw [if_neg hq] at h
    subst h
    refine ev_done (fun k => ?_)
    simp only [impl_MatOk.l0, impl_inRange_v, Option.bind_some]
    rw [if_pos h1, if_pos h0, if_neg (by simpa using hq)]
theorem impl_MatOk_v (a b c d e f : Int) : Ev (fun k => impl_MatOk.f k a b c d e f) (matB a b c d e f) := by
  unfold impl_MatOk.f matB
  refine impl_mat_s a b c d a b c d e f 0 (by omega) (by omega) ?_
  show if -1048576 ≤ a ∧ a ≤ 1048576 then _ else _
  split
  · rename_i ha
    refine impl_mat_s a b c d a b c d e f 1 (by omega) (by omega) ?_
    show if -1048576 ≤ b ∧ b ≤ 1048576 then _ else _
    split
    · rename_i hb
      refine impl_mat_s a b c d a b c d e f 2 (by omega) (by omega) ?_
      show if -1048576 ≤ c ∧ c ≤ 1048576 then _ else _
      split
      · rename_i hc
        refine impl_mat_s a b c d a b c d e f 3 (by omega) (by omega) ?_
        show if -1048576 ≤ d ∧ d ≤ 1048576 then _ else _
        split
        · rename_i hd
          refine ev_done (fun k => ?_)
          simp only [impl_MatOk.l0, impl_isFar_v, Option.bind_some]
          rw [if_neg (by omega)]
          by_cases he : -8388608 ≤ e ∧ e ≤ 8388608
          · rw [if_pos (by simpa using he)]
            refine congrArg some (decide_eq_decide.mpr ?_)
            omega
          · rw [if_neg (by simpa using he)]
            refine congrArg some (Eq.symm (decide_eq_false ?_))
            omega
        · exact decide_eq_false (by omega)
      · exact decide_eq_false (by omega)
    · exact decide_eq_false (by omega)
  · exact decide_eq_false (by omega)

/-! MatOk_spec -/
theorem spec_MatOk_v (a b c d e f : Int) : spec_MatOk.f a b c d e f = some (matB a b c d e f) := by
  unfold spec_MatOk.f matB
  simp only [spec_l01In_v, Option.bind_some, decide_eq_true_eq]
  repeat' split
  all_goals first | (refine congrArg some (decide_eq_decide.mpr ?_); omega) | (refine congrArg some (Eq.symm (decide_eq_false ?_)); omega)

/-! spec_ColorOk -/
theorem spec_ColorOk_v (a b c d : Int) : spec_ColorOk.f a b c d = some (decide ((0 ≤ a ∧ a ≤ 255) ∧ (0 ≤ b ∧ b ≤ 255) ∧ (0 ≤ c ∧ c ≤ 255) ∧ (0 ≤ d ∧ d ≤ 255))) := by
  unfold spec_ColorOk.f
  simp only [spec_l01In_v, Option.bind_some, decide_eq_true_eq]
  repeat' split
  all_goals first | (refine congrArg some (decide_eq_decide.mpr ?_); omega) | (refine congrArg some (Eq.symm (decide_eq_false ?_)); omega)

/-! impl_isByte -/
theorem impl_isByte_v (a : Int) : impl_isByte.f a = some (decide (0 ≤ a ∧ a ≤ 255)) := by
  unfold impl_isByte.f
  simp only [impl_inRange_v, Option.bind_some]

/-! impl_ColorOk -/
theorem impl_ColorOk_v (a b c d : Int) : impl_ColorOk.f a b c d = some (decide ((0 ≤ a ∧ a ≤ 255) ∧ (0 ≤ b ∧ b ≤ 255) ∧ (0 ≤ c ∧ c ≤ 255) ∧ (0 ≤ d ∧ d ≤ 255))) := by
  unfold impl_ColorOk.f
  simp only [impl_isByte_v, Option.bind_some, decide_eq_true_eq]
  repeat' split
  all_goals first | (refine congrArg some (decide_eq_decide.mpr ?_); omega) | (refine congrArg some (Eq.symm (decide_eq_false ?_)); omega)

/-! PaintOk_same -/
theorem paintOk_same (a0 a1 a2 a3 a4 a5 a6 a7 a8 a9 a10 a11 a12 : Int) : impl_PaintOk.f a0 a1 a2 a3 a4 a5 a6 a7 a8 a9 a10 a11 a12 = spec_PaintOk.f a0 a1 a2 a3 a4 a5 a6 a7 a8 a9 a10 a11 a12 ∧ ∃ r, spec_PaintOk.f a0 a1 a2 a3 a4 a5 a6 a7 a8 a9 a10 a11 a12 = some r := by
  unfold impl_PaintOk.f spec_PaintOk.f
  simp only [spec_ColorOk_v, impl_ColorOk_v, spec_PointOk_v, impl_PointOk_v, Option.bind_some, decide_eq_true_eq]
  repeat' split
  all_goals simp_all

/-! spec_DashOk -/
def dashOkB (l : List Int) : Bool := l.all (fun x => decide (1 ≤ x ∧ x ≤ 20000)) && (decide (l.length % 2 = 0) && decide (l.length ≤ 4))
theorem dash_end (l : List Int) : (if ((l.length : Int) % 2) = 0 then some (decide ((l.length : Int) ≤ 4)) else some false) = some (decide (l.length % 2 = 0) && decide (l.length ≤ 4)) := by
  by_cases h : (l.length : Int) % 2 = 0
  · rw [if_pos h]
    have h2 : l.length % 2 = 0 := by omega
    simp [h2]
    omega
  · rw [if_neg h]
    have h2 : ¬ l.length % 2 = 0 := by omega
    simp [h2]
theorem spec_DashOk_l (l : List Int) (hn : l.length ≤ 1048576) : ∀ (d i : Nat), i + d = l.length → Ev (fun k => spec_DashOk.l0 k l (i : Int)) ((l.drop i).all (fun x => decide (1 ≤ x ∧ x ≤ 20000)) && (decide (l.length % 2 = 0) && decide (l.length ≤ 4))) := by
  intro d
  induction d with
  | zero =>
    intro i hi
    refine ev_done (fun k => ?_)
    simp only [spec_DashOk.l0]
    rw [if_neg (by omega), dash_end, List.drop_of_length_le (by omega)]
    rfl
  | succ d ih =>
    intro i hi
    have hi2 : i < l.length := by omega
    rw [List.drop_eq_getElem_cons hi2, List.all_cons]
    by_cases hx : 1 ≤ l[i] ∧ l[i] ≤ 20000
    · rw [decide_eq_true hx, Bool.true_and]
      refine Ev.step (fun k => ?_) (ih (i + 1) (by omega))
      simp only [spec_DashOk.l0, spec_l01In_v, Option.bind_some]
      rw [if_pos (by omega), if_pos (by omega), rd_int _ _ hi2, step64 hi2 (by omega), if_pos (by simpa using hx)]
    · rw [decide_eq_false hx, Bool.false_and, Bool.false_and]
      refine ev_done (fun k => ?_)
      simp only [spec_DashOk.l0, spec_l01In_v, Option.bind_some]
      rw [if_pos (by omega), if_pos (by omega), rd_int _ _ hi2, if_neg (by simpa using hx)]
theorem spec_DashOk_v (l : List Int) (hn : l.length ≤ 1048576) : Ev (fun k => spec_DashOk.f k l) (dashOkB l) := spec_DashOk_l l hn l.length 0 (by omega)

/-! impl_DashOk -/
theorem impl_DashOk_l (l : List Int) (hn : l.length ≤ 1048576) : ∀ (d i : Nat), i + d = l.length → Ev (fun k => impl_DashOk.l0 k l l (l.length : Int) (i : Int)) ((l.drop i).all (fun x => decide (1 ≤ x ∧ x ≤ 20000)) && (decide (l.length % 2 = 0) && decide (l.length ≤ 4))) := by
  intro d
  induction d with
  | zero =>
    intro i hi
    refine ev_done (fun k => ?_)
    simp only [impl_DashOk.l0]
    rw [if_neg (by omega), dash_end, List.drop_of_length_le (by omega)]
    rfl
  | succ d ih =>
    intro i hi
    have hi2 : i < l.length := by omega
    rw [List.drop_eq_getElem_cons hi2, List.all_cons]
    by_cases hx : 1 ≤ l[i] ∧ l[i] ≤ 20000
    · rw [decide_eq_true hx, Bool.true_and]
      refine Ev.step (fun k => ?_) (ih (i + 1) (by omega))
      simp only [impl_DashOk.l0, impl_inRange_v, Option.bind_some]
      rw [if_pos (by omega), if_pos (by omega), if_pos (by omega), rd_int _ _ hi2, step64 hi2 (by omega), if_pos (by simpa using hx)]
    · rw [decide_eq_false hx, Bool.false_and, Bool.false_and]
      refine ev_done (fun k => ?_)
      simp only [impl_DashOk.l0, impl_inRange_v, Option.bind_some]
      rw [if_pos (by omega), if_pos (by omega), if_pos (by omega), rd_int _ _ hi2, if_neg (by simpa using hx)]
theorem impl_DashOk_v (l : List Int) (hn : l.length ≤ 1048576) : Ev (fun k => impl_DashOk.f k l) (dashOkB l) := impl_DashOk_l l hn l.length 0 (by omega)

/-! NodeOk -/
def paintB (a14 a15 a16 a17 a18 a19 a20 a21 a22 a23 a24 a25 a26 : Int) : Bool := (spec_PaintOk.f a14 a15 a16 a17 a18 a19 a20 a21 a22 a23 a24 a25 a26).getD false
theorem spec_paint_g (a14 a15 a16 a17 a18 a19 a20 a21 a22 a23 a24 a25 a26 : Int) : spec_PaintOk.f a14 a15 a16 a17 a18 a19 a20 a21 a22 a23 a24 a25 a26 = some (paintB a14 a15 a16 a17 a18 a19 a20 a21 a22 a23 a24 a25 a26) := by
  obtain ⟨_, r, h⟩ := paintOk_same a14 a15 a16 a17 a18 a19 a20 a21 a22 a23 a24 a25 a26
  unfold paintB
  rw [h]
  rfl
theorem impl_paint_g (a14 a15 a16 a17 a18 a19 a20 a21 a22 a23 a24 a25 a26 : Int) : impl_PaintOk.f a14 a15 a16 a17 a18 a19 a20 a21 a22 a23 a24 a25 a26 = some (paintB a14 a15 a16 a17 a18 a19 a20 a21 a22 a23 a24 a25 a26) := by
  rw [(paintOk_same a14 a15 a16 a17 a18 a19 a20 a21 a22 a23 a24 a25 a26).1]
  exact spec_paint_g a14 a15 a16 a17 a18 a19 a20 a21 a22 a23 a24 a25 a26
def noPathB (l : List Int) (p : List S52) : Bool := decide (l.length = 0) && decide (p.length = 0)
theorem spec_noPath_v (l : List Int) (p : List S52) : spec_l15NoPath.f l p = some (noPathB l p) := by
  unfold spec_l15NoPath.f noPathB
  by_cases h : l.length = 0
  · rw [if_pos (by omega), decide_eq_true h, Bool.true_and]
    refine congrArg some (Bool.eq_iff_iff.mpr ?_)
    simp
    try omega
  · rw [if_neg (by omega), decide_eq_false h, Bool.false_and]
theorem impl_noPath_v (l : List Int) (p : List S52) : impl_Path_isNone.f l p = some (noPathB l p) := by
  unfold impl_Path_isNone.f noPathB
  by_cases h : l.length = 0
  · rw [if_pos (by omega), decide_eq_true h, Bool.true_and]
    refine congrArg some (Bool.eq_iff_iff.mpr ?_)
    simp
    try omega
  · rw [if_neg (by omega), decide_eq_false h, Bool.false_and]
section
variable (a0 a1 : Int) (a2 : Bool) (a3 a4 a5 a6 a7 a8 : Int) (l9 : List Int) (l10 : List S52) (a11 : Bool) (a12 : Int) (l13 : List Int) (a14 a15 a16 a17 a18 a19 a20 a21 a22 a23 a24 a25 a26 a27 a28 : Int) (l29 : List Int) (l30 : List S52)
def noPaintB (a14 a15 a16 a17 a18 a19 a20 a21 a22 a23 a24 a25 a26 : Int) : Bool := (a14 == 0 && ((a15 == 0 && (a16 == 0 && (a17 == 0 && (a18 == 0)))) && ((a19 == 0 && (a20 == 0 && (a21 == 0 && (a22 == 0)))) && ((a23 == 0 && (a24 == 0)) && ((a25 == 0 && (a26 == 0)))))))
def tailB (a2 : Bool) (l9 : List Int) (l10 : List S52) (a11 : Bool) (a12 : Int) (l13 : List Int) (a14 a15 a16 a17 a18 a19 a20 a21 a22 a23 a24 a25 a26 : Int) : Bool :=
  if a2 = true then noPathB l9 l10 && (noPaintB a14 a15 a16 a17 a18 a19 a20 a21 a22 a23 a24 a25 a26 && (decide (a12 = 0) && (decide (l13.length = 0) && !a11))) else paintB a14 a15 a16 a17 a18 a19 a20 a21 a22 a23 a24 a25 a26
def nodeB : Bool := decide (1 ≤ a0 ∧ a0 ≤ 99) && (decide (0 ≤ a1 ∧ a1 ≤ 99) && (decide (a0 ≠ a1) && (matB a3 a4 a5 a6 a7 a8 && (pathB l9 l10 && (pathB l29 l30 && (decide (0 ≤ a12 ∧ a12 ≤ 2048) && (dashOkB l13 && (decide (1 ≤ a27 ∧ a27 ≤ 5) && (decide (0 ≤ a28 ∧ a28 ≤ 255) && tailB a2 l9 l10 a11 a12 l13 a14 a15 a16 a17 a18 a19 a20 a21 a22 a23 a24 a25 a26)))))))))
theorem spec_node_yes : Ev (fun k => spec_NodeOk.j0 k false a0 a1 a2 a3 a4 a5 a6 a7 a8 l9 l10 a11 a12 l13 a14 a15 a16 a17 a18 a19 a20 a21 a22 a23 a24 a25 a26 a27 a28 l29 l30) (tailB a2 l9 l10 a11 a12 l13 a14 a15 a16 a17 a18 a19 a20 a21 a22 a23 a24 a25 a26) := by
  refine ev_done (fun k => ?_)
  simp only [spec_NodeOk.j0, Bool.false_eq_true, if_false, spec_paint_g, spec_noPath_v, Option.bind_some]
  unfold tailB
  cases a2 with
  | false => rfl
  | true =>
    simp only [if_true, spec_l15NoPaint.f, Option.bind_some]
    unfold noPaintB
    generalize noPathB l9 l10 = b1
    generalize (a14 == 0 && ((a15 == 0 && (a16 == 0 && (a17 == 0 && (a18 == 0)))) && ((a19 == 0 && (a20 == 0 && (a21 == 0 && (a22 == 0)))) && ((a23 == 0 && (a24 == 0)) && ((a25 == 0 && (a26 == 0))))))) = b2
    cases b1 with
    | false => rfl
    | true =>
      cases b2 with
      | false => rfl
      | true =>
        simp only [if_true, Bool.true_and]
        by_cases h1 : a12 = 0
        · rw [if_pos h1, decide_eq_true h1, Bool.true_and]
          by_cases h2 : l13.length = 0
          · rw [if_pos (by omega), decide_eq_true h2, Bool.true_and]
          · rw [if_neg (by omega), decide_eq_false h2, Bool.false_and]
        · rw [if_neg h1, decide_eq_false h1, Bool.false_and]
theorem impl_node_yes : Ev (fun k => impl_NodeOk.j1 k false a0 a1 a2 a3 a4 a5 a6 a7 a8 l9 l10 a11 a12 l13 a14 a15 a16 a17 a18 a19 a20 a21 a22 a23 a24 a25 a26 a27 a28 l29 l30) (tailB a2 l9 l10 a11 a12 l13 a14 a15 a16 a17 a18 a19 a20 a21 a22 a23 a24 a25 a26) := by
  refine ev_done (fun k => ?_)
  simp only [impl_NodeOk.j1, Bool.false_eq_true, if_false, impl_paint_g, impl_noPath_v, Option.bind_some]
  unfold tailB
  cases a2 with
  | false => rfl
  | true =>
    simp only [if_true]
    unfold noPaintB
    generalize noPathB l9 l10 = b1
    generalize (a14 == 0 && ((a15 == 0 && (a16 == 0 && (a17 == 0 && (a18 == 0)))) && ((a19 == 0 && (a20 == 0 && (a21 == 0 && (a22 == 0)))) && ((a23 == 0 && (a24 == 0)) && ((a25 == 0 && (a26 == 0))))))) = b2
    cases b2 with
    | false => cases b1 <;> rfl
    | true =>
      cases b1 with
      | false => rfl
      | true =>
        simp only [if_true, Bool.true_and]
        by_cases h1 : a12 = 0
        · rw [if_pos h1, decide_eq_true h1, Bool.true_and]
          by_cases h2 : l13.length = 0
          · rw [if_pos (by omega), decide_eq_true h2, Bool.true_and]
          · rw [if_neg (by omega), decide_eq_false h2, Bool.false_and]
        · rw [if_neg h1, decide_eq_false h1, Bool.false_and]
theorem spec_NodeOk_v (hn : l13.length ≤ 1048576) : Ev (fun k => spec_NodeOk.f k a0 a1 a2 a3 a4 a5 a6 a7 a8 l9 l10 a11 a12 l13 a14 a15 a16 a17 a18 a19 a20 a21 a22 a23 a24 a25 a26 a27 a28 l29 l30) (nodeB a0 a1 a2 a3 a4 a5 a6 a7 a8 l9 l10 a11 a12 l13 a14 a15 a16 a17 a18 a19 a20 a21 a22 a23 a24 a25 a26 a27 a28 l29 l30) := by
  have hno : Ev (fun k => spec_NodeOk.j0 k true a0 a1 a2 a3 a4 a5 a6 a7 a8 l9 l10 a11 a12 l13 a14 a15 a16 a17 a18 a19 a20 a21 a22 a23 a24 a25 a26 a27 a28 l29 l30) false := ev_done (fun k => rfl)
  have hyes := spec_node_yes a0 a1 a2 a3 a4 a5 a6 a7 a8 l9 l10 a11 a12 l13 a14 a15 a16 a17 a18 a19 a20 a21 a22 a23 a24 a25 a26 a27 a28 l29 l30
  unfold spec_NodeOk.f nodeB
  generalize tailB a2 l9 l10 a11 a12 l13 a14 a15 a16 a17 a18 a19 a20 a21 a22 a23 a24 a25 a26 = T at hyes ⊢
  simp only [spec_l01In_v, Option.bind_some, spec_MatOk_v]
  generalize decide (1 ≤ a0 ∧ a0 ≤ 99) = b1
  generalize decide (0 ≤ a1 ∧ a1 ≤ 99) = b2
  generalize matB a3 a4 a5 a6 a7 a8 = b3
  generalize decide (0 ≤ a12 ∧ a12 ≤ 2048) = b4
  generalize decide (1 ≤ a27 ∧ a27 ≤ 5) = b5
  generalize decide (0 ≤ a28 ∧ a28 ≤ 255) = b6
  cases b1 with
  | false => exact hno
  | true =>
  simp only [if_true, Bool.true_and]
  cases b2 with
  | false => exact hno
  | true =>
  simp only [if_true, Bool.true_and]
  by_cases he : a0 = a1
  · simp only [if_pos he]
    rw [decide_eq_false (show ¬ a0 ≠ a1 from fun h => h he), Bool.false_and]
    exact hno
  simp only [if_neg he]
  rw [decide_eq_true (show a0 ≠ a1 from he), Bool.true_and]
  cases b3 with
  | false => exact hno
  | true =>
  simp only [if_true, Bool.true_and]
  refine Ev.bind (spec_PathOk_v l9 l10) ?_
  cases pathB l9 l10 with
  | false => exact hno
  | true =>
  simp only [if_true, Bool.true_and]
  refine Ev.bind (spec_PathOk_v l29 l30) ?_
  cases pathB l29 l30 with
  | false => exact hno
  | true =>
  simp only [if_true, Bool.true_and]
  cases b4 with
  | false => exact hno
  | true =>
  simp only [if_true, Bool.true_and]
  refine Ev.bind (spec_DashOk_v l13 hn) ?_
  cases dashOkB l13 with
  | false => exact hno
  | true =>
  simp only [if_true, Bool.true_and]
  cases b5 with
  | false => exact hno
  | true =>
  simp only [if_true, Bool.true_and]
  cases b6 with
  | false => exact hno
  | true => exact hyes
theorem impl_NodeOk_v (hn : l13.length ≤ 1048576) : Ev (fun k => impl_NodeOk.f k a0 a1 a2 a3 a4 a5 a6 a7 a8 l9 l10 a11 a12 l13 a14 a15 a16 a17 a18 a19 a20 a21 a22 a23 a24 a25 a26 a27 a28 l29 l30) (nodeB a0 a1 a2 a3 a4 a5 a6 a7 a8 l9 l10 a11 a12 l13 a14 a15 a16 a17 a18 a19 a20 a21 a22 a23 a24 a25 a26 a27 a28 l29 l30) := by
  have hno : Ev (fun k => impl_NodeOk.j0 k true a0 a1 a2 a3 a4 a5 a6 a7 a8 l9 l10 a11 a12 l13 a14 a15 a16 a17 a18 a19 a20 a21 a22 a23 a24 a25 a26 a27 a28 l29 l30) false := ev_done (fun k => rfl)
  have hno1 : Ev (fun k => impl_NodeOk.j1 k true a0 a1 a2 a3 a4 a5 a6 a7 a8 l9 l10 a11 a12 l13 a14 a15 a16 a17 a18 a19 a20 a21 a22 a23 a24 a25 a26 a27 a28 l29 l30) false := ev_done (fun k => rfl)
  have hyes := impl_node_yes a0 a1 a2 a3 a4 a5 a6 a7 a8 l9 l10 a11 a12 l13 a14 a15 a16 a17 a18 a19 a20 a21 a22 a23 a24 a25 a26 a27 a28 l29 l30
  unfold impl_NodeOk.f nodeB
  generalize tailB a2 l9 l10 a11 a12 l13 a14 a15 a16 a17 a18 a19 a20 a21 a22 a23 a24 a25 a26 = T at hyes ⊢
  simp only [impl_inRange_v, Option.bind_some]
  generalize decide (1 ≤ a0 ∧ a0 ≤ 99) = b1
  generalize decide (0 ≤ a1 ∧ a1 ≤ 99) = b2
  cases b1 with
  | false => exact hno
  | true =>
  simp only [if_true, Bool.true_and]
  cases b2 with
  | false => exact hno
  | true =>
  simp only [if_true, Bool.true_and]
  by_cases he : a0 = a1
  · simp only [if_pos he]
    rw [decide_eq_false (show ¬ a0 ≠ a1 from fun h => h he), Bool.false_and]
    exact hno
  simp only [if_neg he]
  rw [decide_eq_true (show a0 ≠ a1 from he), Bool.true_and]
  refine Ev.bind (impl_MatOk_v a3 a4 a5 a6 a7 a8) ?_
  cases matB a3 a4 a5 a6 a7 a8 with
  | false => exact hno
  | true =>
  simp only [if_true, Bool.true_and]
  refine Ev.bind (impl_PathOk_v l9 l10) ?_
  cases pathB l9 l10 with
  | false => exact hno
  | true =>
  simp only [if_true, Bool.true_and]
  refine Ev.bind (impl_PathOk_v l29 l30) ?_
  cases pathB l29 l30 with
  | false => exact hno
  | true =>
  simp only [Bool.not_true, Bool.true_and]
  refine Ev.step (fun k => rfl) ?_
  simp only [impl_NodeOk.j0, Bool.false_eq_true, if_false, impl_inRange_v, Option.bind_some, impl_isMode.f, impl_isByte_v]
  generalize decide (0 ≤ a12 ∧ a12 ≤ 2048) = b4
  generalize decide (1 ≤ a27 ∧ a27 ≤ 5) = b5
  generalize decide (0 ≤ a28 ∧ a28 ≤ 255) = b6
  cases b4 with
  | false => exact hno1
  | true =>
  simp only [if_true, Bool.true_and]
  refine Ev.bind (impl_DashOk_v l13 hn) ?_
  cases dashOkB l13 with
  | false => exact hno1
  | true =>
  simp only [if_true, Bool.true_and]
  cases b5 with
  | false => exact hno1
  | true =>
  simp only [if_true, Bool.true_and]
  cases b6 with
  | false => exact hno1
  | true => exact hyes
end

/-! SceneOk -/
def parB (xs : List S56) (id : Int) : Bool := if id = 0 then true else if nodeAtP xs id 0 < 0 then false else (rd_T56 xs (nodeAtP xs id 0)).f2
theorem isParent_v (xs : List S56) (hn : xs.length ≤ 1048576) (id : Int) : Ev (fun k => impl_Scene_isParent.f k xs id) (parB xs id) := by
  obtain ⟨_, h2⟩ := NodeAt_v xs hn id
  have hb := nodeAtP_bd xs id 0 (by omega)
  unfold impl_Scene_isParent.f parB
  refine Ev.bind h2 ?_
  by_cases h0 : id = 0
  · simp only [if_pos h0]
    exact Ev.now _
  · simp only [if_neg h0]
    by_cases hp : nodeAtP xs id 0 < 0
    · simp only [if_pos hp, if_neg (show ¬ nodeAtP xs id 0 ≥ 0 by omega)]
      exact Ev.now _
    · simp only [if_neg hp, if_pos (show nodeAtP xs id 0 ≥ 0 by omega), if_pos (show 0 ≤ nodeAtP xs id 0 by omega), if_pos (show nodeAtP xs id 0 < (xs.length : Int) by omega)]
      exact Ev.now _
theorem SceneOk_l (xs : List S56) (hn : xs.length ≤ 1048576) (hf : ∀ x ∈ xs, nodeFitsI x) : ∀ (d i : Nat), i + d = xs.length →
    ∃ r, Ev (fun k => spec_SceneOk.l0 k (i : Int) xs) r ∧ Ev (fun k => impl_SceneOk.l0 k xs (xs.length : Int) (i : Int) xs) r := by
  intro d
  induction d with
  | zero =>
    intro i hi
    refine ⟨true, ev_done (fun k => ?_), ev_done (fun k => ?_)⟩
    · simp only [spec_SceneOk.l0]
      rw [if_neg (by omega)]
    · simp only [impl_SceneOk.l0]
      rw [if_neg (by omega)]
  | succ d ih =>
    intro i hi
    have hi2 : i < xs.length := by omega
    have e := rd_impl_Node xs i hi2
    obtain ⟨f1, f2, f3, f4, f5⟩ := hf _ (List.getElem_mem hi2)
    obtain ⟨r, ih1, ih2⟩ := ih (i + 1) (by omega)
    obtain ⟨dd, hd1, hd2⟩ := DepthOf_v xs hn xs[i].f0
    obtain ⟨n1, n2⟩ := NodeAt_v xs hn xs[i].f0
    obtain ⟨p1, _⟩ := NodeAt_v xs hn xs[i].f1
    have hpar := isParent_v xs hn xs[i].f1
    have hs := spec_NodeOk_v (a0 := xs[i].f0) (a1 := xs[i].f1) (a2 := xs[i].f2) (a3 := xs[i].f3.f0) (a4 := xs[i].f3.f1) (a5 := xs[i].f3.f2) (a6 := xs[i].f3.f3) (a7 := xs[i].f3.f4) (a8 := xs[i].f3.f5) (l9 := xs[i].f4.f0) (l10 := xs[i].f4.f1) (a11 := xs[i].f5) (a12 := xs[i].f6) (l13 := xs[i].f7) (a14 := xs[i].f8.f0) (a15 := xs[i].f8.f1.f0) (a16 := xs[i].f8.f1.f1) (a17 := xs[i].f8.f1.f2) (a18 := xs[i].f8.f1.f3) (a19 := xs[i].f8.f2.f0) (a20 := xs[i].f8.f2.f1) (a21 := xs[i].f8.f2.f2) (a22 := xs[i].f8.f2.f3) (a23 := xs[i].f8.f3.f0) (a24 := xs[i].f8.f3.f1) (a25 := xs[i].f8.f4.f0) (a26 := xs[i].f8.f4.f1) (a27 := xs[i].f9) (a28 := xs[i].f10) (l29 := xs[i].f11.f0) (l30 := xs[i].f11.f1) f3
    have hi := impl_NodeOk_v (a0 := xs[i].f0) (a1 := xs[i].f1) (a2 := xs[i].f2) (a3 := xs[i].f3.f0) (a4 := xs[i].f3.f1) (a5 := xs[i].f3.f2) (a6 := xs[i].f3.f3) (a7 := xs[i].f3.f4) (a8 := xs[i].f3.f5) (l9 := xs[i].f4.f0) (l10 := xs[i].f4.f1) (a11 := xs[i].f5) (a12 := xs[i].f6) (l13 := xs[i].f7) (a14 := xs[i].f8.f0) (a15 := xs[i].f8.f1.f0) (a16 := xs[i].f8.f1.f1) (a17 := xs[i].f8.f1.f2) (a18 := xs[i].f8.f1.f3) (a19 := xs[i].f8.f2.f0) (a20 := xs[i].f8.f2.f1) (a21 := xs[i].f8.f2.f2) (a22 := xs[i].f8.f2.f3) (a23 := xs[i].f8.f3.f0) (a24 := xs[i].f8.f3.f1) (a25 := xs[i].f8.f4.f0) (a26 := xs[i].f8.f4.f1) (a27 := xs[i].f9) (a28 := xs[i].f10) (l29 := xs[i].f11.f0) (l30 := xs[i].f11.f1) f3
    generalize nodeB xs[i].f0 xs[i].f1 xs[i].f2 xs[i].f3.f0 xs[i].f3.f1 xs[i].f3.f2 xs[i].f3.f3 xs[i].f3.f4 xs[i].f3.f5 xs[i].f4.f0 xs[i].f4.f1 xs[i].f5 xs[i].f6 xs[i].f7 xs[i].f8.f0 xs[i].f8.f1.f0 xs[i].f8.f1.f1 xs[i].f8.f1.f2 xs[i].f8.f1.f3 xs[i].f8.f2.f0 xs[i].f8.f2.f1 xs[i].f8.f2.f2 xs[i].f8.f2.f3 xs[i].f8.f3.f0 xs[i].f8.f3.f1 xs[i].f8.f4.f0 xs[i].f8.f4.f1 xs[i].f9 xs[i].f10 xs[i].f11.f0 xs[i].f11.f1 = b at hs hi
    have hpb := nodeAtP_bd xs xs[i].f1 0 (by omega)
    refine ⟨b && (decide (nodeAtP xs xs[i].f0 0 = (i : Int)) && (decide (1 ≤ dd ∧ dd ≤ 4) && (parB xs xs[i].f1 && r))), ?_, ?_⟩
    · refine Ev.step (fun k => rfl) ?_
      simp only [spec_SceneOk.l0, e, if_pos (show (i : Int) < (xs.length : Int) by omega), if_pos (show (0 : Int) ≤ (i : Int) by omega), spec_l01In_v, Option.bind_some]
      refine Ev.bind hs ?_
      cases b with
      | false =>
        refine Ev.step (fun k => rfl) ?_
        exact Ev.now _
      | true =>
      simp only [if_true, Bool.true_and]
      refine Ev.bind n1 ?_
      by_cases hq : nodeAtP xs xs[i].f0 0 = (i : Int)
      · simp only [if_pos hq]
        rw [decide_eq_true hq, Bool.true_and]
        refine Ev.bind hd1 ?_
        cases decide (1 ≤ dd ∧ dd ≤ 4) with
        | false =>
          refine Ev.step (fun k => rfl) ?_
          exact Ev.now _
        | true =>
        rw [Bool.true_and]
        refine Ev.step (fun k => rfl) ?_
        simp only [spec_SceneOk.j1, Bool.not_true, Bool.false_eq_true, if_false]
        refine Ev.bind p1 ?_
        unfold parB
        by_cases h0 : xs[i].f1 = 0
        · simp only [if_pos h0, Bool.true_and]
          rw [step64 hi2 (by omega)]
          exact ih1
        · simp only [if_neg h0]
          by_cases hp : nodeAtP xs xs[i].f1 0 < 0
          · simp only [if_pos hp, Bool.false_and]
            exact Ev.now _
          · simp only [if_neg hp, if_pos (show 0 ≤ nodeAtP xs xs[i].f1 0 by omega), if_pos (show nodeAtP xs xs[i].f1 0 < (xs.length : Int) by omega)]
            cases (rd_T56 xs (nodeAtP xs xs[i].f1 0)).f2 with
            | false => exact Ev.now _
            | true =>
              simp only [if_true, Bool.true_and]
              rw [step64 hi2 (by omega)]
              exact ih1
      · simp only [if_neg hq]
        rw [decide_eq_false hq, Bool.false_and]
        refine Ev.step (fun k => rfl) ?_
        exact Ev.now _
    · refine Ev.step (fun k => rfl) ?_
      simp only [impl_SceneOk.l0, e, if_pos (show (i : Int) < (xs.length : Int) by omega), if_pos (show (0 : Int) ≤ (i : Int) by omega), impl_inRange_v, Option.bind_some]
      refine Ev.bind hi ?_
      cases b with
      | false => exact Ev.now _
      | true =>
      simp only [if_true, Bool.true_and]
      refine Ev.bind n2 ?_
      by_cases hq : nodeAtP xs xs[i].f0 0 = (i : Int)
      · simp only [if_pos hq]
        rw [decide_eq_true hq, Bool.true_and]
        refine Ev.bind hpar ?_
        generalize parB xs xs[i].f1 = pb
        cases pb with
        | false =>
          rw [Bool.false_and, Bool.and_false]
          exact Ev.now _
        | true =>
        simp only [if_true, Bool.true_and]
        refine Ev.bind hd2 ?_
        cases decide (1 ≤ dd ∧ dd ≤ 4) with
        | false => exact Ev.now _
        | true =>
          simp only [if_true, Bool.true_and]
          rw [step64 hi2 (by omega)]
          exact ih2
      · simp only [if_neg hq]
        rw [decide_eq_false hq, Bool.false_and]
        exact Ev.now _
theorem SceneOk_v (xs : List S56) (hn : xs.length ≤ 1048576) (hf : ∀ x ∈ xs, nodeFitsI x) : ∃ r, Ev (fun k => spec_SceneOk.f k xs) r ∧ Ev (fun k => impl_SceneOk.f k xs) r := by
  unfold spec_SceneOk.f impl_SceneOk.f
  by_cases h : (xs.length : Int) > 8
  · simp only [if_pos h]
    exact ⟨false, Ev.now _, Ev.now _⟩
  · simp only [if_neg h]
    exact SceneOk_l xs hn hf xs.length 0 (by omega)

/-! law_FnExactSceneOk -/
theorem pure : PureS := by
  intro l hl
  have hr : ∀ y ∈ l, nodeRoom y := fun y hy => by
    obtain ⟨_, _, _, _, h4, _, _, h7, _, _, _, h11⟩ := hl.2 y hy
    exact ⟨h4.1.1, h4.2.1, h7.1, h11.1.1, h11.2.1⟩
  obtain ⟨m, hz, hc⟩ := szScene_v l hl.1 hr
  refine Ev.rounds ?_
  unfold laws_FnExactSceneOk.f
  refine Ev.bind hz ?_
  by_cases hm : m < 0
  · simp only [if_pos hm]
    exact Ev.now true
  · obtain ⟨hn, hf⟩ := hc (by omega)
    have ht := toScene_v l hn hf
    have hn2 : (l.map convNode).length ≤ 1048576 := by simpa using hn
    have hf2 : ∀ y ∈ l.map convNode, nodeFitsI y := fun y hy => by obtain ⟨z, hz, rfl⟩ := List.mem_map.mp hy; exact convNode_fits (hf z hz)
    have he := eqScene_v (l.map convNode) hn2 hf2
    simp only [if_neg hm]
    obtain ⟨r, h1, h2⟩ := SceneOk_v (l.map convNode) hn2 hf2
    refine Ev.bind ht (Ev.bind h1 (Ev.bind ht (Ev.bind h2 ?_)))
    simp only [bne_self_eq_false, Bool.false_eq_true, if_false]
    refine Ev.bind ht (Ev.bind he ?_)
    simp only [if_true]
    exact Ev.now true

end Go.Proofs.Ytghbenapnhcllaa.QFnExactSceneOk
