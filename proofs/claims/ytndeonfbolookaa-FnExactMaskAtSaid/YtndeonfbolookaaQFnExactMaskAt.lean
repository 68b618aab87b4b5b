/- The pure statement of the law FnExactMaskAt, for every input: what the printed functions compute makes the law answer true. No conditions beyond what the row reads. -/
import Derived.Test.YtndeonfbolookaaTFnExactMaskAt
namespace Go.Proofs.Ytndeonfbolookaa.QFnExactMaskAt
open Go.RowKit Go.Proofs.Ytndeonfbolookaa.MFnExactMaskAt Go.Proofs.Ytndeonfbolookaa.TFnExactMaskAt Go.Proofs.YtndeonfbolookaaW.PrintWords Go.Proofs.YtndeonfbolookaaW.PrintLast
set_option linter.unusedVariables false
set_option linter.unusedSimpArgs false

/-! base -/
theorem w64 {x : Int} (h1 : -9223372036854775808 ≤ x) (h2 : x ≤ 9223372036854775807) : wrap64 x = x := by
  unfold wrap64
  omega

theorem wf64 {x : Int} (h : (Lit.int .i64 x).wf = true) : -9223372036854775808 ≤ x ∧ x ≤ 9223372036854775807 := by
  have h2 : (decide (IntKind.i64.min ≤ x) && decide (x ≤ IntKind.i64.max)) = true := h
  rw [Bool.and_eq_true, decide_eq_true_eq, decide_eq_true_eq] at h2
  exact ⟨h2.1, h2.2⟩

theorem take_set_succ {α : Type} (xs : List α) (i : Nat) (v : α) (h : i < xs.length) : (xs.set i v).take (i + 1) = xs.take i ++ [v] := by
  rw [List.take_succ_eq_append_getElem (by simpa using h), List.take_set_of_le (Nat.le_refl i), List.getElem_set_self]

theorem step64 {i n : Nat} (h : i < n) (hn : n ≤ 4611686018427387904) : wrap64 ((i : Int) + 1) = ((i + 1 : Nat) : Int) := by
  rw [w64 (by omega) (by omega)]
  omega

theorem ev_done {α : Type} {g : Nat → Option α} {r : α} (h : ∀ k, g (k + 1) = some r) : Ev g r := Ev.step (f := fun _ => some r) h (Ev.now r)

theorem ev_const {α : Type} {o : Option α} {r : α} (h : o = some r) : Ev (fun _ => o) r := by
  subst h
  exact Ev.now r

/-! laws_szPointS -/
theorem laws_szPointS_v (l : List S38) (a : Int) (h0 : 0 ≤ a) (h1 : a ≤ 1048576) (hl : l.length ≤ maxLen) : laws_szPointS.f l a = some (if (l.length : Int) ≤ a then a - (l.length : Int) else -1) := by
  unfold maxLen at hl
  have hw : wrap64 (a - (l.length : Int)) = a - (l.length : Int) := w64 (by omega) (by omega)
  unfold laws_szPointS.f
  rw [hw]
  by_cases h : (l.length : Int) ≤ a
  · rw [if_neg (by omega), if_pos h]
  · rw [if_pos (by omega), if_neg h]

/-! rd_laws_Point -/
theorem rd_laws_Point (xs : List S38) (i : Nat) (h : i < xs.length) : rd_T38 xs (i : Int) = xs[i] := by
  unfold rd_T38
  simp [h]

/-! laws_toPointS -/
def convPoint (x : S38) : S42 := ⟨x.f0, x.f1⟩
theorem laws_toPointS_l (x0 : List S38) (hn : x0.length ≤ 1048576) : ∀ (d i : Nat) (x3 : List S42), x3.length = x0.length → i + d = x0.length →
    Ev (fun k => laws_toPointS.l0 k x0 x3 (i : Int)) (x3.take i ++ (x0.drop i).map convPoint) := by
  intro d
  induction d with
  | zero =>
    intro i x3 hl hi
    refine ev_done (fun k => ?_)
    simp only [laws_toPointS.l0]
    rw [if_neg (by omega), List.take_of_length_le (by omega), List.drop_of_length_le (by omega)]
    simp
  | succ d ih =>
    intro i x3 hl hi
    have hi2 : i < x0.length := by omega
    refine Ev.step (f := fun k => laws_toPointS.l0 k x0 (x3.set i (convPoint x0[i])) ((i + 1 : Nat) : Int)) (fun k => ?_) ?_
    · simp only [laws_toPointS.l0, laws_toPoint.f, Option.bind_some]
      rw [if_pos (by omega), if_pos (by omega), step64 hi2 (by omega), rd_laws_Point _ _ hi2]
      rw [if_pos (by omega)]
      rfl
    · have h := ih (i + 1) (x3.set i (convPoint x0[i])) (by simpa using hl) (by omega)
      rw [take_set_succ _ _ _ (by omega)] at h
      rw [List.drop_eq_getElem_cons hi2]
      rw [List.append_assoc] at h
      exact h
theorem laws_toPointS_v (x0 : List S38) (hn : x0.length ≤ 1048576) : Ev (fun k => laws_toPointS.f k x0) (x0.map convPoint) := by
  have h := laws_toPointS_l x0 hn x0.length 0 (List.replicate x0.length z42) (by simp) (by omega)
  refine Ev.congr (fun k => ?_) (by simpa using h)
  unfold laws_toPointS.f
  rw [if_pos (by omega), if_pos (by omega)]
  simp

/-! laws_eqPointS -/
theorem laws_eqPointS_l (x0 : List S42) (hn : x0.length ≤ 1048576) : ∀ (d i : Nat), i + d = x0.length → Ev (fun k => laws_eqPointS.l0 k x0 x0 (i : Int)) true := by
  intro d
  induction d with
  | zero =>
    intro i hi
    refine ev_done (fun k => ?_)
    simp only [laws_eqPointS.l0]
    rw [if_neg (by omega)]
  | succ d ih =>
    intro i hi
    have hi2 : i < x0.length := by omega
    refine Ev.step (fun k => ?_) (ih (i + 1) (by omega))
    simp only [laws_eqPointS.l0, laws_eqPoint.f]
    rw [if_pos (by omega), if_pos (by omega), if_pos (by omega), step64 hi2 (by omega)]
    simp
theorem laws_eqPointS_v (x0 : List S42) (hn : x0.length ≤ 1048576) : Ev (fun k => laws_eqPointS.f k x0 x0) true := by
  refine Ev.congr (fun k => ?_) (laws_eqPointS_l x0 hn x0.length 0 (by omega))
  unfold laws_eqPointS.f
  rw [if_pos rfl]
  rfl

/-! lists_PointSS -/
def totL (l : List (List S38)) : Int := match l with | [] => 0 | x :: xs => (x.length : Int) + totL xs
theorem totL_nonneg : ∀ l : List (List S38), 0 ≤ totL l
  | [] => by simp [totL]
  | x :: xs => by have := totL_nonneg xs; rw [totL]; omega
theorem totL_mem : ∀ (l : List (List S38)) (x : List S38), x ∈ l → (x.length : Int) ≤ totL l
  | y :: ys, x, h => by
    have := totL_nonneg ys
    rw [totL]
    rcases List.mem_cons.mp h with rfl | h
    · omega
    · have := totL_mem ys x h
      omega
theorem rd_laws_PointSS (xs : List (List S38)) (i : Nat) (h : i < xs.length) : rd_L2 xs (i : Int) = xs[i] := by
  unfold rd_L2
  simp [h]
theorem rd_impl_PointSS (xs : List (List S42)) (i : Nat) (h : i < xs.length) : rd_L4 xs (i : Int) = xs[i] := by
  unfold rd_L4
  simp [h]
theorem laws_toPointSS_l (x0 : List (List S38)) (hn : x0.length ≤ 1048576) (hm : ∀ x ∈ x0, x.length ≤ 1048576) : ∀ (d i : Nat) (x3 : List (List S42)), x3.length = x0.length → i + d = x0.length →
    Ev (fun k => laws_toPointSS.l0 k x0 x3 (i : Int)) (x3.take i ++ (x0.drop i).map (List.map convPoint)) := by
  intro d
  induction d with
  | zero =>
    intro i x3 hl hi
    refine ev_done (fun k => ?_)
    simp only [laws_toPointSS.l0]
    rw [if_neg (by omega), List.take_of_length_le (by omega), List.drop_of_length_le (by omega)]
    simp
  | succ d ih =>
    intro i x3 hl hi
    have hi2 : i < x0.length := by omega
    have h := ih (i + 1) (x3.set i (x0[i].map convPoint)) (by simpa using hl) (by omega)
    rw [take_set_succ _ _ _ (by omega)] at h
    rw [List.drop_eq_getElem_cons hi2]
    rw [List.append_assoc] at h
    refine Ev.step (f := fun k => (laws_toPointS.f k x0[i]).bind fun t => laws_toPointSS.l0 k x0 (x3.set i t) ((i + 1 : Nat) : Int)) (fun k => ?_) (Ev.bind (laws_toPointS_v _ (hm _ (List.getElem_mem hi2))) h)
    simp only [laws_toPointSS.l0]
    rw [if_pos (by omega), if_pos (by omega), step64 hi2 (by omega), rd_laws_PointSS _ _ hi2]
    simp only [if_pos (show (i : Int) < (x3.length : Int) by omega)]
    rfl
theorem laws_toPointSS_v (x0 : List (List S38)) (hn : x0.length ≤ 1048576) (hm : ∀ x ∈ x0, x.length ≤ 1048576) : Ev (fun k => laws_toPointSS.f k x0) (x0.map (List.map convPoint)) := by
  have h := laws_toPointSS_l x0 hn hm x0.length 0 (List.replicate x0.length []) (by simp) (by omega)
  refine Ev.congr (fun k => ?_) (by simpa using h)
  unfold laws_toPointSS.f
  rw [if_pos (by omega), if_pos (by omega)]
  simp
theorem laws_eqPointSS_l (x0 : List (List S42)) (hn : x0.length ≤ 1048576) (hm : ∀ x ∈ x0, x.length ≤ 1048576) : ∀ (d i : Nat), i + d = x0.length → Ev (fun k => laws_eqPointSS.l0 k x0 x0 (i : Int)) true := by
  intro d
  induction d with
  | zero =>
    intro i hi
    refine ev_done (fun k => ?_)
    simp only [laws_eqPointSS.l0]
    rw [if_neg (by omega)]
  | succ d ih =>
    intro i hi
    have hi2 : i < x0.length := by omega
    refine Ev.step (f := fun k => (laws_eqPointS.f k x0[i] x0[i]).bind fun t => if t = true then laws_eqPointSS.l0 k x0 x0 ((i + 1 : Nat) : Int) else some false) (fun k => ?_) (Ev.bind (laws_eqPointS_v _ (hm _ (List.getElem_mem hi2))) ?_)
    · simp only [laws_eqPointSS.l0]
      rw [if_pos (by omega), if_pos (by omega), if_pos (by omega), step64 hi2 (by omega), rd_impl_PointSS _ _ hi2]
    · simp only [if_true]
      exact ih (i + 1) (by omega)
theorem laws_eqPointSS_v (x0 : List (List S42)) (hn : x0.length ≤ 1048576) (hm : ∀ x ∈ x0, x.length ≤ 1048576) : Ev (fun k => laws_eqPointSS.f k x0 x0) true := by
  refine Ev.congr (fun k => ?_) (laws_eqPointSS_l x0 hn hm x0.length 0 (by omega))
  unfold laws_eqPointSS.f
  rw [if_pos rfl]
  rfl

/-! spec_l01In -/
theorem spec_l01In_v (a b c : Int) : spec_l01In.f a b c = some (decide (b ≤ a ∧ a ≤ c)) := by
  unfold spec_l01In.f
  by_cases h : a ≥ b
  · rw [if_pos h]
    simp [h]
  · rw [if_neg h]
    simp
    omega

/-! spec_l10Near -/
def nearP (a b : Int) : Prop := (-33554432 ≤ a ∧ a ≤ 33554432) ∧ (-33554432 ≤ b ∧ b ≤ 33554432)
instance (a b : Int) : Decidable (nearP a b) := by unfold nearP; infer_instance
theorem spec_l10Near_v (a b : Int) : spec_l10Near.f a b = some (decide (nearP a b)) := by
  unfold spec_l10Near.f nearP
  simp only [spec_l01In_v, Option.bind_some, decide_eq_true_eq]
  repeat' split
  all_goals first | (refine congrArg some (decide_eq_decide.mpr ?_); omega) | (refine congrArg some (Eq.symm (decide_eq_false ?_)); omega)

/-! rd_impl_Point -/
theorem rd_impl_Point (xs : List S42) (i : Nat) (h : i < xs.length) : rd_T42 xs (i : Int) = xs[i] := by
  unfold rd_T42
  simp [h]

/-! windV -/
def edgeV (ax ay bx by_ px py : Int) : Int :=
  if ay ≤ py ∧ py < by_ ∧ (bx - ax) * (py - ay) - (px - ax) * (by_ - ay) > 0 then 1
  else if by_ ≤ py ∧ py < ay ∧ (bx - ax) * (py - ay) - (px - ax) * (by_ - ay) < 0 then -1 else 0
theorem edgeV_bd (ax ay bx by_ px py : Int) : -1 ≤ edgeV ax ay bx by_ px py ∧ edgeV ax ay bx by_ px py ≤ 1 := by
  unfold edgeV
  split
  · omega
  · split <;> omega
def ptAt (l : List S42) (i : Nat) : S42 := l.getD i z42
def windFrom (l : List S42) (px py : Int) : Nat → Nat → Int
  | 0, _ => 0
  | d + 1, i => edgeV (ptAt l i).f0 (ptAt l i).f1 (ptAt l ((i + 1) % l.length)).f0 (ptAt l ((i + 1) % l.length)).f1 px py + windFrom l px py d (i + 1)
theorem windFrom_bd (l : List S42) (px py : Int) : ∀ (d i : Nat), -(d : Int) ≤ windFrom l px py d i ∧ windFrom l px py d i ≤ d
  | 0, _ => by simp [windFrom]
  | d + 1, i => by
    have h := windFrom_bd l px py d (i + 1)
    have e := edgeV_bd (ptAt l i).f0 (ptAt l i).f1 (ptAt l ((i + 1) % l.length)).f0 (ptAt l ((i + 1) % l.length)).f1 px py
    rw [windFrom]
    omega
def allNear (l : List S42) : Prop := ∀ i, i < l.length → nearP (ptAt l i).f0 (ptAt l i).f1
instance (l : List S42) : Decidable (allNear l) := by unfold allNear; infer_instance
def windV (l : List S42) (px py : Int) : Int := if nearP px py ∧ allNear l then windFrom l px py l.length 0 else 0
theorem rd_ptAt (l : List S42) (i : Nat) : rd_T42 l (i : Int) = ptAt l i := rfl
theorem mul_bd {x y : Int} (hx : -67108864 ≤ x) (hx2 : x ≤ 67108864) (hy : -67108864 ≤ y) (hy2 : y ≤ 67108864) : -4503599627370496 ≤ x * y ∧ x * y ≤ 4503599627370496 := by
  have h1 : 0 ≤ (67108864 - x) * (67108864 + y) := Int.mul_nonneg (by omega) (by omega)
  have h2 : 0 ≤ (67108864 + x) * (67108864 - y) := Int.mul_nonneg (by omega) (by omega)
  have h3 : 0 ≤ (67108864 - x) * (67108864 - y) := Int.mul_nonneg (by omega) (by omega)
  have h4 : 0 ≤ (67108864 + x) * (67108864 + y) := Int.mul_nonneg (by omega) (by omega)
  simp only [Int.sub_mul, Int.mul_sub, Int.add_mul, Int.mul_add] at h1 h2 h3 h4
  omega
/-- What both compute as the side of an edge, without wraps. -/
theorem sideW {ax ay bx by_ px py : Int} (ha : nearP ax ay) (hb : nearP bx by_) (hp : nearP px py) :
    wrap64 ((wrap64 ((wrap64 (bx - ax)) * (wrap64 (py - ay)))) - (wrap64 ((wrap64 (px - ax)) * (wrap64 (by_ - ay))))) = (bx - ax) * (py - ay) - (px - ax) * (by_ - ay) := by
  obtain ⟨⟨a1, a2⟩, a3, a4⟩ := ha
  obtain ⟨⟨b1, b2⟩, b3, b4⟩ := hb
  obtain ⟨⟨p1, p2⟩, p3, p4⟩ := hp
  have m1 := mul_bd (x := bx - ax) (y := py - ay) (by omega) (by omega) (by omega) (by omega)
  have m2 := mul_bd (x := px - ax) (y := by_ - ay) (by omega) (by omega) (by omega) (by omega)
  rw [w64 (x := bx - ax) (by omega) (by omega), w64 (x := py - ay) (by omega) (by omega), w64 (x := px - ax) (by omega) (by omega), w64 (x := by_ - ay) (by omega) (by omega)]
  rw [w64 (x := (bx - ax) * (py - ay)) (by omega) (by omega), w64 (x := (px - ax) * (by_ - ay)) (by omega) (by omega), w64 (by omega) (by omega)]
/-- The next place, around the list. -/
theorem nextW {i n : Nat} (h : i < n) (hn : n ≤ 4611686018427387904) : Int.tmod (wrap64 ((i : Int) + 1)) (n : Int) = (((i + 1) % n : Nat) : Int) := by
  rw [step64 h hn, Int.tmod_eq_emod_of_nonneg (by omega)]
  omega
theorem cnt_up {n i d e s : Int} (hn : -i ≤ n) (hn2 : n ≤ i) (hi : 0 ≤ i) (hi2 : i ≤ 1048576) : wrap64 (n + 1) = n + 1 ∧ wrap64 (n - 1) = n - 1 ∧ wrap64 (n + 1 - 1) = n := ⟨w64 (by omega) (by omega), w64 (by omega) (by omega), by rw [show n + 1 - 1 = n by omega]; exact w64 (by omega) (by omega)⟩

/-! spec_WindOf -/
theorem spec_WindOf_j2 {x0 : List S42} {n i s px py ax ay bx by_ r : Int} {c : Bool}
    (h : Ev (fun k => spec_WindOf.l0 k x0 (if c = true then (if by_ ≤ py ∧ py < ay ∧ s < 0 then wrap64 (wrap64 (n + 1) - 1) else wrap64 (n + 1)) else (if by_ ≤ py ∧ py < ay ∧ s < 0 then wrap64 (n - 1) else n)) (wrap64 (i + 1)) px py) r) :
    Ev (fun k => spec_WindOf.j2 k x0 n i s c px py ax ay bx by_) r := by
  refine Ev.step (fun k => ?_) h
  simp only [spec_WindOf.j2]
  by_cases h1 : c = true <;> by_cases h2 : by_ ≤ py <;> by_cases h3 : py < ay <;> by_cases h4 : s < 0 <;> simp [h1, h2, h3, h4]
theorem spec_WindOf_j1 {x0 : List S42} {n px py ax ay bx by_ r : Int} {i : Nat} (ha : nearP ax ay) (hb : nearP bx by_) (hp : nearP px py) (hn : -(i : Int) ≤ n) (hn2 : n ≤ i) (hi : i < x0.length) (hl : x0.length ≤ 1048576)
    (h : Ev (fun k => spec_WindOf.l0 k x0 (n + edgeV ax ay bx by_ px py) ((i + 1 : Nat) : Int) px py) r) :
    Ev (fun k => spec_WindOf.j1 k x0 n (i : Int) false px py ax ay bx by_) r := by
  obtain ⟨u1, u2, u3⟩ := cnt_up (d := 0) (e := 0) (s := 0) hn hn2 (by omega) (by omega)
  have key : ∀ c : Bool, (c = true ↔ ay ≤ py ∧ py < by_ ∧ (bx - ax) * (py - ay) - (px - ax) * (by_ - ay) > 0) →
      Ev (fun k => spec_WindOf.j2 k x0 n (i : Int) ((bx - ax) * (py - ay) - (px - ax) * (by_ - ay)) c px py ax ay bx by_) r := by
    intro c hc
    refine spec_WindOf_j2 ?_
    rw [step64 hi (by omega)]
    have e : (if c = true then (if by_ ≤ py ∧ py < ay ∧ (bx - ax) * (py - ay) - (px - ax) * (by_ - ay) < 0 then wrap64 (wrap64 (n + 1) - 1) else wrap64 (n + 1)) else (if by_ ≤ py ∧ py < ay ∧ (bx - ax) * (py - ay) - (px - ax) * (by_ - ay) < 0 then wrap64 (n - 1) else n)) = n + edgeV ax ay bx by_ px py := by
      rw [u1, u2, u3]
      unfold edgeV
      by_cases q : c = true
      · rw [if_pos q, if_pos (hc.mp q), if_neg (by have := hc.mp q; omega)]
      · rw [if_neg q, if_neg (fun z => q (hc.mpr z))]
        split <;> omega
    rw [e]
    exact h
  by_cases h1 : ay ≤ py
  · by_cases h2 : py < by_
    · refine Ev.step (fun k => ?_) (key (decide ((bx - ax) * (py - ay) - (px - ax) * (by_ - ay) > 0)) (by simp [h1, h2]))
      simp only [spec_WindOf.j1]
      rw [if_neg (by decide), if_pos h1, if_pos h2, sideW ha hb hp]
    · refine Ev.step (fun k => ?_) (key false (by simp [h2]))
      simp only [spec_WindOf.j1]
      rw [if_neg (by decide), if_pos h1, if_neg h2, sideW ha hb hp]
  · refine Ev.step (fun k => ?_) (key false (by simp [h1]))
    simp only [spec_WindOf.j1]
    rw [if_neg (by decide), if_neg h1, sideW ha hb hp]
theorem spec_WindOf_l {x0 : List S42} {px py : Int} (hp : nearP px py) (hl : x0.length ≤ 1048576) (hN : allNear x0) : ∀ (d i : Nat) (n : Int), i + d = x0.length → -(i : Int) ≤ n → n ≤ i →
    Ev (fun k => spec_WindOf.l0 k x0 n (i : Int) px py) (n + windFrom x0 px py d i) := by
  intro d
  induction d with
  | zero =>
    intro i n hi h1 h2
    refine ev_done (fun k => ?_)
    simp only [spec_WindOf.l0]
    rw [if_neg (by omega)]
    simp [windFrom]
  | succ d ih =>
    intro i n hi h1 h2
    have hi2 : i < x0.length := by omega
    have hm : (i + 1) % x0.length < x0.length := Nat.mod_lt _ (by omega)
    have ha := hN i hi2
    have hb := hN _ hm
    have e := edgeV_bd (ptAt x0 i).f0 (ptAt x0 i).f1 (ptAt x0 ((i + 1) % x0.length)).f0 (ptAt x0 ((i + 1) % x0.length)).f1 px py
    have h := ih (i + 1) (n + edgeV (ptAt x0 i).f0 (ptAt x0 i).f1 (ptAt x0 ((i + 1) % x0.length)).f0 (ptAt x0 ((i + 1) % x0.length)).f1 px py) (by omega) (by omega) (by omega)
    rw [Int.add_assoc] at h
    refine Ev.step (fun k => ?_) (spec_WindOf_j1 ha hb hp h1 h2 hi2 hl h)
    simp only [spec_WindOf.l0]
    rw [if_pos (by omega), if_pos (by omega), if_neg (by omega), nextW hi2 (by omega), if_pos (by omega), if_pos (by omega), rd_ptAt, rd_ptAt]
    simp only [spec_l10Near_v, Option.bind_some]
    rw [if_pos (decide_eq_true ha), decide_eq_true hb]
    rfl
theorem spec_WindOf_bad {x0 : List S42} {px py : Int} (hp : nearP px py) (hl : x0.length ≤ 1048576) : ∀ (d i : Nat) (n : Int), i + d = x0.length → -(i : Int) ≤ n → n ≤ i → (∃ j, i ≤ j ∧ j < x0.length ∧ ¬ nearP (ptAt x0 j).f0 (ptAt x0 j).f1) →
    Ev (fun k => spec_WindOf.l0 k x0 n (i : Int) px py) 0 := by
  intro d
  induction d with
  | zero =>
    intro i n hi h1 h2 hj
    obtain ⟨j, hj⟩ := hj
    omega
  | succ d ih =>
    intro i n hi h1 h2 hj
    have hi2 : i < x0.length := by omega
    by_cases ha : nearP (ptAt x0 i).f0 (ptAt x0 i).f1
    · by_cases hb : nearP (ptAt x0 ((i + 1) % x0.length)).f0 (ptAt x0 ((i + 1) % x0.length)).f1
      · have e := edgeV_bd (ptAt x0 i).f0 (ptAt x0 i).f1 (ptAt x0 ((i + 1) % x0.length)).f0 (ptAt x0 ((i + 1) % x0.length)).f1 px py
        have h := ih (i + 1) (n + edgeV (ptAt x0 i).f0 (ptAt x0 i).f1 (ptAt x0 ((i + 1) % x0.length)).f0 (ptAt x0 ((i + 1) % x0.length)).f1 px py) (by omega) (by omega) (by omega) (by
          obtain ⟨j, j1, j2, j3⟩ := hj
          refine ⟨j, ?_, j2, j3⟩
          rcases Nat.lt_or_ge i j with q | q
          · omega
          · obtain rfl : i = j := by omega
            exact absurd ha j3)
        refine Ev.step (fun k => ?_) (spec_WindOf_j1 ha hb hp h1 h2 hi2 hl h)
        simp only [spec_WindOf.l0]
        rw [if_pos (by omega), if_pos (by omega), if_neg (by omega), nextW hi2 (by omega), if_pos (by omega), if_pos (by have := Nat.mod_lt (i + 1) (y := x0.length) (by omega); omega), rd_ptAt, rd_ptAt]
        simp only [spec_l10Near_v, Option.bind_some]
        rw [if_pos (decide_eq_true ha), decide_eq_true hb]
        rfl
      · refine Ev.step (f := fun k => spec_WindOf.j1 k x0 n (i : Int) true px py (ptAt x0 i).f0 (ptAt x0 i).f1 (ptAt x0 ((i + 1) % x0.length)).f0 (ptAt x0 ((i + 1) % x0.length)).f1) (fun k => ?_) (ev_done (fun k => by simp only [spec_WindOf.j1, if_true]))
        simp only [spec_WindOf.l0]
        rw [if_pos (by omega), if_pos (by omega), if_neg (by omega), nextW hi2 (by omega), if_pos (by omega), if_pos (by have := Nat.mod_lt (i + 1) (y := x0.length) (by omega); omega), rd_ptAt, rd_ptAt]
        simp only [spec_l10Near_v, Option.bind_some]
        rw [if_pos (decide_eq_true ha), decide_eq_false hb]
        rfl
    · refine Ev.step (f := fun k => spec_WindOf.j1 k x0 n (i : Int) true px py (ptAt x0 i).f0 (ptAt x0 i).f1 (ptAt x0 ((i + 1) % x0.length)).f0 (ptAt x0 ((i + 1) % x0.length)).f1) (fun k => ?_) (ev_done (fun k => by simp only [spec_WindOf.j1, if_true]))
      simp only [spec_WindOf.l0]
      rw [if_pos (by omega), if_pos (by omega), if_neg (by omega), nextW hi2 (by omega), if_pos (by omega), if_pos (by have := Nat.mod_lt (i + 1) (y := x0.length) (by omega); omega), rd_ptAt, rd_ptAt]
      simp only [spec_l10Near_v, Option.bind_some]
      rw [if_neg (by simpa using ha)]
theorem not_allNear {x0 : List S42} (h : ¬ allNear x0) : ∃ j, 0 ≤ j ∧ j < x0.length ∧ ¬ nearP (ptAt x0 j).f0 (ptAt x0 j).f1 := by
  apply Classical.byContradiction
  intro hc
  apply h
  intro i hi
  apply Classical.byContradiction
  intro hn
  exact hc ⟨i, Nat.zero_le _, hi, hn⟩
theorem spec_WindOf_v (x0 : List S42) (px py : Int) (hl : x0.length ≤ 1048576) : Ev (fun k => spec_WindOf.f k x0 px py) (windV x0 px py) := by
  unfold windV
  by_cases hp : nearP px py
  · have e : ∀ k, spec_WindOf.f k x0 px py = spec_WindOf.l0 k x0 0 ((0 : Nat) : Int) px py := fun k => by
      unfold spec_WindOf.f
      rw [spec_l10Near_v, Option.bind_some, if_pos (decide_eq_true hp)]
      rfl
    by_cases hN : allNear x0
    · rw [if_pos ⟨hp, hN⟩]
      have h := spec_WindOf_l hp hl hN x0.length 0 0 (by omega) (by omega) (by omega)
      rw [Int.zero_add] at h
      exact Ev.congr e h
    · rw [if_neg (fun z => hN z.2)]
      exact Ev.congr e (spec_WindOf_bad hp hl x0.length 0 0 (by omega) (by omega) (by omega) (not_allNear hN))
  · rw [if_neg (fun z => hp z.1)]
    refine Ev.congr (fun k => ?_) (Ev.now 0)
    unfold spec_WindOf.f
    rw [spec_l10Near_v, Option.bind_some, if_neg (by simpa using hp)]

/-! impl_inRange -/
theorem impl_inRange_v (a b c : Int) : impl_inRange.f a b c = some (decide (b ≤ a ∧ a ≤ c)) := by
  unfold impl_inRange.f
  by_cases h : a ≥ b
  · rw [if_pos h]
    simp [h]
  · rw [if_neg h]
    simp
    omega

/-! impl_isNear -/
theorem impl_isNear_v (a b : Int) : impl_isNear.f a b = some (decide (nearP a b)) := by
  unfold impl_isNear.f nearP
  simp only [impl_inRange_v, Option.bind_some, decide_eq_true_eq]
  repeat' split
  all_goals first | (refine congrArg some (decide_eq_decide.mpr ?_); omega) | (refine congrArg some (Eq.symm (decide_eq_false ?_)); omega)

/-! impl_WindOf -/
theorem impl_WindOf_j2 {x0 : List S42} {n px py ax ay bx by_ r s : Int} {i m : Int} {c : Bool}
    (h : Ev (fun k => impl_WindOf.l1 k x0 (if c = true then wrap64 (n + 1) else (if by_ ≤ py ∧ py < ay ∧ s < 0 then wrap64 (n - 1) else n)) x0 m (wrap64 (i + 1)) px py) r) :
    Ev (fun k => impl_WindOf.j2 k x0 n s x0 m i c px py ax ay bx by_) r := by
  refine Ev.step (fun k => ?_) h
  simp only [impl_WindOf.j2]
  by_cases h1 : c = true <;> by_cases h2 : by_ ≤ py <;> by_cases h3 : py < ay <;> by_cases h4 : s < 0 <;> simp [h1, h2, h3, h4]
theorem impl_WindOf_l {x0 : List S42} {px py : Int} (hp : nearP px py) (hl : x0.length ≤ 1048576) (hN : allNear x0) : ∀ (d i : Nat) (n : Int), i + d = x0.length → -(i : Int) ≤ n → n ≤ i →
    Ev (fun k => impl_WindOf.l1 k x0 n x0 (x0.length : Int) (i : Int) px py) (n + windFrom x0 px py d i) := by
  intro d
  induction d with
  | zero =>
    intro i n hi h1 h2
    refine ev_done (fun k => ?_)
    simp only [impl_WindOf.l1]
    rw [if_neg (by omega)]
    simp [windFrom]
  | succ d ih =>
    intro i n hi h1 h2
    have hi2 : i < x0.length := by omega
    have hm : (i + 1) % x0.length < x0.length := Nat.mod_lt _ (by omega)
    have ha := hN i hi2
    have hb := hN _ hm
    rw [windFrom]
    generalize hA : ptAt x0 i = A at *
    generalize hB : ptAt x0 ((i + 1) % x0.length) = B at *
    obtain ⟨u1, u2, u3⟩ := cnt_up (d := 0) (e := 0) (s := 0) h1 h2 (by omega) (by omega)
    have e := edgeV_bd A.f0 A.f1 B.f0 B.f1 px py
    have h := ih (i + 1) (n + edgeV A.f0 A.f1 B.f0 B.f1 px py) (by omega) (by omega) (by omega)
    rw [Int.add_assoc] at h
    have key : ∀ c : Bool, (c = true ↔ A.f1 ≤ py ∧ py < B.f1 ∧ (B.f0 - A.f0) * (py - A.f1) - (px - A.f0) * (B.f1 - A.f1) > 0) →
        Ev (fun k => impl_WindOf.j2 k x0 n ((B.f0 - A.f0) * (py - A.f1) - (px - A.f0) * (B.f1 - A.f1)) x0 (x0.length : Int) (i : Int) c px py A.f0 A.f1 B.f0 B.f1) (n + (edgeV A.f0 A.f1 B.f0 B.f1 px py + windFrom x0 px py d (i + 1))) := by
      intro c hc
      refine impl_WindOf_j2 ?_
      rw [step64 hi2 (by omega)]
      have e : (if c = true then wrap64 (n + 1) else (if B.f1 ≤ py ∧ py < A.f1 ∧ (B.f0 - A.f0) * (py - A.f1) - (px - A.f0) * (B.f1 - A.f1) < 0 then wrap64 (n - 1) else n)) = n + edgeV A.f0 A.f1 B.f0 B.f1 px py := by
        rw [u1, u2]
        unfold edgeV
        by_cases q : c = true
        · rw [if_pos q, if_pos (hc.mp q)]
        · rw [if_neg q, if_neg (fun z => q (hc.mpr z))]
          split <;> omega
      rw [e]
      exact h
    by_cases c1 : A.f1 ≤ py
    · by_cases c2 : py < B.f1
      · refine Ev.step (fun k => ?_) (key (decide ((B.f0 - A.f0) * (py - A.f1) - (px - A.f0) * (B.f1 - A.f1) > 0)) (by simp [c1, c2]))
        simp only [impl_WindOf.l1]
        rw [if_pos (by omega), if_pos (by omega), if_pos (by omega), if_neg (by omega), nextW hi2 (by omega), if_pos (by omega), if_pos (by omega), rd_ptAt, rd_ptAt, hA, hB, if_pos c1, if_pos c2, sideW ha hb hp]
      · refine Ev.step (fun k => ?_) (key false (by simp [c2]))
        simp only [impl_WindOf.l1]
        rw [if_pos (by omega), if_pos (by omega), if_pos (by omega), if_neg (by omega), nextW hi2 (by omega), if_pos (by omega), if_pos (by omega), rd_ptAt, rd_ptAt, hA, hB, if_pos c1, if_neg c2, sideW ha hb hp]
    · refine Ev.step (fun k => ?_) (key false (by simp [c1]))
      simp only [impl_WindOf.l1]
      rw [if_pos (by omega), if_pos (by omega), if_pos (by omega), if_neg (by omega), nextW hi2 (by omega), if_pos (by omega), if_pos (by omega), rd_ptAt, rd_ptAt, hA, hB, if_neg c1, sideW ha hb hp]
theorem impl_WindOf_chk {x0 : List S42} {px py r : Int} (hl : x0.length ≤ 1048576) (hN : allNear x0) (h : Ev (fun k => impl_WindOf.l1 k x0 0 x0 (x0.length : Int) 0 px py) r) : ∀ (d i : Nat), i + d = x0.length →
    Ev (fun k => impl_WindOf.l0 k x0 x0 (x0.length : Int) (i : Int) px py) r := by
  intro d
  induction d with
  | zero =>
    intro i hi
    refine Ev.step (fun k => ?_) h
    simp only [impl_WindOf.l0]
    rw [if_neg (by omega)]
  | succ d ih =>
    intro i hi
    have hi2 : i < x0.length := by omega
    refine Ev.step (fun k => ?_) (ih (i + 1) (by omega))
    simp only [impl_WindOf.l0]
    rw [if_pos (by omega), if_pos (by omega), if_pos (by omega), rd_ptAt, impl_isNear_v, Option.bind_some, if_pos (decide_eq_true (hN i hi2)), step64 hi2 (by omega)]
theorem impl_WindOf_bad {x0 : List S42} {px py : Int} (hl : x0.length ≤ 1048576) : ∀ (d i : Nat), i + d = x0.length → (∃ j, i ≤ j ∧ j < x0.length ∧ ¬ nearP (ptAt x0 j).f0 (ptAt x0 j).f1) →
    Ev (fun k => impl_WindOf.l0 k x0 x0 (x0.length : Int) (i : Int) px py) 0 := by
  intro d
  induction d with
  | zero =>
    intro i hi hj
    obtain ⟨j, hj⟩ := hj
    omega
  | succ d ih =>
    intro i hi hj
    have hi2 : i < x0.length := by omega
    by_cases ha : nearP (ptAt x0 i).f0 (ptAt x0 i).f1
    · refine Ev.step (fun k => ?_) (ih (i + 1) (by omega) (by
          obtain ⟨j, j1, j2, j3⟩ := hj
          refine ⟨j, ?_, j2, j3⟩
          rcases Nat.lt_or_ge i j with q | q
          · omega
          · obtain rfl : i = j := by omega
            exact absurd ha j3))
      simp only [impl_WindOf.l0]
      rw [if_pos (by omega), if_pos (by omega), if_pos (by omega), rd_ptAt, impl_isNear_v, Option.bind_some, if_pos (decide_eq_true ha), step64 hi2 (by omega)]
    · refine ev_done (fun k => ?_)
      simp only [impl_WindOf.l0]
      rw [if_pos (by omega), if_pos (by omega), if_pos (by omega), rd_ptAt, impl_isNear_v, Option.bind_some, if_neg (by simpa using ha)]
theorem impl_WindOf_v (x0 : List S42) (px py : Int) (hl : x0.length ≤ 1048576) : Ev (fun k => impl_WindOf.f k x0 px py) (windV x0 px py) := by
  unfold windV
  by_cases hp : nearP px py
  · have e : ∀ k, impl_WindOf.f k x0 px py = impl_WindOf.l0 k x0 x0 (x0.length : Int) ((0 : Nat) : Int) px py := fun k => by
      unfold impl_WindOf.f
      rw [impl_isNear_v, Option.bind_some, if_pos (decide_eq_true hp)]
      rfl
    by_cases hN : allNear x0
    · rw [if_pos ⟨hp, hN⟩]
      have h := impl_WindOf_l hp hl hN x0.length 0 0 (by omega) (by omega) (by omega)
      rw [Int.zero_add] at h
      exact Ev.congr e (impl_WindOf_chk hl hN h x0.length 0 (by omega))
    · rw [if_neg (fun z => hN z.2)]
      exact Ev.congr e (impl_WindOf_bad hl x0.length 0 (by omega) (not_allNear hN))
  · rw [if_neg (fun z => hp z.1)]
    refine Ev.congr (fun k => ?_) (Ev.now 0)
    unfold impl_WindOf.f
    rw [impl_isNear_v, Option.bind_some, if_neg (by simpa using hp)]

/-! Covers -/
def windSum (px py : Int) : List (List S42) → Int
  | [] => 0
  | x :: xs => windV x px py + windSum px py xs
theorem windV_bd (x : List S42) (px py : Int) (h : x.length ≤ 1048576) : -1048576 ≤ windV x px py ∧ windV x px py ≤ 1048576 := by
  unfold windV
  split
  · have := windFrom_bd x px py x.length 0
    omega
  · omega
theorem windSum_bd (px py : Int) : ∀ (l : List (List S42)), (∀ x ∈ l, x.length ≤ 1048576) → -(1048576 * (l.length : Int)) ≤ windSum px py l ∧ windSum px py l ≤ 1048576 * (l.length : Int)
  | [], _ => by simp [windSum]
  | x :: xs, h => by
    have h1 := windSum_bd px py xs (fun y hy => h y (List.mem_cons_of_mem _ hy))
    have h2 := windV_bd x px py (h x List.mem_cons_self)
    rw [windSum, List.length_cons]
    omega
def coversB (l : List (List S42)) (even : Bool) (px py : Int) : Bool := if even = true then (Int.tmod (windSum px py l) 2) != 0 else windSum px py l != 0
theorem spec_Covers_l (x0 : List (List S42)) (even : Bool) (px py : Int) (hn : x0.length ≤ 1048576) (hm : ∀ x ∈ x0, x.length ≤ 1048576) : ∀ (d i : Nat) (n : Int), i + d = x0.length → -(1048576 * (i : Int)) ≤ n → n ≤ 1048576 * (i : Int) →
    Ev (fun k => spec_Covers.l0 k x0 even n (i : Int) px py) (if even = true then (Int.tmod (n + windSum px py (x0.drop i)) 2) != 0 else (n + windSum px py (x0.drop i)) != 0) := by
  intro d
  induction d with
  | zero =>
    intro i n hi h1 h2
    refine ev_done (fun k => ?_)
    simp only [spec_Covers.l0]
    rw [if_neg (by omega), List.drop_of_length_le (by omega), windSum, Int.add_zero]
    split <;> rfl
  | succ d ih =>
    intro i n hi h1 h2
    have hi2 : i < x0.length := by omega
    have hb := windV_bd x0[i] px py (hm _ (List.getElem_mem hi2))
    rw [List.drop_eq_getElem_cons hi2, windSum]
    have q := ih (i + 1) (n + windV x0[i] px py) (by omega) (by omega) (by omega)
    rw [Int.add_assoc] at q
    refine Ev.step (f := fun k => (spec_WindOf.f k x0[i] px py).bind fun t => spec_Covers.l0 k x0 even (wrap64 (n + t)) ((i + 1 : Nat) : Int) px py) (fun k => ?_) (Ev.bind (spec_WindOf_v _ px py (hm _ (List.getElem_mem hi2))) ?_)
    · simp only [spec_Covers.l0]
      rw [if_pos (by omega), if_pos (by omega), step64 hi2 (by omega), rd_impl_PointSS _ _ hi2]
    · simp only [w64 (x := n + windV x0[i] px py) (by omega) (by omega)]
      exact q
theorem spec_Covers_v (x0 : List (List S42)) (even : Bool) (px py : Int) (hn : x0.length ≤ 1048576) (hm : ∀ x ∈ x0, x.length ≤ 1048576) : Ev (fun k => spec_Covers.f k x0 even px py) (coversB x0 even px py) := by
  have q := spec_Covers_l x0 even px py hn hm x0.length 0 0 (by omega) (by omega) (by omega)
  rw [Int.zero_add] at q
  exact q
theorem impl_Covers_l (x0 : List (List S42)) (even : Bool) (px py : Int) (hn : x0.length ≤ 1048576) (hm : ∀ x ∈ x0, x.length ≤ 1048576) : ∀ (d i : Nat) (n : Int), i + d = x0.length → -(1048576 * (i : Int)) ≤ n → n ≤ 1048576 * (i : Int) →
    Ev (fun k => impl_Covers.l0 k even n x0 (x0.length : Int) (i : Int) px py) (if even = true then (Int.tmod (n + windSum px py (x0.drop i)) 2) != 0 else (n + windSum px py (x0.drop i)) != 0) := by
  intro d
  induction d with
  | zero =>
    intro i n hi h1 h2
    refine ev_done (fun k => ?_)
    simp only [impl_Covers.l0]
    rw [if_neg (by omega), List.drop_of_length_le (by omega), windSum, Int.add_zero]
    split <;> rfl
  | succ d ih =>
    intro i n hi h1 h2
    have hi2 : i < x0.length := by omega
    have hb := windV_bd x0[i] px py (hm _ (List.getElem_mem hi2))
    rw [List.drop_eq_getElem_cons hi2, windSum]
    have q := ih (i + 1) (n + windV x0[i] px py) (by omega) (by omega) (by omega)
    rw [Int.add_assoc] at q
    refine Ev.step (f := fun k => (impl_WindOf.f k x0[i] px py).bind fun t => impl_Covers.l0 k even (wrap64 (n + t)) x0 (x0.length : Int) ((i + 1 : Nat) : Int) px py) (fun k => ?_) (Ev.bind (impl_WindOf_v _ px py (hm _ (List.getElem_mem hi2))) ?_)
    · simp only [impl_Covers.l0]
      rw [if_pos (by omega), if_pos (by omega), if_pos (by omega), step64 hi2 (by omega), rd_impl_PointSS _ _ hi2]
    · simp only [w64 (x := n + windV x0[i] px py) (by omega) (by omega)]
      exact q
theorem impl_Covers_v (x0 : List (List S42)) (even : Bool) (px py : Int) (hn : x0.length ≤ 1048576) (hm : ∀ x ∈ x0, x.length ≤ 1048576) : Ev (fun k => impl_Covers.f k x0 even px py) (coversB x0 even px py) := by
  have q := impl_Covers_l x0 even px py hn hm x0.length 0 0 (by omega) (by omega) (by omega)
  rw [Int.zero_add] at q
  exact q
theorem convLL {x0 : List (List S38)} (hn : x0.length ≤ 1048576) (hm : ∀ x ∈ x0, x.length ≤ 1048576) : (x0.map (List.map convPoint)).length ≤ 1048576 ∧ ∀ x ∈ x0.map (List.map convPoint), x.length ≤ 1048576 := by
  refine ⟨by simpa using hn, fun x hx => ?_⟩
  obtain ⟨y, hy, rfl⟩ := List.mem_map.mp hx
  simpa using hm y hy

/-! MaskAt -/
section
variable (ls : List (List S42)) (e : Bool) (hn : ls.length ≤ 1048576) (hm : ∀ x ∈ ls, x.length ≤ 1048576)
include hn hm
theorem spec_mask_s (x y n i v px py : Int) (b : Bool) (h0 : 0 ≤ i) (h1 : i < 4) (hpx : wrap64 ((wrap64 ((wrap64 (256 * x)) + 64)) + (wrap64 (128 * (Int.tmod i 2)))) = px) (hpy : wrap64 ((wrap64 ((wrap64 (256 * y)) + 64)) + (wrap64 (128 * (wrap64 (Int.tdiv i 2))))) = py)
    (hv : rd [1, 2, 4, 8] i = v) (hb : coversB ls e px py = b) (hw : wrap64 (n + v) = n + v) {r : Int} (h : Ev (fun k => spec_MaskAt.l0 k ls e x y (if b = true then n + v else n) (i + 1)) r) : Ev (fun k => spec_MaskAt.l0 k ls e x y n i) r := by
  refine Ev.step (fun k => rfl) ?_
  simp only [spec_MaskAt.l0, if_pos h1, hpx, hpy]
  refine Ev.bind (spec_Covers_v ls e px py hn hm) ?_
  rw [hb]
  cases b with
  | true =>
    simp only [if_true, Option.bind_some, hv, hw, w64 (x := i + 1) (by omega) (by omega)]
    simp only [if_true] at h
    simp only [if_pos h0, if_pos (show i < (([1, 2, 4, 8] : List Int).length : Int) from h1)]
    exact h
  | false =>
    simp only [Bool.false_eq_true, if_false, w64 (x := i + 1) (by omega) (by omega)]
    simp only [Bool.false_eq_true, if_false] at h
    exact h
theorem impl_mask_s (n i v px py X0 Y0 X1 Y1 X2 Y2 X3 Y3 : Int) (b : Bool) (h0 : 0 ≤ i) (h1 : i < 4) (hpx : ix4 i X0 X1 X2 X3 = px) (hpy : ix4 i Y0 Y1 Y2 Y3 = py) (hu : IntKind.u64.wrap i = i)
    (hb : coversB ls e px py = b) (hor : b = true → Go.bits .or .i64 n (shl .i64 1 i) = n + v) {r : Int} (h : Ev (fun k => impl_MaskAt.l0 k ls e (if b = true then n + v else n) (i + 1) X0 Y0 X1 Y1 X2 Y2 X3 Y3) r) : Ev (fun k => impl_MaskAt.l0 k ls e n i X0 Y0 X1 Y1 X2 Y2 X3 Y3) r := by
  refine Ev.step (fun k => rfl) ?_
  simp only [impl_MaskAt.l0, if_pos h1, if_pos h0, hpx, hpy, hu]
  refine Ev.bind (impl_Covers_v ls e px py hn hm) ?_
  rw [hb]
  cases b with
  | true =>
    simp only [if_true, hor rfl, w64 (x := i + 1) (by omega) (by omega)]
    simp only [if_true] at h
    exact h
  | false =>
    simp only [Bool.false_eq_true, if_false, w64 (x := i + 1) (by omega) (by omega)]
    simp only [Bool.false_eq_true, if_false] at h
    exact h
theorem mask_both (x y : Int) (hx : -2000 ≤ x ∧ x ≤ 2000) (hy : -2000 ≤ y ∧ y ≤ 2000) : ∃ r : Int, 0 ≤ r ∧ r ≤ 15 ∧ Ev (fun k => spec_MaskAt.l0 k ls e x y 0 0) r ∧
    Ev (fun k => impl_MaskAt.l0 k ls e 0 0 (256 * x + 64) (256 * y + 64) (256 * x + 64 + 128) (256 * y + 64) (256 * x + 64) (256 * y + 64 + 128) (256 * x + 64 + 128) (256 * y + 64 + 128)) r := by
  have e1 : wrap64 (256 * x) = 256 * x := w64 (by omega) (by omega)
  have e2 : wrap64 (256 * x + 64) = 256 * x + 64 := w64 (by omega) (by omega)
  have e3 : wrap64 (256 * x + 64 + 128) = 256 * x + 64 + 128 := w64 (by omega) (by omega)
  have f1 : wrap64 (256 * y) = 256 * y := w64 (by omega) (by omega)
  have f2 : wrap64 (256 * y + 64) = 256 * y + 64 := w64 (by omega) (by omega)
  have f3 : wrap64 (256 * y + 64 + 128) = 256 * y + 64 + 128 := w64 (by omega) (by omega)
  have x0 : ∀ z : Int, wrap64 (128 * z) = 0 → wrap64 ((wrap64 ((wrap64 (256 * x)) + 64)) + (wrap64 (128 * z))) = 256 * x + 64 := fun z hz => by rw [hz, e1, e2, Int.add_zero, e2]
  have x1 : ∀ z : Int, wrap64 (128 * z) = 128 → wrap64 ((wrap64 ((wrap64 (256 * x)) + 64)) + (wrap64 (128 * z))) = 256 * x + 64 + 128 := fun z hz => by rw [hz, e1, e2, e3]
  have y0 : ∀ z : Int, wrap64 (128 * z) = 0 → wrap64 ((wrap64 ((wrap64 (256 * y)) + 64)) + (wrap64 (128 * z))) = 256 * y + 64 := fun z hz => by rw [hz, f1, f2, Int.add_zero, f2]
  have y1 : ∀ z : Int, wrap64 (128 * z) = 128 → wrap64 ((wrap64 ((wrap64 (256 * y)) + 64)) + (wrap64 (128 * z))) = 256 * y + 64 + 128 := fun z hz => by rw [hz, f1, f2, f3]
  obtain ⟨b0, h0⟩ : ∃ b, coversB ls e (256 * x + 64) (256 * y + 64) = b := ⟨_, rfl⟩
  obtain ⟨b1, h1⟩ : ∃ b, coversB ls e (256 * x + 64 + 128) (256 * y + 64) = b := ⟨_, rfl⟩
  obtain ⟨b2, h2⟩ : ∃ b, coversB ls e (256 * x + 64) (256 * y + 64 + 128) = b := ⟨_, rfl⟩
  obtain ⟨b3, h3⟩ : ∃ b, coversB ls e (256 * x + 64 + 128) (256 * y + 64 + 128) = b := ⟨_, rfl⟩
  have fin_s : ∀ n : Int, Ev (fun k => spec_MaskAt.l0 k ls e x y n (3 + 1)) n := fun n => ev_done (fun k => by simp only [spec_MaskAt.l0]; rw [if_neg (by omega)])
  have fin_i : ∀ n : Int, Ev (fun k => impl_MaskAt.l0 k ls e n (3 + 1) (256 * x + 64) (256 * y + 64) (256 * x + 64 + 128) (256 * y + 64) (256 * x + 64) (256 * y + 64 + 128) (256 * x + 64 + 128) (256 * y + 64 + 128)) n := fun n => ev_done (fun k => by simp only [impl_MaskAt.l0]; rw [if_neg (by omega)])
  refine ⟨if b3 = true then (if b2 = true then (if b1 = true then (if b0 = true then 0 + 1 else 0) + 2 else (if b0 = true then 0 + 1 else 0)) + 4 else (if b1 = true then (if b0 = true then 0 + 1 else 0) + 2 else (if b0 = true then 0 + 1 else 0))) + 8 else (if b2 = true then (if b1 = true then (if b0 = true then 0 + 1 else 0) + 2 else (if b0 = true then 0 + 1 else 0)) + 4 else (if b1 = true then (if b0 = true then 0 + 1 else 0) + 2 else (if b0 = true then 0 + 1 else 0))), ?_, ?_, ?_, ?_⟩
  · cases b0 <;> cases b1 <;> cases b2 <;> cases b3 <;> decide +kernel
  · cases b0 <;> cases b1 <;> cases b2 <;> cases b3 <;> decide +kernel
  · refine spec_mask_s ls e hn hm x y 0 0 1 _ _ b0 (by omega) (by omega) (x0 _ (by decide +kernel)) (y0 _ (by decide +kernel)) rfl h0 (by decide +kernel) ?_
    refine spec_mask_s ls e hn hm x y _ (0 + 1) 2 _ _ b1 (by omega) (by omega) (x1 _ (by decide +kernel)) (y0 _ (by decide +kernel)) rfl h1 (by cases b0 <;> decide +kernel) ?_
    refine spec_mask_s ls e hn hm x y _ (0 + 1 + 1) 4 _ _ b2 (by omega) (by omega) (x0 _ (by decide +kernel)) (y1 _ (by decide +kernel)) rfl h2 (by cases b0 <;> cases b1 <;> decide +kernel) ?_
    refine spec_mask_s ls e hn hm x y _ (0 + 1 + 1 + 1) 8 _ _ b3 (by omega) (by omega) (x1 _ (by decide +kernel)) (y1 _ (by decide +kernel)) rfl h3 (by cases b0 <;> cases b1 <;> cases b2 <;> decide +kernel) ?_
    exact fin_s _
  · refine impl_mask_s ls e hn hm 0 0 1 (256 * x + 64) (256 * y + 64) (256 * x + 64) (256 * y + 64) (256 * x + 64 + 128) (256 * y + 64) (256 * x + 64) (256 * y + 64 + 128) (256 * x + 64 + 128) (256 * y + 64 + 128) b0 (by omega) (by omega) rfl rfl (by decide +kernel) h0 (fun _ => by decide +kernel) ?_
    refine impl_mask_s ls e hn hm _ (0 + 1) 2 (256 * x + 64 + 128) (256 * y + 64) (256 * x + 64) (256 * y + 64) (256 * x + 64 + 128) (256 * y + 64) (256 * x + 64) (256 * y + 64 + 128) (256 * x + 64 + 128) (256 * y + 64 + 128) b1 (by omega) (by omega) rfl rfl (by decide +kernel) h1 (fun _ => by cases b0 <;> decide +kernel) ?_
    refine impl_mask_s ls e hn hm _ (0 + 1 + 1) 4 (256 * x + 64) (256 * y + 64 + 128) (256 * x + 64) (256 * y + 64) (256 * x + 64 + 128) (256 * y + 64) (256 * x + 64) (256 * y + 64 + 128) (256 * x + 64 + 128) (256 * y + 64 + 128) b2 (by omega) (by omega) rfl rfl (by decide +kernel) h2 (fun _ => by cases b0 <;> cases b1 <;> decide +kernel) ?_
    refine impl_mask_s ls e hn hm _ (0 + 1 + 1 + 1) 8 (256 * x + 64 + 128) (256 * y + 64 + 128) (256 * x + 64) (256 * y + 64) (256 * x + 64 + 128) (256 * y + 64) (256 * x + 64) (256 * y + 64 + 128) (256 * x + 64 + 128) (256 * y + 64 + 128) b3 (by omega) (by omega) rfl rfl (by decide +kernel) h3 (fun _ => by cases b0 <;> cases b1 <;> cases b2 <;> decide +kernel) ?_
    exact fin_i _
theorem MaskAt_v (x y : Int) : ∃ r : Int, 0 ≤ r ∧ r ≤ 15 ∧ Ev (fun k => spec_MaskAt.f k ls e x y) r ∧ Ev (fun k => impl_MaskAt.f k ls e x y) r := by
  unfold spec_MaskAt.f impl_MaskAt.f impl_isSquare.f
  simp only [spec_l01In_v, impl_inRange_v, Option.bind_some]
  have hno : Ev (fun k => spec_MaskAt.j0 k ls e x y true) 0 := ev_done (fun k => rfl)
  by_cases hx : -2000 ≤ x ∧ x ≤ 2000
  · rw [decide_eq_true hx]
    simp only [if_true]
    by_cases hy : -2000 ≤ y ∧ y ≤ 2000
    · rw [decide_eq_true hy]
      obtain ⟨r, g0, g1, h1, h2⟩ := mask_both ls e hn hm x y hx hy
      refine ⟨r, g0, g1, Ev.step (fun k => rfl) h1, ?_⟩
      simp only [Option.bind_some, if_true, impl_pointsOf.f]
      rw [w64 (x := 256 * x) (by omega) (by omega), w64 (x := 256 * x + 64) (by omega) (by omega), w64 (x := 256 * x + 64 + 128) (by omega) (by omega), w64 (x := 256 * y) (by omega) (by omega), w64 (x := 256 * y + 64) (by omega) (by omega), w64 (x := 256 * y + 64 + 128) (by omega) (by omega)]
      exact h2
    · rw [decide_eq_false hy]
      refine ⟨0, by omega, by omega, hno, ?_⟩
      exact Ev.now 0
  · rw [decide_eq_false hx]
    refine ⟨0, by omega, by omega, hno, ?_⟩
    exact Ev.now 0
end

/-! laws_szPointSS -/
theorem laws_szPointSS_l (x0 : List (List S38)) (hn : x0.length ≤ 1048576) (hw : ∀ x ∈ x0, x.length ≤ maxLen) : ∀ (d i : Nat) (n : Int), i + d = x0.length → 0 ≤ n → n ≤ 1048576 →
    Ev (fun k => laws_szPointSS.l0 k x0 n (i : Int)) (if totL (x0.drop i) ≤ n then n - totL (x0.drop i) else -1) := by
  intro d
  induction d with
  | zero =>
    intro i n hi h0 h1
    refine ev_done (fun k => ?_)
    simp only [laws_szPointSS.l0]
    rw [if_neg (by omega), List.drop_of_length_le (by omega), totL, if_pos h0]
    simp
  | succ d ih =>
    intro i n hi h0 h1
    have hi2 : i < x0.length := by omega
    rw [List.drop_eq_getElem_cons hi2, totL]
    have hz := laws_szPointS_v x0[i] n h0 h1 (hw _ (List.getElem_mem hi2))
    have ht := totL_nonneg (x0.drop (i + 1))
    by_cases h : (x0[i].length : Int) ≤ n
    · rw [if_pos h] at hz
      have q := ih (i + 1) (n - (x0[i].length : Int)) (by omega) (by omega) (by omega)
      have e : (if (x0[i].length : Int) + totL (x0.drop (i + 1)) ≤ n then n - ((x0[i].length : Int) + totL (x0.drop (i + 1))) else -1) = (if totL (x0.drop (i + 1)) ≤ n - (x0[i].length : Int) then n - (x0[i].length : Int) - totL (x0.drop (i + 1)) else -1) := by
        split
        · rw [if_pos (by omega)]
          omega
        · rw [if_neg (by omega)]
      rw [e]
      refine Ev.step (fun k => ?_) q
      simp only [laws_szPointSS.l0]
      rw [if_pos (by omega), if_pos (by omega), rd_laws_PointSS _ _ hi2, hz, Option.bind_some, if_neg (by omega), step64 hi2 (by omega)]
    · rw [if_neg h] at hz
      rw [if_neg (by omega)]
      refine ev_done (fun k => ?_)
      simp only [laws_szPointSS.l0]
      rw [if_pos (by omega), if_pos (by omega), rd_laws_PointSS _ _ hi2, hz, Option.bind_some, if_pos (by decide)]
theorem laws_szPointSS_v (x0 : List (List S38)) (hl : x0.length ≤ maxLen) (hw : ∀ x ∈ x0, x.length ≤ maxLen) (n : Int) (h0 : 0 ≤ n) (h1 : n ≤ 1048576) :
    Ev (fun k => laws_szPointSS.f k x0 n) (if (x0.length : Int) + totL x0 ≤ n then n - (x0.length : Int) - totL x0 else -1) := by
  have ht := totL_nonneg x0
  have e0 : wrap64 (n - (x0.length : Int)) = n - (x0.length : Int) := by unfold maxLen at hl; exact w64 (by omega) (by omega)
  unfold laws_szPointSS.f
  rw [e0]
  by_cases h : (x0.length : Int) ≤ n
  · simp only [if_neg (show ¬ (n - (x0.length : Int) < 0) by omega)]
    have q := laws_szPointSS_l x0 (by omega) hw x0.length 0 (n - (x0.length : Int)) (by omega) (by omega) (by omega)
    have e : (if (x0.length : Int) + totL x0 ≤ n then n - (x0.length : Int) - totL x0 else -1) = (if totL x0 ≤ n - (x0.length : Int) then n - (x0.length : Int) - totL x0 else -1) := by
      split
      · rw [if_pos (by omega)]
      · rw [if_neg (by omega)]
    rw [e]
    exact q
  · simp only [if_pos (show n - (x0.length : Int) < 0 by omega)]
    rw [if_neg (by omega)]
    exact Ev.now _
/-- What a sum of sizes that is taken tells. -/
theorem sz_small {x0 : List (List S38)} (h : (x0.length : Int) + totL x0 ≤ 1048576) : x0.length ≤ 1048576 ∧ ∀ x ∈ x0, x.length ≤ 1048576 := by
  have := totL_nonneg x0
  refine ⟨by omega, fun x hx => ?_⟩
  have := totL_mem x0 x hx
  omega

/-! law_FnExactMaskAt -/
theorem pure : PureS := by
  intro l e a b hl _ _
  have hz := laws_szPointSS_v l hl.1 (fun x hx => (hl.2 x hx).1) 1048576 (by omega) (by omega)
  by_cases h : (l.length : Int) + totL l ≤ 1048576
  · rw [if_pos h] at hz
    obtain ⟨hn, hm⟩ := sz_small h
    obtain ⟨hn2, hm2⟩ := convLL hn hm
    have ht := laws_toPointSS_v l hn hm
    have e0 : ¬ (1048576 - (l.length : Int) - totL l < 0) := by omega
    obtain ⟨r, _, _, h1, h2⟩ := MaskAt_v _ e hn2 hm2 a b
    refine Ev.rounds ?_
    simp only [laws_FnExactMaskAt.f]
    refine Ev.bind hz ?_
    simp only [if_neg e0]
    refine Ev.bind ht (Ev.bind h1 (Ev.bind ht (Ev.bind h2 ?_)))
    simp only [if_true]
    refine Ev.bind ht (Ev.bind (laws_eqPointSS_v _ hn2 hm2) ?_)
    simp only [if_true]
    exact Ev.now true
  · rw [if_neg h] at hz
    refine Ev.rounds ?_
    simp only [laws_FnExactMaskAt.f]
    refine Ev.bind hz ?_
    exact Ev.now true

end Go.Proofs.Ytndeonfbolookaa.QFnExactMaskAt
