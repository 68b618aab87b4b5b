/- The pure statement of the law FnDashes, for every input: what the printed functions compute makes the law answer true. No conditions beyond what the row reads. -/
import Derived.Test.YtjfienkbcacijaaMFnDashesx4
namespace Go.Proofs.Ytjfienkbcacijaa.Pure
open Go.RowKit Go.Proofs.Ytjfienkbcacijaa.MFnDashes Go.Proofs.YtjfienkbcacijaaW.PrintWords Go.Proofs.YtjfienkbcacijaaW.PrintLast
set_option linter.unusedVariables false
set_option linter.unusedSimpArgs false

/-! base -/
theorem w64 {x : Int} (h1 : -9223372036854775808 ≤ x) (h2 : x ≤ 9223372036854775807) : wrap64 x = x := by
  unfold wrap64
  omega

theorem wf64 {x : Int} (h : (Lit.int .i64 x).wf = true) : -9223372036854775808 ≤ x ∧ x ≤ 9223372036854775807 := by
  have h2 : (decide (IntKind.i64.min ≤ x) && decide (x ≤ IntKind.i64.max)) = true := h
  rw [Bool.and_eq_true, decide_eq_true_eq, decide_eq_true_eq] at h2
  exact ⟨h2.1, h2.2⟩

theorem take_set_succ {α : Type} (xs : List α) (i : Nat) (v : α) (h : i < xs.length) : (xs.set i v).take (i + 1) = xs.take i ++ [v] := by
  rw [List.take_succ_eq_append_getElem (by simpa using h), List.take_set_of_le (Nat.le_refl i), List.getElem_set_self]

theorem step64 {i n : Nat} (h : i < n) (hn : n ≤ 4611686018427387904) : wrap64 ((i : Int) + 1) = ((i + 1 : Nat) : Int) := by
  rw [w64 (by omega) (by omega)]
  omega

theorem ev_done {α : Type} {g : Nat → Option α} {r : α} (h : ∀ k, g (k + 1) = some r) : Ev g r := Ev.step (f := fun _ => some r) h (Ev.now r)

theorem ev_const {α : Type} {o : Option α} {r : α} (h : o = some r) : Ev (fun _ => o) r := by
  subst h
  exact Ev.now r

/-! DrawB -/
theorem and255 (n : Int) : Go.bits .and .i64 n 255 = n % 256 := by
  have h255 : (BitVec.ofInt 64 255).toNat = 2 ^ 8 - 1 := by decide
  have key : (BitVec.ofInt 64 n &&& BitVec.ofInt 64 255).toNat = (n % ((2 ^ 64 : Nat) : Int)).toNat % 2 ^ 8 := by
    rw [BitVec.toNat_and, BitVec.toNat_ofInt, h255, Nat.and_two_pow_sub_one_eq_mod]
  show IntKind.i64.wrap ((BitVec.ofInt 64 n &&& BitVec.ofInt 64 255).toNat : Nat) = n % 256
  rw [key, IntKind.wrap_i64]
  omega
theorem byte_r (l : List Int) (p s : Int) (hp : 0 ≤ p) (hl : p ≤ l.length) (hn : l.length ≤ 1048576) : ∃ b q t : Int, spec_l01Byte.f l p s = some (b, q, t) ∧ 0 ≤ b ∧ b ≤ 255 ∧ 0 ≤ q ∧ q ≤ l.length := by
  unfold spec_l01Byte.f
  by_cases h : p < (l.length : Int)
  · rw [if_pos h, if_pos hp]
    refine ⟨_, _, _, rfl, ?_, ?_, ?_, ?_⟩
    · rw [and255]
      omega
    · rw [and255]
      omega
    · rw [w64 (by omega) (by omega)]
      omega
    · rw [w64 (by omega) (by omega)]
      omega
  · rw [if_neg h]
    refine ⟨_, _, _, rfl, ?_, ?_, hp, hl⟩
    · rw [and255]
      omega
    · rw [and255]
      omega
theorem below_r (l : List Int) (p s n : Int) (hp : 0 ≤ p) (hl : p ≤ l.length) (hn : l.length ≤ 1048576) (h0 : 0 < n) (h1 : n ≤ 9223372036854775807) : ∃ b q t : Int, spec_l01Below.f l p s n = some (b, q, t) ∧ 0 ≤ b ∧ b < n ∧ 0 ≤ q ∧ q ≤ l.length := by
  unfold spec_l01Below.f
  rw [if_neg (by omega)]
  by_cases h : n ≤ 256
  · obtain ⟨b, q, t, e, b0, b1, q0, q1⟩ := byte_r l p s hp hl hn
    rw [if_pos h, e]
    simp only [Option.bind_some]
    rw [if_neg (by omega)]
    refine ⟨_, _, _, rfl, ?_, ?_, q0, q1⟩
    · exact Int.tmod_nonneg _ b0
    · exact Int.tmod_lt_of_pos _ h0
  · obtain ⟨b, q, t, e, b0, b1, q0, q1⟩ := byte_r l p s hp hl hn
    obtain ⟨b', q', t', e', b0', b1', q0', q1'⟩ := byte_r l q t q0 q1 hn
    obtain ⟨b2, q2, t2, e2, b02, b12, q02, q12⟩ := byte_r l q' t' q0' q1' hn
    obtain ⟨b3, q3, t3, e3, b03, b13, q03, q13⟩ := byte_r l q2 t2 q02 q12 hn
    rw [if_neg h, e]
    simp only [Option.bind_some, e', e2, e3]
    rw [if_neg (by omega)]
    refine ⟨_, _, _, rfl, ?_, ?_, q03, q13⟩
    · refine Int.tmod_nonneg _ ?_
      rw [w64 (x := b * 16777216) (by omega) (by omega), w64 (x := b' * 65536) (by omega) (by omega), w64 (x := b2 * 256) (by omega) (by omega), w64 (x := b * 16777216 + b' * 65536) (by omega) (by omega), w64 (x := b * 16777216 + b' * 65536 + b2 * 256) (by omega) (by omega), w64 (by omega) (by omega)]
      omega
    · exact Int.tmod_lt_of_pos _ h0
theorem new_l (l : List Int) (hn : l.length ≤ 1048576) : ∀ (d : Nat) (i : Int) (x3 : Int), i + d = 4000 → 0 ≤ i → ∃ s, Ev (fun k => spec_l01New.l0 k l x3 i) (l, 0, s) := by
  intro d
  induction d with
  | zero =>
    intro i x3 hi h0
    refine ⟨x3, ev_done (fun k => ?_)⟩
    simp only [spec_l01New.l0]
    by_cases h : i < (l.length : Int)
    · rw [if_pos h, if_neg (by omega)]
    · rw [if_neg h]
  | succ d ih =>
    intro i x3 hi h0
    by_cases h : i < (l.length : Int)
    · obtain ⟨s, hs⟩ := ih (i + 1) (Go.bits .and .i64 (wrap64 ((wrap64 ((wrap64 (x3 * 131)) + (wrap64 (rd l i)))) + 7)) 1073741823) (by omega) (by omega)
      refine ⟨s, Ev.step (fun k => ?_) hs⟩
      simp only [spec_l01New.l0]
      rw [if_pos h, if_pos (by omega), if_pos h0, w64 (x := i + 1) (by omega) (by omega)]
    · refine ⟨x3, ev_done (fun k => ?_)⟩
      simp only [spec_l01New.l0]
      rw [if_neg h]
theorem new_v (l : List Int) (hn : l.length ≤ 1048576) : ∃ s, Ev (fun k => spec_l01New.f k l) (l, 0, s) := by
  obtain ⟨s, hs⟩ := new_l l hn 4000 0 (wrap64 (28001 + (l.length : Int))) (by omega) (by omega)
  exact ⟨s, hs⟩

/-! DrawPlaces -/
theorem places_l (l : List Int) (hn : l.length ≤ 1048576) : ∀ (d : Nat) (i : Int) (acc : List Int) (p s : Int), i + d = 12 → 0 ≤ i → (acc.length : Int) = i → (∀ v ∈ acc, 0 ≤ v) → 0 ≤ p → p ≤ l.length →
    ∃ r, Ev (fun k => spec_DrawPlaces.l0 k acc i l p s) r ∧ r.length = 12 ∧ ∀ v ∈ r, 0 ≤ v := by
  intro d
  induction d with
  | zero =>
    intro i acc p s hi h0 ha hv hp hl
    refine ⟨acc, ev_done (fun k => ?_), by omega, hv⟩
    simp only [spec_DrawPlaces.l0]
    rw [if_neg (by omega)]
  | succ d ih =>
    intro i acc p s hi h0 ha hv hp hl
    obtain ⟨b, q, t, e, b0, b1, q0, q1⟩ := below_r l p s 10000 hp hl hn (by omega) (by omega)
    obtain ⟨r, h1, h2, h3⟩ := ih (i + 1) (acc ++ [b]) q t (by omega) (by omega) (by simp; omega) (by
      intro v hv'
      rcases List.mem_append.mp hv' with h | h
      · exact hv v h
      · obtain rfl : v = b := by simpa using h
        exact b0) q0 q1
    refine ⟨r, Ev.step (fun k => ?_) h1, h2, h3⟩
    simp only [spec_DrawPlaces.l0, e, Option.bind_some, w64 (x := i + 1) (by omega) (by omega)]
    rw [if_pos (by omega), if_pos (by omega)]
theorem DrawPlaces_v (l : List Int) (hn : l.length ≤ 1048576) : ∃ r, Ev (fun k => spec_DrawPlaces.f k l) r ∧ r.length = 12 ∧ ∀ v ∈ r, 0 ≤ v := by
  obtain ⟨s, hs⟩ := new_v l hn
  obtain ⟨b, q, t, e, b0, b1, q0, q1⟩ := byte_r l 0 s (by omega) (by omega) hn
  obtain ⟨r, h1, h2, h3⟩ := places_l l hn 12 0 [] q t (by omega) (by omega) rfl (by simp) q0 q1
  refine ⟨r, ?_, h2, h3⟩
  unfold spec_DrawPlaces.f
  refine Ev.bind hs ?_
  simp only [e, Option.bind_some]
  exact h1

/-! impl_inRange -/
theorem impl_inRange_v (a b c : Int) : impl_inRange.f a b c = some (decide (b ≤ a ∧ a ≤ c)) := by
  unfold impl_inRange.f
  by_cases h : a ≥ b
  · rw [if_pos h]
    simp [h]
  · rw [if_neg h]
    simp
    omega

/-! rd_int -/
theorem rd_int (xs : List Int) (i : Nat) (h : i < xs.length) : rd xs (i : Int) = xs[i] := by
  unfold rd
  simp [h]

/-! dashOkB -/
def dashOkB (l : List Int) : Bool := l.all (fun x => decide (1 ≤ x ∧ x ≤ 20000)) && (decide (l.length % 2 = 0) && decide (l.length ≤ 4))
theorem dash_end (l : List Int) : (if ((l.length : Int) % 2) = 0 then some (decide ((l.length : Int) ≤ 4)) else some false) = some (decide (l.length % 2 = 0) && decide (l.length ≤ 4)) := by
  by_cases h : (l.length : Int) % 2 = 0
  · rw [if_pos h]
    have h2 : l.length % 2 = 0 := by omega
    simp [h2]
    omega
  · rw [if_neg h]
    have h2 : ¬ l.length % 2 = 0 := by omega
    simp [h2]

/-! impl_DashOk -/
theorem impl_DashOk_l (l : List Int) (hn : l.length ≤ 1048576) : ∀ (d i : Nat), i + d = l.length → Ev (fun k => impl_DashOk.l0 k l l (l.length : Int) (i : Int)) ((l.drop i).all (fun x => decide (1 ≤ x ∧ x ≤ 20000)) && (decide (l.length % 2 = 0) && decide (l.length ≤ 4))) := by
  intro d
  induction d with
  | zero =>
    intro i hi
    refine ev_done (fun k => ?_)
    simp only [impl_DashOk.l0]
    rw [if_neg (by omega), dash_end, List.drop_of_length_le (by omega)]
    rfl
  | succ d ih =>
    intro i hi
    have hi2 : i < l.length := by omega
    rw [List.drop_eq_getElem_cons hi2, List.all_cons]
    by_cases hx : 1 ≤ l[i] ∧ l[i] ≤ 20000
    · rw [decide_eq_true hx, Bool.true_and]
      refine Ev.step (fun k => ?_) (ih (i + 1) (by omega))
      simp only [impl_DashOk.l0, impl_inRange_v, Option.bind_some]
      rw [if_pos (by omega), if_pos (by omega), if_pos (by omega), rd_int _ _ hi2, step64 hi2 (by omega), if_pos (by simpa using hx)]
    · rw [decide_eq_false hx, Bool.false_and, Bool.false_and]
      refine ev_done (fun k => ?_)
      simp only [impl_DashOk.l0, impl_inRange_v, Option.bind_some]
      rw [if_pos (by omega), if_pos (by omega), if_pos (by omega), rd_int _ _ hi2, if_neg (by simpa using hx)]
theorem impl_DashOk_v (l : List Int) (hn : l.length ≤ 1048576) : Ev (fun k => impl_DashOk.f k l) (dashOkB l) := impl_DashOk_l l hn l.length 0 (by omega)

/-! impl_isFar -/
theorem impl_isFar_v (a : Int) : impl_isFar.f a = some (decide (-8388608 ≤ a ∧ a ≤ 8388608)) := by
  unfold impl_isFar.f
  simp only [impl_inRange_v, Option.bind_some]

/-! pointOkP -/
def pointOkP (a b : Int) : Prop := (-8388608 ≤ a ∧ a ≤ 8388608) ∧ (-8388608 ≤ b ∧ b ≤ 8388608)
instance (a b : Int) : Decidable (pointOkP a b) := by unfold pointOkP; infer_instance

/-! impl_PointOk -/
theorem impl_PointOk_v (a b : Int) : impl_PointOk.f a b = some (decide (pointOkP a b)) := by
  unfold impl_PointOk.f pointOkP
  simp only [impl_isFar_v, Option.bind_some, decide_eq_true_eq]
  repeat' split
  all_goals first | (refine congrArg some (decide_eq_decide.mpr ?_); omega) | (refine congrArg some (Eq.symm (decide_eq_false ?_)); omega)

/-! RootP -/
theorem sq_mono {a b : Int} (h0 : 0 ≤ a) (h : a ≤ b) : a * a ≤ b * b := Int.mul_le_mul h h h0 (by omega)
def RootP (n r : Int) : Prop := 0 ≤ r ∧ r ≤ 3037000499 ∧ (r * r ≤ n ∨ r = 0) ∧ (r = 3037000499 ∨ n < (r + 1) * (r + 1))
theorem RootP_lt {n r s : Int} (hr : RootP n r) (hs : RootP n s) : ¬ r < s := by
  intro h
  obtain ⟨h1, h2, h3, h4⟩ := hr
  obtain ⟨g1, g2, g3, g4⟩ := hs
  have q := sq_mono (a := r + 1) (b := s) (by omega) (by omega)
  rcases h4 with h4 | h4
  · omega
  · rcases g3 with g3 | g3
    · omega
    · omega
theorem RootP_unique {n r s : Int} (hr : RootP n r) (hs : RootP n s) : r = s := by
  have h1 := RootP_lt hr hs
  have h2 := RootP_lt hs hr
  omega
theorem half64 {x : Int} (h0 : 0 ≤ x) (h1 : x ≤ 9223372036854775807) : wrap64 (Int.tdiv x 2) = x / 2 := by
  rw [Int.tdiv_eq_ediv_of_nonneg h0, w64 (by omega) (by omega)]

/-! impl_RootOf -/
theorem impl_RootOf_l (n : Int) (d : Nat) : ∀ (low high : Int), 0 ≤ low → low ≤ high → high ≤ 3037000499 → high - low ≤ d → (low * low ≤ n ∨ low = 0) → (high = 3037000499 ∨ n < (high + 1) * (high + 1)) →
    ∃ r, Ev (fun k => impl_RootOf.l0 k n low high) r ∧ RootP n r := by
  induction d with
  | zero =>
    intro low high h0 h1 h2 h3 h4 h5
    obtain rfl : low = high := by omega
    exact ⟨low, ev_done (fun k => by simp only [impl_RootOf.l0]; rw [if_neg (by omega)]), h0, h2, h4, h5⟩
  | succ d ih =>
    intro low high h0 h1 h2 h3 h4 h5
    by_cases hlt : low < high
    · have e1 : wrap64 (low + high) = low + high := w64 (by omega) (by omega)
      have e2 : wrap64 (low + high + 1) = low + high + 1 := w64 (by omega) (by omega)
      have e3 : wrap64 (Int.tdiv (low + high + 1) 2) = (low + high + 1) / 2 := half64 (by omega) (by omega)
      have q := sq_mono (a := (low + high + 1) / 2) (b := 3037000499) (by omega) (by omega)
      have q0 := sq_mono (a := 0) (b := (low + high + 1) / 2) (by omega) (by omega)
      generalize hm : (low + high + 1) / 2 = m at e3 q q0
      have e4 : wrap64 (m * m) = m * m := w64 (by omega) (by omega)
      have e5 : wrap64 (m - 1) = m - 1 := w64 (by omega) (by omega)
      by_cases hc : m * m ≤ n
      · obtain ⟨r, hr, hp⟩ := ih m high (by omega) (by omega) h2 (by omega) (.inl hc) h5
        refine ⟨r, Ev.step (fun k => ?_) hr, hp⟩
        simp only [impl_RootOf.l0]
        rw [if_pos hlt, e1, e2, e3, e4, if_pos hc]
      · obtain ⟨r, hr, hp⟩ := ih low (m - 1) h0 (by omega) (by omega) (by omega) h4 (.inr (by rw [show m - 1 + 1 = m by omega]; omega))
        refine ⟨r, Ev.step (fun k => ?_) hr, hp⟩
        simp only [impl_RootOf.l0]
        rw [if_pos hlt, e1, e2, e3, e4, if_neg hc, e5]
    · obtain rfl : low = high := by omega
      exact ⟨low, ev_done (fun k => by simp only [impl_RootOf.l0]; rw [if_neg (by omega)]), h0, h2, h4, h5⟩
theorem impl_RootOf_v (n : Int) : ∃ r, Ev (fun k => impl_RootOf.f k n) r ∧ RootP n r := impl_RootOf_l n 3037000499 0 3037000499 (by omega) (by omega) (by omega) (by omega) (.inr rfl) (.inl rfl)

/-! rd_impl_PointSS -/
theorem rd_impl_PointSS (xs : List (List S29)) (i : Nat) (h : i < xs.length) : rd_L3 xs (i : Int) = xs[i] := by
  unfold rd_L3
  simp [h]

/-! rd_impl_Point -/
theorem rd_impl_Point (xs : List S29) (i : Nat) (h : i < xs.length) : rd_T29 xs (i : Int) = xs[i] := by
  unfold rd_T29
  simp [h]

/-! Clamp_i -/
def clampI (x low high : Int) : Int := if x < low then low else if x > high then high else x
theorem impl_Clamp_v (x low high : Int) : impl_Clamp.f x low high = some (clampI x low high) := by
  unfold impl_Clamp.f clampI
  split
  · rfl
  · split <;> rfl

/-! DashS -/
def preS : List Int → Nat → Int
  | [], _ => 0
  | _ :: _, 0 => 0
  | v :: t, k + 1 => v + preS t k
theorem preS_zero (l : List Int) : preS l 0 = 0 := by cases l <;> rfl
theorem preS_succ : ∀ (l : List Int) (k : Nat) (h : k < l.length), preS l (k + 1) = preS l k + l[k]
  | [], _, h => absurd h (by simp)
  | v :: t, 0, _ => by simp [preS, preS_zero]
  | v :: t, k + 1, h => by
    have h2 : k < t.length := by simpa using h
    simp only [preS, List.getElem_cons_succ]
    rw [preS_succ t k h2]
    omega
def seekK : List Int → Int → Nat
  | [], _ => 0
  | v :: t, x => if x ≥ v then seekK t (x - v) + 1 else 0
theorem seek_spec : ∀ (l : List Int) (t : Int), 0 ≤ t → t < preS l l.length → seekK l t < l.length ∧ preS l (seekK l t) ≤ t ∧ t < preS l (seekK l t + 1)
  | [], t, h0, h => by simp [preS] at h; omega
  | v :: u, t, h0, h => by
    simp only [seekK]
    by_cases c : t ≥ v
    · rw [if_pos c]
      simp only [List.length_cons, preS] at h
      obtain ⟨h1, h2, h3⟩ := seek_spec u (t - v) (by omega) (by omega)
      refine ⟨by simpa using h1, ?_, ?_⟩
      · simp only [preS]; omega
      · simp only [preS] at h3 ⊢; omega
    · rw [if_neg c]
      refine ⟨by simp, ?_, ?_⟩
      · simp only [preS]; omega
      · simp only [preS, preS_zero]; omega
theorem preS_le : ∀ (l : List Int), (∀ v ∈ l, 1 ≤ v) → ∀ k, 0 ≤ preS l k
  | [], _, _ => by simp [preS]
  | _ :: _, _, 0 => by simp [preS]
  | v :: t, h, k + 1 => by
    have h1 := h v (by simp)
    have h2 := preS_le t (fun u hu => h u (by simp [hu])) k
    simp only [preS]
    omega
theorem preS_mono : ∀ (l : List Int), (∀ v ∈ l, 1 ≤ v) → ∀ j k, j ≤ k → preS l j ≤ preS l k
  | [], _, _, _, _ => by simp [preS]
  | v :: t, h, 0, k, _ => by rw [preS_zero]; exact preS_le _ h k
  | v :: t, h, j + 1, 0, hk => absurd hk (by omega)
  | v :: t, h, j + 1, k + 1, hk => by
    have := preS_mono t (fun u hu => h u (by simp [hu])) j k (by omega)
    simp only [preS]
    omega
theorem preS_up : ∀ (l : List Int), (∀ v ∈ l, 1 ≤ v ∧ v ≤ 20000) → ∀ k, preS l k ≤ 20000 * (l.length : Int)
  | [], _, _ => by simp [preS]
  | _ :: t, _, 0 => by simp only [preS, List.length_cons]; omega
  | v :: t, h, k + 1 => by
    have h1 := h v (by simp)
    have h2 := preS_up t (fun u hu => h u (by simp [hu])) k
    simp only [preS, List.length_cons]
    omega
theorem seek_uniq : ∀ (l : List Int), (∀ v ∈ l, 1 ≤ v) → ∀ (k : Nat) (t : Int), k < l.length → preS l k ≤ t → t < preS l (k + 1) → seekK l t = k
  | [], _, _, _, h, _, _ => absurd h (by simp)
  | v :: u, hp, 0, t, h, h1, h2 => by
    simp only [preS, preS_zero] at h1 h2
    simp only [seekK]
    rw [if_neg (by omega)]
  | v :: u, hp, k + 1, t, h, h1, h2 => by
    have hu : ∀ w ∈ u, 1 ≤ w := fun w hw => hp w (by simp [hw])
    have h0 := preS_le u hu k
    simp only [preS] at h1 h2
    simp only [seekK]
    rw [if_pos (by omega), seek_uniq u hu k (t - v) (by simpa using h) (by omega) (by omega)]
theorem dash_s0 (ds : List Int) (hd : ∀ v ∈ ds, 1 ≤ v ∧ v ≤ 20000) (hl : ds.length ≤ 4) : ∀ (d i : Nat), i + d = ds.length → Ev (fun k => impl_DashOf.s0 k ds (preS ds i) (i : Int)) (preS ds ds.length) := by
  intro d
  induction d with
  | zero =>
    intro i hi
    obtain rfl : i = ds.length := by omega
    refine ev_done (fun k => ?_)
    simp only [impl_DashOf.s0]
    rw [if_neg (by omega)]
  | succ d ih =>
    intro i hi
    have hi2 : i < ds.length := by omega
    have h0 := preS_le ds (fun v hv => (hd v hv).1) (i + 1)
    have h1 := preS_up ds hd (i + 1)
    have e := preS_succ ds i hi2
    refine Ev.step (fun k => ?_) (ih (i + 1) (by omega))
    simp only [impl_DashOf.s0]
    rw [if_pos (by omega), if_pos (by omega), rd_int _ _ hi2, step64 hi2 (by omega), ← e, w64 (by omega) (by omega)]
theorem dash_s1 (ds : List Int) (hd : ∀ v ∈ ds, 1 ≤ v ∧ v ≤ 20000) (hl : ds.length ≤ 4) (k : Nat) (t : Int) (hk : k < ds.length) (h1 : preS ds k ≤ t) (h2 : t < preS ds (k + 1)) : ∀ (d j : Nat), j + d = k → Ev (fun q => impl_DashOf.s1 q ds (t - preS ds j) (j : Int)) (t - preS ds k, (k : Int)) := by
  have hp : ∀ v ∈ ds, 1 ≤ v := fun v hv => (hd v hv).1
  have e := preS_succ ds k hk
  have u1 := preS_up ds hd (k + 1)
  have u2 := preS_le ds hp k
  intro d
  induction d with
  | zero =>
    intro j hj
    obtain rfl : j = k := by omega
    refine ev_done (fun q => ?_)
    simp only [impl_DashOf.s1]
    rw [if_pos (by omega), if_pos (by omega), rd_int _ _ hk, if_neg (by omega)]
  | succ d ih =>
    intro j hj
    have hj2 : j < ds.length := by omega
    have e2 := preS_succ ds j hj2
    have m := preS_mono ds hp (j + 1) k (by omega)
    have z := preS_le ds hp j
    have z2 := preS_le ds hp (j + 1)
    refine Ev.step (fun q => ?_) (ih (j + 1) (by omega))
    simp only [impl_DashOf.s1]
    rw [if_pos (by omega), if_pos (by omega), rd_int _ _ hj2, if_pos (by omega), step64 hj2 (by omega), show t - preS ds j - ds[j] = t - preS ds (j + 1) by omega, w64 (by omega) (by omega)]
theorem tmod_len {kk n : Nat} : Int.tmod ((kk : Int) + 1) (n : Int) = (((kk + 1) % n : Nat) : Int) := by
  rw [Int.tmod_eq_emod_of_nonneg (by omega)]
  exact (Int.natCast_emod (kk + 1) n).symm
theorem par_next {kk n : Nat} (hk : kk < n) (he : n % 2 = 0) : ((kk + 1) % n) % 2 = 0 ↔ ¬ kk % 2 = 0 := by
  by_cases hw : kk + 1 < n
  · rw [Nat.mod_eq_of_lt hw]
    omega
  · obtain hw2 : kk + 1 = n := by omega
    rw [hw2, Nat.mod_self]
    omega

/-! PointsOk -/
def ptsOkB (l : List S29) : Bool := l.all (fun v => decide (pointOkP v.f0 v.f1))
theorem impl_pointsOk_l (l : List S29) (hn : l.length ≤ 1048576) : ∀ (d i : Nat), i + d = l.length → Ev (fun k => impl_pointsOk.l0 k l (l.length : Int) (i : Int)) ((l.drop i).all (fun v => decide (pointOkP v.f0 v.f1))) := by
  intro d
  induction d with
  | zero =>
    intro i hi
    refine ev_done (fun k => ?_)
    simp only [impl_pointsOk.l0]
    rw [if_neg (by omega), List.drop_of_length_le (by omega)]
    rfl
  | succ d ih =>
    intro i hi
    have hi2 : i < l.length := by omega
    rw [List.drop_eq_getElem_cons hi2, List.all_cons]
    by_cases hx : pointOkP l[i].f0 l[i].f1
    · rw [decide_eq_true hx, Bool.true_and]
      refine Ev.step (fun k => ?_) (ih (i + 1) (by omega))
      simp only [impl_pointsOk.l0, impl_PointOk_v, Option.bind_some]
      rw [if_pos (by omega), if_pos (by omega), if_pos (by omega), rd_impl_Point _ _ hi2, step64 hi2 (by omega), if_pos (by simpa using hx)]
    · rw [decide_eq_false hx, Bool.false_and]
      refine ev_done (fun k => ?_)
      simp only [impl_pointsOk.l0, impl_PointOk_v, Option.bind_some]
      rw [if_pos (by omega), if_pos (by omega), if_pos (by omega), rd_impl_Point _ _ hi2, if_neg (by simpa using hx)]
theorem impl_pointsOk_v (l : List S29) (hn : l.length ≤ 1048576) : Ev (fun k => impl_pointsOk.f k l) (ptsOkB l) := impl_pointsOk_l l hn l.length 0 (by omega)

/-! law_FnDashes -/
theorem fd_round {n t : Int} (hn : 1 ≤ n) (hn2 : n ≤ 900) (h0 : 0 ≤ t) (h1 : t ≤ 900) : impl_RoundDiv.f (n * t) n = some t := by
  have e1 : Int.tmod (n * t) n = 0 := Int.mul_tmod_right n t
  have e2 : Int.tdiv (n * t) n = t := Int.mul_tdiv_cancel_left t (by omega)
  have e3 : t * n = n * t := Int.mul_comm t n
  have e4 : n * t - n * t = 0 := by omega
  have b0 : 0 ≤ n * t := Int.mul_nonneg (by omega) h0
  have b1 : n * t ≤ 900 * 900 := Int.mul_le_mul hn2 h1 h0 (by omega)
  unfold impl_RoundDiv.f impl_FloorDiv.f
  rw [if_neg (by omega), if_neg (by omega), if_neg (by omega), e1, if_neg (by omega), e2, w64 (x := t) (by omega) (by omega)]
  simp only [Option.bind_some]
  rw [e3, w64 (x := n * t) (by omega) (by omega), e4, w64 (x := 0) (by omega) (by omega), w64 (x := n - 0) (by omega) (by omega), if_neg (by omega)]
theorem fd_at {n t : Int} (hn : 1 ≤ n) (hn2 : n ≤ 900) (h0 : 0 ≤ t) (h1 : t ≤ n) : Ev (fun k => impl_PointAt.f k 0 0 n 0 t n) (t, 0) := by
  have p0 : pointOkP 0 0 := ⟨⟨by omega, by omega⟩, by omega, by omega⟩
  have p1 : pointOkP n 0 := ⟨⟨by omega, by omega⟩, by omega, by omega⟩
  have b0 : 0 ≤ n * t := Int.mul_nonneg (by omega) h0
  have b1 : n * t ≤ 900 * 900 := Int.mul_le_mul hn2 (by omega) h0 (by omega)
  have r0 : impl_RoundDiv.f 0 n = some 0 := by have := fd_round (t := 0) hn hn2 (by omega) (by omega); rwa [Int.mul_zero] at this
  have c : clampI t 0 n = t := by unfold clampI; rw [if_neg (by omega), if_neg (by omega)]
  unfold impl_PointAt.f
  simp only [impl_inRange_v, impl_PointOk_v, Option.bind_some, decide_eq_true p0, decide_eq_true p1, decide_eq_true (show 1 ≤ n ∧ n ≤ 50000000 by omega), if_true, Bool.not_true]
  refine ev_done (fun k => ?_)
  simp only [impl_PointAt.j0, Bool.false_eq_true, if_false, impl_Clamp_v, Option.bind_some, c]
  rw [w64 (x := n - 0) (by omega) (by omega), Int.sub_zero, w64 (x := n * t) (by omega) (by omega), fd_round hn hn2 h0 (by omega)]
  simp only [Option.bind_some]
  rw [show (0 : Int) - 0 = 0 by omega, w64 (x := 0) (by omega) (by omega), Int.zero_mul, w64 (x := 0) (by omega) (by omega), r0]
  simp only [Option.bind_some]
  rw [Int.zero_add, Int.zero_add, w64 (x := t) (by omega) (by omega), w64 (x := 0) (by omega) (by omega)]
theorem fd_len {n : Int} (hn : 1 ≤ n) (hn2 : n ≤ 900) : Ev (fun k => impl_LengthOf.f k 0 0 n 0) n := by
  have p0 : pointOkP 0 0 := ⟨⟨by omega, by omega⟩, by omega, by omega⟩
  have p1 : pointOkP n 0 := ⟨⟨by omega, by omega⟩, by omega, by omega⟩
  have b0 : 0 ≤ n * n := Int.mul_nonneg (by omega) (by omega)
  have b1 : n * n ≤ 900 * 900 := Int.mul_le_mul hn2 hn2 (by omega) (by omega)
  obtain ⟨r, hr, hp⟩ := impl_RootOf_v (n * n)
  have hq : RootP (n * n) n := ⟨by omega, by omega, .inl (Int.le_refl _), .inr (by rw [Int.add_mul, Int.mul_add, Int.mul_one, Int.one_mul]; omega)⟩
  obtain rfl := RootP_unique hp hq
  refine Ev.congr (fun k => ?_) hr
  unfold impl_LengthOf.f
  simp only [impl_PointOk_v, Option.bind_some, decide_eq_true p0, decide_eq_true p1, if_true]
  rw [w64 (x := r - 0) (by omega) (by omega), Int.sub_zero, w64 (x := r * r) (by omega) (by omega), show (0 : Int) - 0 = 0 by omega, w64 (x := 0) (by omega) (by omega), Int.zero_mul, w64 (x := 0) (by omega) (by omega), Int.add_zero, w64 (x := r * r) (by omega) (by omega), Option.bind_fun_some]
def fdRow (z : Int × Int) : List S29 := [⟨z.1, 0⟩, ⟨z.2, 0⟩]
def fdCov (zs : List (Int × Int)) (x : Int) : Bool := zs.any (fun z => decide (z.1 ≤ x ∧ x < z.2))
/-- Where one is in the dashes: at + left begins the next one. -/
structure FdInv (ds : List Int) (ph n at_ : Int) (kk : Nat) (left : Int) (zs : List (Int × Int)) : Prop where
  a0 : 0 ≤ at_
  a1 : at_ < n
  l1 : 1 ≤ left ∧ left ≤ 20000
  hk : kk < ds.length
  q : ∃ q : Int, q * preS ds ds.length + preS ds kk ≤ at_ + ph ∧ at_ + ph + left = q * preS ds ds.length + preS ds (kk + 1)
  z : ∀ z ∈ zs, z.2 ≤ at_
  n_ : (zs.length : Int) ≤ at_
  c : ∀ x, 0 ≤ x → x < at_ → (fdCov zs x = decide (seekK ds ((x + ph) % preS ds ds.length) % 2 = 0))
theorem emod_q {x q S r : Int} (h : x = q * S + r) (h0 : 0 ≤ r) (h1 : r < S) : x % S = r := by
  subst h
  rw [Int.add_comm, Int.add_mul_emod_self_right, Int.emod_eq_of_lt h0 h1]
theorem fd_seek {ds : List Int} {ph n at_ left : Int} {kk : Nat} {zs : List (Int × Int)} (hd : ∀ v ∈ ds, 1 ≤ v ∧ v ≤ 20000) (h : FdInv ds ph n at_ kk left zs) (x : Int) (h0 : at_ ≤ x) (h1 : x < at_ + left) : seekK ds ((x + ph) % preS ds ds.length) = kk := by
  obtain ⟨q, e1, e2⟩ := h.q
  have hp : ∀ v ∈ ds, 1 ≤ v := fun v hv => (hd v hv).1
  have m := preS_mono ds hp (kk + 1) ds.length (by have := h.hk; omega)
  have z := preS_le ds hp kk
  rw [emod_q (q := q) (r := x + ph - q * preS ds ds.length) (by omega) (by omega) (by omega)]
  exact seek_uniq ds hp kk _ h.hk (by omega) (by omega)
theorem fd_cov_app (zs : List (Int × Int)) (a b x : Int) : fdCov (zs ++ [(a, b)]) x = (fdCov zs x || decide (a ≤ x ∧ x < b)) := by
  simp [fdCov, List.any_append]
theorem fd_cov_no {zs : List (Int × Int)} {x a : Int} (h : ∀ z ∈ zs, z.2 ≤ a) (hx : a ≤ x) : fdCov zs x = false := by
  unfold fdCov
  rw [List.any_eq_false]
  intro z hz
  have := h z hz
  simp
  omega
theorem fd_step {ds : List Int} {ph n at_ left : Int} {kk : Nat} {zs : List (Int × Int)} (hd : ∀ v ∈ ds, 1 ≤ v ∧ v ≤ 20000) (h : FdInv ds ph n at_ kk left zs) (b : Int) (hb : at_ < b) (hb2 : b ≤ at_ + left) (x : Int) (h0 : 0 ≤ x) (h1 : x < b) : fdCov (if kk % 2 = 0 then zs ++ [(at_, b)] else zs) x = decide (seekK ds ((x + ph) % preS ds ds.length) % 2 = 0) := by
  by_cases hx : x < at_
  · split
    · rw [fd_cov_app, h.c x h0 hx, decide_eq_false (p := at_ ≤ x ∧ x < b) (by omega), Bool.or_false]
    · exact h.c x h0 hx
  · rw [fd_seek hd h x (by omega) (by omega)]
    split
    · rename_i hk
      rw [fd_cov_app, decide_eq_true (p := at_ ≤ x ∧ x < b) (by omega), Bool.or_true, decide_eq_true hk]
    · rename_i hk
      rw [fd_cov_no h.z (by omega), decide_eq_false hk]
theorem fd_next {ds : List Int} {ph n at_ left : Int} {kk : Nat} {zs : List (Int × Int)} (hd : ∀ v ∈ ds, 1 ≤ v ∧ v ≤ 20000) (h : FdInv ds ph n at_ kk left zs) (hl : at_ + left < n) (hk2 : (kk + 1) % ds.length < ds.length) : FdInv ds ph n (at_ + left) ((kk + 1) % ds.length) ds[(kk + 1) % ds.length] (if kk % 2 = 0 then zs ++ [(at_, at_ + left)] else zs) := by
  have hp : ∀ v ∈ ds, 1 ≤ v := fun v hv => (hd v hv).1
  have hk := h.hk
  have l1 := h.l1
  have a0 := h.a0
  refine ⟨by omega, hl, hd _ (List.getElem_mem hk2), hk2, ?_, ?_, ?_, fun x h0 h1 => fd_step hd h (at_ + left) (by omega) (Int.le_refl _) x h0 h1⟩
  · obtain ⟨q, e1, e2⟩ := h.q
    have e3 := preS_succ ds ((kk + 1) % ds.length) hk2
    by_cases hw : kk + 1 < ds.length
    · have e4 : (kk + 1) % ds.length = kk + 1 := Nat.mod_eq_of_lt hw
      refine ⟨q, ?_, ?_⟩
      · rw [e4]; omega
      · rw [e3, show preS ds ((kk + 1) % ds.length) = preS ds (kk + 1) by rw [e4]]; omega
    · obtain hw2 : kk + 1 = ds.length := by omega
      have e4 : (kk + 1) % ds.length = 0 := by rw [hw2, Nat.mod_self]
      have e5 := preS_zero ds
      rw [hw2] at e2
      refine ⟨q + 1, ?_, ?_⟩
      · rw [e4, e5, Int.add_mul, Int.one_mul]; omega
      · rw [e3, show preS ds ((kk + 1) % ds.length) = 0 by rw [e4, e5], Int.add_mul, Int.one_mul]; omega
  · intro z hz
    split at hz
    · rcases List.mem_append.mp hz with hz | hz
      · have := h.z z hz; omega
      · obtain rfl : z = (at_, at_ + left) := by simpa using hz
        exact Int.le_refl _
    · have := h.z z hz; omega
  · have := h.n_
    split
    · simp; omega
    · omega
theorem fd_loop (ds : List Int) (hd : ∀ v ∈ ds, 1 ≤ v ∧ v ≤ 20000) (hl4 : ds.length ≤ 4) (he : ds.length % 2 = 0) (ph n : Int) (hn : 1 ≤ n) (hn2 : n ≤ 900) : ∀ (d : Nat) (at_ : Int) (kk : Nat) (left : Int) (zs : List (Int × Int)), n - at_ ≤ d → FdInv ds ph n at_ kk left zs →
    ∃ (kk' : Nat) (left' : Int) (xs : List S29) (zs' : List (Int × Int)) (at' : Int), Ev (fun k => impl_dasher_piece.l0 k ds 0 0 n 0 n at_ (kk : Int) left (if kk % 2 = 0 then [⟨at_, 0⟩] else []) (zs.map fdRow)) ((kk' : Int), left', (if kk' % 2 = 0 then [⟨at', 0⟩, ⟨n, 0⟩] else []), zs'.map fdRow) ∧ zs'.length ≤ 900 ∧ ∀ x, 0 ≤ x → x < n → fdCov (if kk' % 2 = 0 then zs' ++ [(at', n)] else zs') x = decide (seekK ds ((x + ph) % preS ds ds.length) % 2 = 0) := by
  intro d
  induction d with
  | zero => intro at_ kk left zs hd0 h; have := h.a1; omega
  | succ d ih =>
    intro at_ kk left zs hd0 h
    have a0 := h.a0
    have a1 := h.a1
    have l1 := h.l1
    have hk := h.hk
    have hzn := h.n_
    have tm : Int.tmod (kk : Int) 2 = ((kk % 2 : Nat) : Int) := by rw [Int.tmod_eq_emod_of_nonneg (by omega)]; omega
    by_cases hc : n - at_ > left
    · have hk2 : (kk + 1) % ds.length < ds.length := Nat.mod_lt _ (by omega)
      obtain ⟨kk', left', xs, zs', at', h1, h2⟩ := ih (at_ + left) ((kk + 1) % ds.length) ds[(kk + 1) % ds.length] _ (by omega) (fd_next hd h (by omega) hk2)
      refine ⟨kk', left', xs, zs', at', Ev.step (fun k => by
        simp only [impl_dasher_piece.l0]
        rw [w64 (x := n - at_) (by omega) (by omega), if_pos hc, w64 (x := at_ + left) (by omega) (by omega)]) (Ev.bind (fd_at hn hn2 (t := at_ + left) (by omega) (by omega)) ?_), h2⟩
      have tk := tmod_len (kk := kk) (n := ds.length)
      have par := par_next hk he
      by_cases hp : kk % 2 = 0
      · refine Ev.congr (fun k => ?_) h1
        rw [if_neg (show ¬ ((kk + 1) % ds.length) % 2 = 0 by rw [par]; omega)]
        simp only [if_pos hp]
        rw [if_pos (by simp), if_pos (by simp; omega), if_neg (by omega), w64 (x := (kk : Int) + 1) (by omega) (by omega), tk, if_pos (by omega), if_pos (by omega), tm, if_pos (by omega), rd_int _ _ hk2, if_pos (by simp)]
        simp [fdRow]
      · refine Ev.congr (fun k => ?_) h1
        rw [if_pos (show ((kk + 1) % ds.length) % 2 = 0 by rw [par]; omega)]
        simp only [if_neg hp]
        rw [if_pos (by simp), if_pos (by simp; omega), if_neg (by omega), w64 (x := (kk : Int) + 1) (by omega) (by omega), tk, if_pos (by omega), if_pos (by omega), tm, if_neg (by omega), rd_int _ _ hk2]
        simp
    · refine ⟨kk, left - (n - at_), [], zs, at_, ev_done (fun k => ?_), by omega, fun x h0 h1 => fd_step hd h n (by omega) (by omega) x h0 h1⟩
      simp only [impl_dasher_piece.l0]
      rw [w64 (x := n - at_) (by omega) (by omega), if_neg hc, tm, w64 (x := left - (n - at_)) (by omega) (by omega)]
      by_cases hp : kk % 2 = 0
      · rw [if_pos (by omega), if_pos hp, if_pos hp, if_pos (by simp)]
        simp
      · rw [if_neg (by omega), if_neg hp, if_neg hp]
theorem fd_s2 (ds : List Int) (hd : ∀ v ∈ ds, 1 ≤ v ∧ v ≤ 20000) (hl4 : ds.length ≤ 4) (he : ds.length % 2 = 0) (ph n : Int) (hn : 1 ≤ n) (hn2 : n ≤ 900) (kk : Nat) (left : Int) (h : FdInv ds ph n 0 kk left []) :
    ∃ (kk' : Nat) (left' : Int) (zs' : List (Int × Int)) (at' : Int), Ev (fun k => impl_DashOf.s2 k [⟨0, 0⟩, ⟨n, 0⟩] ds 1 (kk : Int) left (if kk % 2 = 0 then [⟨0, 0⟩] else []) []) ((kk' : Int), left', (if kk' % 2 = 0 then [⟨at', 0⟩, ⟨n, 0⟩] else []), zs'.map fdRow) ∧ zs'.length ≤ 900 ∧ ∀ x, 0 ≤ x → x < n → fdCov (if kk' % 2 = 0 then zs' ++ [(at', n)] else zs') x = decide (seekK ds ((x + ph) % preS ds ds.length) % 2 = 0) := by
  obtain ⟨kk', left', _, zs', at', h1, h2⟩ := fd_loop ds hd hl4 he ph n hn hn2 900 0 kk left [] (by omega) h
  refine ⟨kk', left', zs', at', Ev.step (fun k => ?_) (Ev.bind (g := fun k => impl_dasher_piece.f k ds 0 0 n 0 (kk : Int) left (if kk % 2 = 0 then [⟨0, 0⟩] else []) []) (f := fun k q => impl_DashOf.s2 k [⟨0, 0⟩, ⟨n, 0⟩] ds 2 q.1 q.2.1 q.2.2.1 q.2.2.2) (a := ((kk' : Int), left', (if kk' % 2 = 0 then [⟨at', 0⟩, ⟨n, 0⟩] else []), zs'.map fdRow)) ?_ (ev_done (fun k => ?_))), h2⟩
  · simp only [impl_DashOf.s2]
    rw [if_pos (by simp), show wrap64 (1 - 1) = 0 by rw [w64] <;> omega, if_pos (by omega), if_pos (by simp), if_pos (by omega), show wrap64 (1 + 1) = 2 by rw [w64] <;> omega]
    rfl
  · unfold impl_dasher_piece.f
    refine Ev.bind (fd_len hn hn2) ?_
    simp only [if_neg (show ¬ n = 0 by omega)]
    exact h1
  · simp only [impl_DashOf.s2]
    rw [if_neg (by simp)]
theorem fd_dash (ds : List Int) (hd : ∀ v ∈ ds, 1 ≤ v ∧ v ≤ 20000) (hl0 : 0 < ds.length) (hl4 : ds.length ≤ 4) (he : ds.length % 2 = 0) (ph n : Int) (hn : 1 ≤ n) (hn2 : n ≤ 900) (hp : 0 ≤ ph) (hp2 : ph ≤ 20000) :
    ∃ zs : List (Int × Int), Ev (fun k => impl_DashOf.f k [⟨0, 0⟩, ⟨n, 0⟩] ds ph) (zs.map fdRow) ∧ zs.length ≤ 901 ∧ ∀ x, 0 ≤ x → x < n → fdCov zs x = decide (seekK ds ((x + ph) % preS ds ds.length) % 2 = 0) := by
  have hd1 : ∀ v ∈ ds, 1 ≤ v := fun v hv => (hd v hv).1
  have hS : 0 < preS ds ds.length := by
    have e : preS ds 1 = preS ds 0 + ds[0] := preS_succ ds 0 hl0
    have z := preS_zero ds
    have m := preS_mono ds hd1 1 ds.length hl0
    have := hd _ (List.getElem_mem hl0)
    omega
  have hSu := preS_up ds hd ds.length
  have t0 : 0 ≤ Int.tmod ph (preS ds ds.length) := Int.tmod_nonneg _ hp
  have t1 : Int.tmod ph (preS ds ds.length) < preS ds ds.length := Int.tmod_lt_of_pos _ hS
  obtain ⟨k1, k2, k3⟩ := seek_spec ds (Int.tmod ph (preS ds ds.length)) t0 t1
  have hq : ph = ph / preS ds ds.length * preS ds ds.length + Int.tmod ph (preS ds ds.length) := by
    rw [Int.tmod_eq_emod_of_nonneg hp, Int.mul_comm]
    exact (Int.mul_ediv_add_emod ph (preS ds ds.length)).symm
  generalize ht : Int.tmod ph (preS ds ds.length) = t at *
  generalize hk : seekK ds t = kk at *
  have e := preS_succ ds kk k1
  have hv := hd _ (List.getElem_mem k1)
  have hI : FdInv ds ph n 0 kk (ds[kk] - (t - preS ds kk)) [] := ⟨by omega, by omega, by omega, k1, ⟨ph / preS ds ds.length, by omega, by omega⟩, by simp, by simp, fun x h0 h1 => absurd h1 (by omega)⟩
  obtain ⟨kk', left', zs', at', h1, h2, h3⟩ := fd_s2 ds hd hl4 he ph n hn hn2 kk _ hI
  refine ⟨if kk' % 2 = 0 then zs' ++ [(at', n)] else zs', ?_, by have := h2; split <;> (try simp) <;> omega, h3⟩
  have ok : dashOkB ds = true := by
    unfold dashOkB
    simp only [Bool.and_eq_true, decide_eq_true_eq, List.all_eq_true]
    exact ⟨hd, he, hl4⟩
  have po : ptsOkB [(⟨0, 0⟩ : S29), ⟨n, 0⟩] = true := by
    have p0 : pointOkP 0 0 := ⟨⟨by omega, by omega⟩, by omega, by omega⟩
    have p1 : pointOkP n 0 := ⟨⟨by omega, by omega⟩, by omega, by omega⟩
    simp [ptsOkB, p0, p1]
  have tm : Int.tmod (kk : Int) 2 = ((kk % 2 : Nat) : Int) := by rw [Int.tmod_eq_emod_of_nonneg (by omega)]; omega
  unfold impl_DashOf.f
  refine Ev.bind (impl_DashOk_v ds (by omega)) ?_
  have hlen : ¬ (([⟨0, 0⟩, ⟨n, 0⟩] : List S29).length : Int) < 2 := by simp
  simp only [ok, if_true, if_neg hlen]
  simp only [impl_inRange_v, Option.bind_some, decide_eq_true (show 0 ≤ ph ∧ ph ≤ 20000 from ⟨hp, hp2⟩), if_true]
  refine Ev.bind (impl_pointsOk_v _ (by simp)) ?_
  simp only [po, if_true, if_neg (show ¬ (ds.length : Int) = 0 by omega)]
  unfold impl_DashOf.m
  have hs0 := dash_s0 ds hd hl4 ds.length 0 (by omega)
  rw [preS_zero] at hs0
  refine Ev.bind hs0 ?_
  simp only [if_neg (show ¬ preS ds ds.length = 0 by omega), ht]
  have hs1 := dash_s1 ds hd hl4 kk t k1 k2 k3 kk 0 (by omega)
  rw [preS_zero, Int.sub_zero] at hs1
  refine Ev.bind hs1 ?_
  simp only [if_pos (show (0 : Int) ≤ (kk : Int) by omega), if_pos (show (kk : Int) < (ds.length : Int) by omega), rd_int _ _ k1, w64 (x := ds[kk] - (t - preS ds kk)) (by omega) (by omega)]
  refine Ev.bind (a := ((kk' : Int), left', (if kk' % 2 = 0 then [⟨at', 0⟩, ⟨n, 0⟩] else []), zs'.map fdRow)) ?_ ?_
  · refine Ev.congr (fun k => ?_) h1
    by_cases c : kk % 2 = 0
    · rw [if_pos (by omega), if_pos (by simp), if_pos c]
      rfl
    · rw [if_neg (by omega), if_neg c]
  · simp only [List.length_map, if_pos (show zs'.length < 5864062014805 by omega)]
    refine Ev.congr (fun k => ?_) (Ev.now _)
    by_cases c : kk' % 2 = 0
    · simp [if_pos c, fdRow]
    · simp [if_neg c]
section
variable (ds : List Int) (hd : ∀ v ∈ ds, 1 ≤ v ∧ v ≤ 20000) (hl4 : ds.length ≤ 4) (zs : List (Int × Int)) (hz : zs.length ≤ 901) (n ph : Int) (hn2 : n ≤ 900) (hp : 0 ≤ ph) (hp2 : ph ≤ 20000)
include hz
theorem law_l3 (S x : Int) (kk : Nat) (R : Bool) (hR : Ev (fun k => laws_FnDashes.l1 k n ds ph (zs.map fdRow) S (wrap64 (x + 1))) R) : ∀ (d i : Nat) (b : Bool), i + d = zs.length → (b || fdCov (zs.drop i) x) = decide (kk % 2 = 0) → Ev (fun k => laws_FnDashes.l3 k n ds ph (zs.map fdRow) S x (kk : Int) b (i : Int)) R := by
  have tm : Int.tmod (kk : Int) 2 = ((kk % 2 : Nat) : Int) := by rw [Int.tmod_eq_emod_of_nonneg (by omega)]; omega
  intro d
  induction d with
  | zero =>
    intro i b hi hb
    rw [List.drop_of_length_le (by omega)] at hb
    have hb2 : b = decide (kk % 2 = 0) := by simpa [fdCov] using hb
    refine Ev.step (fun k => ?_) hR
    simp only [laws_FnDashes.l3]
    rw [if_neg (by simp; omega), tm, if_neg ?_]
    rw [hb2]
    by_cases c : kk % 2 = 0
    · simp [c]
    · have c2 : kk % 2 = 1 := by omega
      simp [c2]
  | succ d ih =>
    intro i b hi hb
    have hi2 : i < zs.length := by omega
    have hi3 : i < (zs.map fdRow).length := by simpa using hi2
    rw [List.drop_eq_getElem_cons hi2] at hb
    cases b with
    | true =>
      refine Ev.step (fun k => ?_) (ih (i + 1) true (by omega) (by simpa [fdCov] using hb))
      simp only [laws_FnDashes.l3]
      rw [if_pos (by simp; omega), if_pos trivial, step64 hi2 (by omega)]
    | false =>
      have e : rd_L3 (zs.map fdRow) (i : Int) = fdRow zs[i] := by
        rw [rd_impl_PointSS _ _ hi3]
        simp
      have hb3 : (decide (zs[i].1 ≤ x ∧ x < zs[i].2) || fdCov (zs.drop (i + 1)) x) = decide (kk % 2 = 0) := by simpa only [fdCov, List.any_cons, Bool.false_or] using hb
      have e2 : wrap64 (((fdRow zs[i]).length : Int) - 1) = 1 := by rw [show ((fdRow zs[i]).length : Int) = 2 from rfl, w64] <;> omega
      by_cases c : zs[i].1 ≤ x
      · refine Ev.step (fun k => ?_) (ih (i + 1) (decide (x < zs[i].2)) (by omega) (by rw [← hb3]; simp [c]))
        simp only [laws_FnDashes.l3, e, e2]
        rw [if_pos (by simp; omega), if_neg (by simp), if_pos (by omega), if_pos (by simp [fdRow]), if_pos (by exact c), if_pos (by omega), if_pos (by simp [fdRow]), step64 hi2 (by omega)]
        rfl
      · refine Ev.step (fun k => ?_) (ih (i + 1) false (by omega) (by rw [← hb3]; simp [c]))
        simp only [laws_FnDashes.l3, e, e2]
        rw [if_pos (by simp; omega), if_neg (by simp), if_pos (by omega), if_pos (by simp [fdRow]), if_neg (by exact c), step64 hi2 (by omega)]
include hd hl4
omit hz in
theorem law_l2 (S x t : Int) (kk : Nat) (R : Bool) (hk : kk < ds.length) (h1 : preS ds kk ≤ t) (h2 : t < preS ds (kk + 1)) (hR : Ev (fun k => laws_FnDashes.l3 k n ds ph (zs.map fdRow) S x (kk : Int) false 0) R) : ∀ (d j : Nat), j + d = kk → Ev (fun k => laws_FnDashes.l2 k n ds ph (zs.map fdRow) S x (t - preS ds j) (j : Int)) R := by
  have hp : ∀ v ∈ ds, 1 ≤ v := fun v hv => (hd v hv).1
  have e := preS_succ ds kk hk
  have u1 := preS_up ds hd (kk + 1)
  have u2 := preS_le ds hp kk
  intro d
  induction d with
  | zero =>
    intro j hj
    obtain rfl : j = kk := by omega
    refine Ev.step (fun q => ?_) hR
    simp only [laws_FnDashes.l2]
    rw [if_pos (by omega), if_pos (by omega), rd_int _ _ hk, if_neg (by omega)]
  | succ d ih =>
    intro j hj
    have hj2 : j < ds.length := by omega
    have e2 := preS_succ ds j hj2
    have m := preS_mono ds hp (j + 1) kk (by omega)
    have z := preS_le ds hp j
    have z2 := preS_le ds hp (j + 1)
    refine Ev.step (fun q => ?_) (ih (j + 1) (by omega))
    simp only [laws_FnDashes.l2]
    rw [if_pos (by omega), if_pos (by omega), rd_int _ _ hj2, if_pos (by omega), step64 hj2 (by omega), show t - preS ds j - ds[j] = t - preS ds (j + 1) by omega, w64 (by omega) (by omega)]
include hn2 hp hp2 hz
theorem law_l1 (hl0 : 0 < ds.length) (he : ds.length % 2 = 0) (hS : 0 < preS ds ds.length) (hc : ∀ x, 0 ≤ x → x < n → fdCov zs x = decide (seekK ds ((x + ph) % preS ds ds.length) % 2 = 0)) : ∀ (d : Nat) (x : Int), 0 ≤ x → x + d = n → Ev (fun k => laws_FnDashes.l1 k n ds ph (zs.map fdRow) (preS ds ds.length) x) true := by
  have ok : dashOkB ds = true := by
    unfold dashOkB
    simp only [Bool.and_eq_true, decide_eq_true_eq, List.all_eq_true]
    exact ⟨hd, he, hl4⟩
  intro d
  induction d with
  | zero =>
    intro x h0 hx
    refine Ev.step (fun k => by simp only [laws_FnDashes.l1]; rw [if_neg (by omega)]) (Ev.bind (impl_DashOk_v ds (by omega)) ?_)
    simp only [ok, if_true]
    refine Ev.bind (a := ([] : List (List S29))) ?_ (Ev.now true)
    unfold impl_DashOf.f
    refine Ev.bind (impl_DashOk_v ds (by omega)) ?_
    simp only [ok, if_true]
    rw [if_pos (by simp)]
    exact Ev.now _
  | succ d ih =>
    intro x h0 hx
    have t0 : 0 ≤ (x + ph) % preS ds ds.length := Int.emod_nonneg _ (by omega)
    have t1 : (x + ph) % preS ds ds.length < preS ds ds.length := Int.emod_lt_of_pos _ hS
    obtain ⟨k1, k2, k3⟩ := seek_spec ds _ t0 t1
    have hR := ih (x + 1) (by omega) (by omega)
    rw [← w64 (x := x + 1) (by omega) (by omega)] at hR
    have h3 := law_l3 ds zs hz n ph (preS ds ds.length) x (seekK ds ((x + ph) % preS ds ds.length)) true hR zs.length 0 false (by omega) (by rw [Bool.false_or, List.drop_zero]; exact hc x h0 (by omega))
    have h2 := law_l2 ds hd hl4 zs n ph (preS ds ds.length) x _ _ true k1 k2 k3 h3 _ 0 (by rw [Nat.zero_add])
    rw [preS_zero, Int.sub_zero] at h2
    refine Ev.step (fun k => ?_) h2
    simp only [laws_FnDashes.l1]
    rw [if_pos (by omega), if_neg (by omega), w64 (x := x + ph) (by omega) (by omega), Int.tmod_eq_emod_of_nonneg (by omega)]
    rfl
omit hn2 hp hp2 hz in
theorem law_l0 (R : Bool) (hR : Ev (fun k => laws_FnDashes.l1 k n ds ph (zs.map fdRow) (preS ds ds.length) 0) R) : ∀ (d i : Nat), i + d = ds.length → Ev (fun k => laws_FnDashes.l0 k n ds ph (zs.map fdRow) (preS ds i) (i : Int)) R := by
  intro d
  induction d with
  | zero =>
    intro i hi
    obtain rfl : i = ds.length := by omega
    refine Ev.step (fun k => ?_) hR
    simp only [laws_FnDashes.l0]
    rw [if_neg (by omega)]
  | succ d ih =>
    intro i hi
    have hi2 : i < ds.length := by omega
    have h0 := preS_le ds (fun v hv => (hd v hv).1) (i + 1)
    have h1 := preS_up ds hd (i + 1)
    have e := preS_succ ds i hi2
    refine Ev.step (fun k => ?_) (ih (i + 1) (by omega))
    simp only [laws_FnDashes.l0]
    rw [if_pos (by omega), if_pos (by omega), rd_int _ _ hi2, step64 hi2 (by omega), ← e, w64 (by omega) (by omega)]
end
theorem law_j0 (p ds : List Int) (hl : p.length = 12) (hv : ∀ v ∈ p, 0 ≤ v) (hd : ∀ v ∈ ds, 1 ≤ v ∧ v ≤ 20000) (hl0 : 0 < ds.length) (hl4 : ds.length ≤ 4) (he : ds.length % 2 = 0) (n : Int) (hn : 1 ≤ n) (hn2 : n ≤ 900) : Ev (fun k => laws_FnDashes.j0 k p n ds) true := by
  have h6 : 6 < p.length := by omega
  have v6 := hv _ (List.getElem_mem h6)
  have b0 : 0 ≤ Int.tmod p[6] 700 := Int.tmod_nonneg _ v6
  have b1 : Int.tmod p[6] 700 < 700 := Int.tmod_lt_of_pos _ (by omega)
  have e6 : rd p 6 = p[6] := rd_int p 6 h6
  have hd1 : ∀ v ∈ ds, 1 ≤ v := fun v hv => (hd v hv).1
  have hS : 0 < preS ds ds.length := by
    have e : preS ds 1 = preS ds 0 + ds[0] := preS_succ ds 0 hl0
    have z := preS_zero ds
    have m := preS_mono ds hd1 1 ds.length hl0
    have := hd _ (List.getElem_mem hl0)
    omega
  obtain ⟨zs, h1, h2, h3⟩ := fd_dash ds hd hl0 hl4 he (Int.tmod p[6] 700) n hn hn2 b0 (by omega)
  have hl1 := law_l1 ds hd hl4 zs h2 n (Int.tmod p[6] 700) hn2 b0 (by omega) hl0 he hS h3 n.toNat 0 (by omega) (by omega)
  have hl00 := law_l0 ds hd hl4 zs n (Int.tmod p[6] 700) true hl1 ds.length 0 (by omega)
  rw [preS_zero] at hl00
  refine Ev.step (fun k => by simp only [laws_FnDashes.j0]; rw [if_pos (by omega), e6]) (Ev.bind h1 ?_)
  exact hl00
theorem FnDashes : laws_FnDashes.Pure := by
  intro l _ _ _
  by_cases h : (l.length : Int) > 1048576
  · refine ⟨1, ?_⟩
    unfold laws_FnDashes.f laws_big.f
    rw [decide_eq_true h]
    simp
  have hn : l.length ≤ 1048576 := by omega
  obtain ⟨p, hp, hl, hv⟩ := DrawPlaces_v l hn
  refine Ev.rounds ?_
  unfold laws_FnDashes.f laws_big.f
  simp only [Option.bind_some, decide_eq_false h, Bool.false_eq_true, if_false]
  refine Ev.bind hp ?_
  have m : ∀ (i : Nat) (c : Int), i < 12 → 0 < c → c ≤ 10000 → 1 ≤ wrap64 (1 + Int.tmod (rd p (i : Int)) c) ∧ wrap64 (1 + Int.tmod (rd p (i : Int)) c) ≤ c := by
    intro i c hi h0 h1
    have hi2 : i < p.length := by omega
    have v0 := hv _ (List.getElem_mem hi2)
    have b0 : 0 ≤ Int.tmod p[i] c := Int.tmod_nonneg _ v0
    have b1 : Int.tmod p[i] c < c := Int.tmod_lt_of_pos _ h0
    rw [rd_int _ _ hi2, w64 (by omega) (by omega)]
    omega
  have m0 := m 0 900 (by omega) (by omega) (by omega)
  have m1 := m 1 90 (by omega) (by omega) (by omega)
  have m2 := m 2 90 (by omega) (by omega) (by omega)
  have m4 := m 4 50 (by omega) (by omega) (by omega)
  have m5 := m 5 50 (by omega) (by omega) (by omega)
  simp only [if_pos (show (0 : Int) < (p.length : Int) by omega), if_pos (show (1 : Int) < (p.length : Int) by omega), if_pos (show (2 : Int) < (p.length : Int) by omega), if_pos (show (3 : Int) < (p.length : Int) by omega), if_pos (show (4 : Int) < (p.length : Int) by omega), if_pos (show (5 : Int) < (p.length : Int) by omega), Option.bind_some]
  by_cases c : Int.tmod (rd p 3) 2 = 1
  · simp only [if_pos c, if_pos (show [wrap64 (1 + (rd p 1).tmod 90), wrap64 (1 + (rd p 2).tmod 90)].length + [wrap64 (1 + (rd p 4).tmod 50), wrap64 (1 + (rd p 5).tmod 50)].length < 17592186044416 by simp)]
    refine law_j0 p _ hl hv ?_ (by simp) (by simp) (by simp) _ m0.1 m0.2
    intro v hv'
    simp only [List.cons_append, List.nil_append, List.mem_cons, List.not_mem_nil, or_false] at hv'
    rcases hv' with rfl | rfl | rfl | rfl
    · exact ⟨m1.1, Int.le_trans m1.2 (by omega)⟩
    · exact ⟨m2.1, Int.le_trans m2.2 (by omega)⟩
    · exact ⟨m4.1, Int.le_trans m4.2 (by omega)⟩
    · exact ⟨m5.1, Int.le_trans m5.2 (by omega)⟩
  · simp only [if_neg c]
    refine law_j0 p _ hl hv ?_ (by simp) (by simp) (by simp) _ m0.1 m0.2
    intro v hv'
    simp only [List.mem_cons, List.not_mem_nil, or_false] at hv'
    rcases hv' with rfl | rfl
    · exact ⟨m1.1, Int.le_trans m1.2 (by omega)⟩
    · exact ⟨m2.1, Int.le_trans m2.2 (by omega)⟩

end Go.Proofs.Ytjfienkbcacijaa.Pure
