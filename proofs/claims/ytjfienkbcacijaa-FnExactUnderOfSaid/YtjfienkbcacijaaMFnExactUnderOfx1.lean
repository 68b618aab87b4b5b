/- Functions of the program as Lean functions, and the proof that a call comes to just these: machine text of this session's own program (myprint.py). -/
import Derived.Test.YtjfienkbcacijaaMFnExactUnderOfx0
namespace Go.Proofs.Ytjfienkbcacijaa.MFnExactUnderOf
open Go.RowKit Go.Proofs.YtjfienkbcacijaaW.PrintWords Go.Proofs.YtjfienkbcacijaaW.PrintLast Go.Proofs.YtjfienkbcacijaaW.PrintMore
attribute [local go_sem] max2_int min2_int max_two min_two max_three min_three max_four min_four   -- for this text's walks alone
set_option linter.unusedVariables false
set_option linter.unusedSimpArgs false

theorem z1_0 {P : Prop} (h : P := by repeat (first | (with_reducible first | exact HB.out | apply below_alloc | apply pw_below_drewN | apply below_drew1) | exact HB.out)) : P := h
theorem z1_1 {P : Prop} (h : P := by (try simp only [List.map_toArray, List.map_cons, List.map_nil]); first | done | rfl | (simp only [List.length_drop, List.length_take]; rfl)) : P := h
theorem z1_2 {P : Prop} (h : P := by repeat (first | (with_reducible first | exact HB.out | apply below_alloc | apply pw_below_drewN | apply below_drew1 | refine below_set ?_ GE107.out) | exact HB.out)) : P := h
theorem z1_3 {P : Prop} (h : P := by first | rfl | (simp [errW_none, errW_some] <;> rfl) | (simp [*, errW_none, errW_some] <;> rfl)) : P := h
theorem z1_4 {P : Prop} (h : P := by repeat (first | exact (Kd.C_below HR0_0.out HB.out) | (with_reducible refine Kd.C_alloc ?_ _) | (with_reducible refine Kd.C_drewN ?_ _) | (with_reducible refine Kd.C_drew ?_))) : P := h
theorem z1_5 {P : Prop} (h : P := by repeat (first | (with_reducible first | exact HB.out | apply below_alloc | apply pw_below_drewN | apply below_drew1 | refine below_set ?_ GE104.out) | exact HB.out)) : P := h
theorem z1_6 {P : Prop} (h : P := by first | (rw [hy_]; with_reducible exact H) | (have H2_ := (Option.bind_some _ _).symm.trans H; rw [hy_]; with_reducible exact H2_) | (have H2_ := (Option.bind_some _ _).symm.trans H; with_reducible exact H2_) | with_reducible exact H | (rw [hy_]; exact H) | exact H) : P := h
theorem z1_7 {P : Prop} (h : P := by repeat (first | exact (Kd.C_below HR0_10.out HB.out) | (with_reducible refine Kd.C_alloc ?_ _) | (with_reducible refine Kd.C_drewN ?_ _) | (with_reducible refine Kd.C_drew ?_))) : P := h
theorem z1_8 {P : Prop} (h : P := by repeat (first | exact (Kd.C_below HR0_9.out HB.out) | (with_reducible refine Kd.C_alloc ?_ _) | (with_reducible refine Kd.C_drewN ?_ _) | (with_reducible refine Kd.C_drew ?_))) : P := h
theorem z1_9 {P : Prop} (h : P := by repeat (first | (with_reducible first | exact HB.out | apply below_alloc | apply pw_below_drewN | apply below_drew1 | refine below_set ?_ GE113.out) | exact HB.out)) : P := h
theorem z1_10 {P : Prop} (h : P := by repeat (first | exact Drawn0.refl _ | apply Drawn0.step)) : P := h
theorem z1_11 {P : Prop} (h : P := by repeat (first | (with_reducible first | exact HK.out | apply Kept.alloc | apply Kept.drewN | apply Kept.drew) | exact HK.out)) : P := h
theorem z1_12 {P : Prop} (h : P := by repeat (first | exact (Kd.C_below HR0_13.out HB.out) | (with_reducible refine Kd.C_alloc ?_ _) | (with_reducible refine Kd.C_drewN ?_ _) | (with_reducible refine Kd.C_drew ?_))) : P := h
theorem z1_13 {P : Prop} (h : P := by repeat (first | exact (Kd.C_below HR111_10.out HB.out) | (with_reducible refine Kd.C_alloc ?_ _) | (with_reducible refine Kd.C_drewN ?_ _) | (with_reducible refine Kd.C_drew ?_))) : P := h
theorem z1_14 {P : Prop} (h : P := by repeat (first | exact (Kd.C_below HR111_13.out HB.out) | (with_reducible refine Kd.C_alloc ?_ _) | (with_reducible refine Kd.C_drewN ?_ _) | (with_reducible refine Kd.C_drew ?_))) : P := h
theorem z1_15 {P : Prop} (h : P := by repeat (first | exact (Kd.C_below HR111_29.out HB.out) | (with_reducible refine Kd.C_alloc ?_ _) | (with_reducible refine Kd.C_drewN ?_ _) | (with_reducible refine Kd.C_drew ?_))) : P := h
theorem z1_16 {P : Prop} (h : P := by repeat (first | exact (Kd.C_below HR111_30.out HB.out) | (with_reducible refine Kd.C_alloc ?_ _) | (with_reducible refine Kd.C_drewN ?_ _) | (with_reducible refine Kd.C_drew ?_))) : P := h
theorem z1_17 {P : Prop} (h : P := by repeat (first | exact (Kd.C_below HR111_9.out HB.out) | (with_reducible refine Kd.C_alloc ?_ _) | (with_reducible refine Kd.C_drewN ?_ _) | (with_reducible refine Kd.C_drew ?_))) : P := h
/-! ### laws_eqIntS: function 24 -/
def laws_eqIntS.l0 : Nat → List Int → List Int → Int → Option (Bool)
 | 0, _, _, _ => none
 | k + 1, x0, x1, x5 => if x5 < (x0.length : Int) then (if 0 ≤ x5 then (if x5 < (x1.length : Int) then (if (rd x0 x5) = (rd x1 x5) then (laws_eqIntS.l0 k x0 x1 (wrap64 (x5 + 1))) else (some false)) else (none)) else (none)) else (some true)
def laws_eqIntS.f (k : Nat) (l0 : List Int) (l1 : List Int) : Option (Bool) := if (l0.length : Int) = (l1.length : Int) then (laws_eqIntS.l0 k l0 l1 0) else (some false)
theorem laws_eqIntS.mono_l : ∀ k, (∀ y0 y1 y2, LeO (laws_eqIntS.l0 k y0 y1 y2) (laws_eqIntS.l0 (k + 1) y0 y1 y2))
 | 0 => fun _ _ _ r h => by simp [laws_eqIntS.l0] at h
 | k + 1 => by
  have ih0 := laws_eqIntS.mono_l k
  ·intro y0 y1 y2
   unfold laws_eqIntS.l0
   repeat' first
   | (with_reducible exact ih0 _ _ _)
   | (with_reducible exact LeO.refl _)
   | (with_reducible exact LeO.none _)
   | (with_reducible refine LeO.ite ?_ ?_)
   | (with_reducible refine LeO.bind ?_ (fun _ => ?_))
theorem laws_eqIntS.mono : ∀ a0 a1 k, LeO (laws_eqIntS.f k a0 a1) (laws_eqIntS.f (k + 1) a0 a1) := by
 intro a0 a1 k
 have ih0 := laws_eqIntS.mono_l k
 unfold laws_eqIntS.f
 repeat' first
   | (with_reducible exact ih0 _ _ _)
   | (with_reducible exact LeO.refl _)
   | (with_reducible exact LeO.none _)
   | (with_reducible refine LeO.ite ?_ ?_)
   | (with_reducible refine LeO.bind ?_ (fun _ => ?_))
set_option maxHeartbeats 8000000 in
set_option maxRecDepth 100000 in
theorem laws_eqIntS.calls (k : Nat) (A0 : Option Addr) (c0 : Nat) (l0 : List Int) (A1 : Option Addr) (c1 : Nat) (l1 : List Int) (r : Bool) (w : World) (hr0 : Kd.C (Kd.int .i64) w A0 l0.length l0) (hc0 : l0.length ≤ c0) (hr1 : Kd.C (Kd.int .i64) w A1 l1.length l1) (hc1 : l1.length ≤ c1) (h : laws_eqIntS.f k l0 l1 = some r) :
  Calls Try.prog 24 #[.slice A0 l0.length c0, .slice A1 l1.length c1] w fun e w' => e = .returned (.bool r) ∧ Drawn0 w w' := by
 have HR0 := mk0 hr0
 have HC0 := mk0 hc0
 clear hr0 hc0
 have HR1 := mk0 hr1
 have HC1 := mk0 hc1
 clear hr1 hc1
 have H : (if (l0.length : Int) = (l1.length : Int) then (laws_eqIntS.l0 k l0 l1 0) else (some false)) = some r := h
 clear h
 by_cases c3 : (l0.length : Int) = (l1.length : Int)
 rotate_left
 ·rw [if_neg c3] at H
  have c3b0 : ((l0.length : Int) == (l1.length : Int)) = false := beq_eq_false_iff_ne.mpr c3
  have c3b1 : ((l0.length : Int) != (l1.length : Int)) = true := bne_iff_ne.mpr c3
  have c3b2 : (l0.length == l1.length) = false := by first | simpa using c3 | (simp at c3 ⊢; omega)
  obtain rfl := Option.some.inj H
  simp only [Option.some.injEq, Prod.mk.injEq] at H
  obtain ⟨rfl⟩ := H
  go_enter Try.func24, Try.ntmps24
  go_wp2
  repeat (go_quiet (fail); try go_wp2)
  go_ret
  exact ⟨rs0, z1_10⟩
 rw [if_pos c3] at H
 have c3b0 : ((l0.length : Int) == (l1.length : Int)) = true := beq_iff_eq.mpr c3
 have c3b1 : ((l0.length : Int) != (l1.length : Int)) = false := bne_eq_false_iff_eq.mpr c3
 have c3b2 : (l0.length == l1.length) = true := by first | simpa using c3 | (simp at c3 ⊢; omega)
 clear c3
 have H' := mk0 H
 clear H
 go_enter Try.func24, Try.ntmps24
 go_wp2
 repeat (go_quiet (fail); try go_wp2)
 go_loopg [5] k (fun kq v5 w' => ∃ (x5_1 : Int), v5 = .int .i64 x5_1 ∧ Aside0 (laws_eqIntS.l0 kq l0 l1 x5_1 = some r) ∧ Aside0 (kq ≤ k) ∧ Drawn0 w w')
 case atStart => exact ⟨(0), rs0, H', ⟨Nat.le_refl _⟩, z1_10⟩
 case round =>
  clear H'
  try clear c1
  try clear c2
  try clear p2
  try clear c3
  try clear c3b0
  try clear c3b1
  try clear c3b2
  obtain ⟨x5_1, rfl, HA, HK1, ⟨m1, rfl⟩⟩ := hrel
  cases gk with
  | zero => exact absurd HA.out (by simp [laws_eqIntS.l0])
  | succ k1 =>
   have H := HA.out; clear HA
   simp only [laws_eqIntS.l0] at H
   by_cases c4 : x5_1 < (l0.length : Int)
   rotate_left
   ·rw [if_neg c4] at H
    have c4b0 := decide_eq_false c4
    clear c4
    obtain rfl := Option.some.inj H
    simp only [Option.some.injEq, Prod.mk.injEq] at H
    obtain ⟨rfl⟩ := H
    go_wp2
    repeat (go_quiet (fail); try go_wp2)
    go_ret
    exact ⟨rs0, z1_10⟩
   rw [if_pos c4] at H
   have c4b0 := decide_eq_true c4
   clear c4
   by_cases c5 : 0 ≤ x5_1
   rotate_left
   ·rw [if_neg c5] at H
    exact absurd H (by simp)
   rw [if_pos c5] at H
   have c5b0 := decide_eq_true c5
   clear c5
   by_cases c6 : x5_1 < (l1.length : Int)
   rotate_left
   ·rw [if_neg c6] at H
    exact absurd H (by simp)
   rw [if_pos c6] at H
   have c6b0 := decide_eq_true c6
   clear c6
   by_cases c7 : (rd l0 x5_1) = (rd l1 x5_1)
   rotate_left
   ·rw [if_neg c7] at H
    have c7b0 : ((rd l0 x5_1) == (rd l1 x5_1)) = false := beq_eq_false_iff_ne.mpr c7
    have c7b1 : ((rd l0 x5_1) != (rd l1 x5_1)) = true := bne_iff_ne.mpr c7
    obtain rfl := Option.some.inj H
    simp only [Option.some.injEq, Prod.mk.injEq] at H
    obtain ⟨rfl⟩ := H
    have p101 : 0 ≤ (x5_1 : Int) := of_decide_eq_true (by first | (with_reducible assumption) | assumption)
    have q101 : x5_1 < (l0.length : Int) := of_decide_eq_true (by first | (with_reducible assumption) | assumption)
    obtain ⟨ad101, e101, hx101_0⟩ := Kd.at_int HR0.out x5_1 p101 q101
    cases e101
    replace p101 := eq_true p101
    replace q101 := eq_true q101
    have p102 : 0 ≤ (x5_1 : Int) := of_decide_eq_true (by first | (with_reducible assumption) | assumption)
    have q102 : x5_1 < (l1.length : Int) := of_decide_eq_true (by first | (with_reducible assumption) | assumption)
    obtain ⟨ad102, e102, hx102_0⟩ := Kd.at_int HR1.out x5_1 p102 q102
    cases e102
    replace p102 := eq_true p102
    replace q102 := eq_true q102
    go_wp2
    repeat (go_quiet (fail); try go_wp2)
    go_ret
    exact ⟨rs0, z1_10⟩
   rw [if_pos c7] at H
   have c7b0 : ((rd l0 x5_1) == (rd l1 x5_1)) = true := beq_iff_eq.mpr c7
   have c7b1 : ((rd l0 x5_1) != (rd l1 x5_1)) = false := bne_eq_false_iff_eq.mpr c7
   clear c7
   have H' := mk0 H
   clear H
   have p101 : 0 ≤ (x5_1 : Int) := of_decide_eq_true (by first | (with_reducible assumption) | assumption)
   have q101 : x5_1 < (l0.length : Int) := of_decide_eq_true (by first | (with_reducible assumption) | assumption)
   obtain ⟨ad101, e101, hx101_0⟩ := Kd.at_int HR0.out x5_1 p101 q101
   cases e101
   replace p101 := eq_true p101
   replace q101 := eq_true q101
   have p102 : 0 ≤ (x5_1 : Int) := of_decide_eq_true (by first | (with_reducible assumption) | assumption)
   have q102 : x5_1 < (l1.length : Int) := of_decide_eq_true (by first | (with_reducible assumption) | assumption)
   obtain ⟨ad102, e102, hx102_0⟩ := Kd.at_int HR1.out x5_1 p102 q102
   cases e102
   replace p102 := eq_true p102
   replace q102 := eq_true q102
   go_wp2
   repeat (go_quiet (fail); try go_wp2)
   go_roundg k1
   case measure => have := HK1.out; omega
   case rel => exact ⟨(wrap64 (x5_1 + 1)), rs0, H', ⟨(by have := HK1.out; omega)⟩, z1_10⟩

/-! ### laws_markIntS: function 26 -/
def laws_markIntS.l0 : Nat → List Int → Int → Int → Option (Int × List Int)
 | 0, _, _, _ => none
 | k + 1, x0, x1, x5 => if x5 < (x0.length : Int) then (if 0 ≤ x5 then (laws_markIntS.l0 k (x0.set (x5 : Int).toNat x1) (wrap64 (x1 + 1)) (wrap64 (x5 + 1))) else (none)) else (some (x1, x0))
def laws_markIntS.f (k : Nat) (l0 : List Int) (a1 : Int) : Option (Int × List Int) := laws_markIntS.l0 k l0 a1 0
theorem laws_markIntS.mono_l : ∀ k, (∀ y0 y1 y2, LeO (laws_markIntS.l0 k y0 y1 y2) (laws_markIntS.l0 (k + 1) y0 y1 y2))
 | 0 => fun _ _ _ r h => by simp [laws_markIntS.l0] at h
 | k + 1 => by
  have ih0 := laws_markIntS.mono_l k
  ·intro y0 y1 y2
   unfold laws_markIntS.l0
   repeat' first
   | (with_reducible exact ih0 _ _ _)
   | (with_reducible exact LeO.refl _)
   | (with_reducible exact LeO.none _)
   | (with_reducible refine LeO.ite ?_ ?_)
   | (with_reducible refine LeO.bind ?_ (fun _ => ?_))
theorem laws_markIntS.mono : ∀ a0 a1 k, LeO (laws_markIntS.f k a0 a1) (laws_markIntS.f (k + 1) a0 a1) := by
 intro a0 a1 k
 have ih0 := laws_markIntS.mono_l k
 unfold laws_markIntS.f
 repeat' first
   | (with_reducible exact ih0 _ _ _)
   | (with_reducible exact LeO.refl _)
   | (with_reducible exact LeO.none _)
   | (with_reducible refine LeO.ite ?_ ?_)
   | (with_reducible refine LeO.bind ?_ (fun _ => ?_))
set_option maxHeartbeats 8000000 in
set_option maxRecDepth 100000 in
theorem laws_markIntS.calls (k : Nat) (P0_ : Nat → Prop) (u9000_ : Value) (l0 : List Int) (a1 : Int) (r1 : Int) (r2 : List Int) (w0 w : World) (hB : Below w0.heap.size w0 w) (ho0 : Kd.R (Kd.int .i64) 3 w w0.heap.size P0_ u9000_ l0) (h : laws_markIntS.f k l0 a1 = some (r1, r2)) :
  Calls Try.prog 26 #[u9000_, .int .i64 a1] w fun e w' => e = .returned (.int .i64 r1) ∧ Kd.R (Kd.int .i64) 3 w' w0.heap.size (fun k_ => (P0_ k_ ∨ w.heap.size ≤ k_)) u9000_ r2 ∧ Below w0.heap.size w0 w' ∧ Kept w w' (fun k_ => P0_ k_) := by
 have HO0 := mk0 (show Kd.R (Kd.int .i64) 3 w w0.heap.size (fun k_ => (P0_ k_ ∨ w.heap.size ≤ k_)) u9000_ l0 from Kd.R_mono ho0 (fun k_ hk => (.inl hk)))
 have HK := mk0 (Kept.refl w (fun k_ => P0_ k_))
 have HW0 := mk0 hB.size
 have HB := mk0 hB
 clear hB
 have H : (laws_markIntS.l0 k l0 a1 0) = some (r1, r2) := h
 clear h
 have H' := mk0 H
 clear H
 go_enter Try.func26, Try.ntmps26
 go_wp2
 go_loopg [1, 5] k (fun kq v1 v5 w' => ∃ (x0_1 : List Int) (x1_1 : Int) (x5_1 : Int), v1 = .int .i64 x1_1 ∧ v5 = .int .i64 x5_1 ∧ Aside0 (laws_markIntS.l0 kq x0_1 x1_1 x5_1 = some (r1, r2)) ∧ Aside0 (kq ≤ k) ∧ Aside0 (Kd.R (Kd.int .i64) 3 w' w0.heap.size (fun k_ => (P0_ k_ ∨ w.heap.size ≤ k_)) u9000_ x0_1) ∧ Aside0 (Kept w w' (fun k_ => P0_ k_)) ∧ Aside0 (Below w0.heap.size w0 w'))
 case atStart => exact ⟨(l0), (a1), (0), rs0, rs0, H', ⟨Nat.le_refl _⟩, ⟨pkR HO0⟩, ⟨z1_11⟩, ⟨z1_0⟩⟩
 case round =>
  clear H'
  try clear c2
  try clear p2
  obtain ⟨x0_1, x1_1, x5_1, rfl, rfl, HA, HK1, HO_0, HK, HB⟩ := hrel
  cases gk with
  | zero => exact absurd HA.out (by simp [laws_markIntS.l0])
  | succ k1 =>
   have H := HA.out; clear HA
   simp only [laws_markIntS.l0] at H
   by_cases c3 : x5_1 < (x0_1.length : Int)
   rotate_left
   ·rw [if_neg c3] at H
    have c3b0 := decide_eq_false c3
    clear c3
    simp only [Option.some.injEq, Prod.mk.injEq] at H
    obtain ⟨rfl, rfl⟩ := H
    obtain ⟨Ao9, co9, eo9⟩ := Kd.R_slice HO_0.out
    subst eo9
    go_wp2
    go_ret
    exact ⟨z1_3, (pkR HO_0), z1_0, z1_11⟩
   rw [if_pos c3] at H
   have c3b0 := decide_eq_true c3
   clear c3
   by_cases c4 : 0 ≤ x5_1
   rotate_left
   ·rw [if_neg c4] at H
    exact absurd H (by simp)
   rw [if_pos c4] at H
   have c4b0 := decide_eq_true c4
   clear c4
   obtain ⟨y103, hy_⟩ : ∃ y_ : List Int, y_ = (x0_1.set (x5_1 : Int).toNat x1_1) := ⟨_, rfl⟩
   replace H : (laws_markIntS.l0 k1 y103 (wrap64 (x1_1 + 1)) (wrap64 (x5_1 + 1))) = some (r1, r2) := z1_6
   have Ny103 := mk0 hy_
   clear hy_
   have H' := mk0 H
   clear H
   obtain ⟨Ao6, co6, eo6⟩ := Kd.R_slice HO_0.out
   subst eo6
   have p5 : 0 ≤ (x5_1 : Int) := of_decide_eq_true (by first | (with_reducible assumption) | assumption)
   have q5 : (x5_1 : Int) < ((x0_1.length : Int) : Int) := of_decide_eq_true (by first | (with_reducible assumption) | assumption)
   obtain ⟨go5, co5, eo5, gb5, gl5, cl5, HG5⟩ := Kd.R_form HO_0.out (by omega)
   (first | cases eo5 | (injection eo5 with ea_ en_ ec_; (first | subst ea_ | (injection ea_ with ea_; subst ea_)); subst ec_; clear en_))
   have GB5 := mk0 gb5
   have GG5 := mk0 HG5
   clear gb5 gl5 HG5
   have HMgo5 := mk0 (show (P0_ go5 ∨ w.heap.size ≤ go5) from (HO_0.out.1 _ rfl))
   obtain ⟨hx5_0, hf5_0⟩ := Kd.R_celln 0 HO_0.out (x5_1 : Int) p5 q5
   replace p5 := eq_true p5
   replace q5 := eq_true q5
   have HP7 := Kd.R_putg HO_0.out (x5_1 : Int) x1_1
   go_wp2_with (first | ((with_reducible refine gate_store (t := 3) (p := 15) rfl ?_); refine store_event (t := 3) (p := 15) (v := ?vo_w8) (w1 := (wr.setCell ⟨go5, (x5_1 : Int).toNat, none⟩ (.int .i64 x1_1))) ?hg ?ho ?hn ?hr ?_; (case ho => rfl); (case hg => rfl); (case hn => rfl); (case hr => first | (go_simp; done) | (go_simp; rfl) | (obtain ⟨Aq_, cq_, eq_⟩ := Kd.R_slice HO_0.out; subst eq_; first | (go_simp; done) | (go_simp; rfl))); intro w8 hw; have hg : wr.grownBy w8 (some go5) := (by rw [hw]; exact HP7.2); have hp_ : Kd.R (Kd.int .i64) 3 w8 w0.heap.size (fun k_ => (P0_ k_ ∨ w.heap.size ≤ k_)) (.slice (some ⟨go5, 0, none⟩) x0_1.length co6) y103 := (by rw [hw, Ny103.out]; exact HP7.1); clear HP7; have n0_ := mk0 (hp_); have n1_ := mk0 ((by rw [hw]; exact below_set (HB.out) GB5.out : Below w0.heap.size w0 w8)); have n2_ := mk0 (Kept.of_grown (S := (fun k_ => P0_ k_)) hg z1_11 (fun k_ e_ => (HO_0.out.1 k_ e_))); clear HO_0 HB HK; have HO_0 := n0_; have HB := n1_; have HK := n2_; clear n0_ n1_ n2_ hg hw hp_))
   go_roundg k1
   case measure => have := HK1.out; omega
   case rel => exact ⟨(y103), (wrap64 (x1_1 + 1)), (wrap64 (x5_1 + 1)), rs0, rs0, H', ⟨(by have := HK1.out; omega)⟩, ⟨pkR HO_0⟩, ⟨z1_11⟩, ⟨z1_0⟩⟩

/-! ### laws_szPointS: function 19 -/
def laws_szPointS.f (l0 : List (S89)) (a1 : Int) : Option (Int) := if (wrap64 (a1 - (l0.length : Int))) < 0 then (some (-1)) else (some (wrap64 (a1 - (l0.length : Int))))
set_option maxHeartbeats 8000000 in
set_option maxRecDepth 100000 in
theorem laws_szPointS.calls (A0 : Option Addr) (c0 : Nat) (l0 : List (S89)) (a1 : Int) (r : Int) (w : World) (hr0 : Kd.C k89 w A0 l0.length l0) (hc0 : l0.length ≤ c0) (h : laws_szPointS.f l0 a1 = some r) :
  Calls Try.prog 19 #[.slice A0 l0.length c0, .int .i64 a1] w fun e w' => e = .returned (.int .i64 r) ∧ Drawn0 w w' := by
 have HR0 := mk0 hr0
 have HC0 := mk0 hc0
 clear hr0 hc0
 have H : (if (wrap64 (a1 - (l0.length : Int))) < 0 then (some (-1)) else (some (wrap64 (a1 - (l0.length : Int))))) = some r := h
 clear h
 by_cases c3 : (wrap64 (a1 - (l0.length : Int))) < 0
 ·rw [if_pos c3] at H
  have c3b0 := decide_eq_true c3
  clear c3
  obtain rfl := Option.some.inj H
  simp only [Option.some.injEq, Prod.mk.injEq] at H
  obtain ⟨rfl⟩ := H
  go_enter Try.func19, Try.ntmps19
  go_wp2
  go_ret
  exact ⟨rs0, z1_10⟩
 rw [if_neg c3] at H
 have c3b0 := decide_eq_false c3
 clear c3
 obtain rfl := Option.some.inj H
 simp only [Option.some.injEq, Prod.mk.injEq] at H
 obtain ⟨rfl⟩ := H
 go_enter Try.func19, Try.ntmps19
 go_wp2
 go_ret
 exact ⟨rs0, z1_10⟩

/-! ### laws_szIntS: function 100 -/
def laws_szIntS.f (l0 : List Int) (a1 : Int) : Option (Int) := if (wrap64 (a1 - (l0.length : Int))) < 0 then (some (-1)) else (some (wrap64 (a1 - (l0.length : Int))))
set_option maxHeartbeats 8000000 in
set_option maxRecDepth 100000 in
theorem laws_szIntS.calls (A0 : Option Addr) (c0 : Nat) (l0 : List Int) (a1 : Int) (r : Int) (w : World) (hr0 : Kd.C (Kd.int .i64) w A0 l0.length l0) (hc0 : l0.length ≤ c0) (h : laws_szIntS.f l0 a1 = some r) :
  Calls Try.prog 100 #[.slice A0 l0.length c0, .int .i64 a1] w fun e w' => e = .returned (.int .i64 r) ∧ Drawn0 w w' := by
 have HR0 := mk0 hr0
 have HC0 := mk0 hc0
 clear hr0 hc0
 have H : (if (wrap64 (a1 - (l0.length : Int))) < 0 then (some (-1)) else (some (wrap64 (a1 - (l0.length : Int))))) = some r := h
 clear h
 by_cases c3 : (wrap64 (a1 - (l0.length : Int))) < 0
 ·rw [if_pos c3] at H
  have c3b0 := decide_eq_true c3
  clear c3
  obtain rfl := Option.some.inj H
  simp only [Option.some.injEq, Prod.mk.injEq] at H
  obtain ⟨rfl⟩ := H
  go_enter Try.func100, Try.ntmps100
  go_wp2
  go_ret
  exact ⟨rs0, z1_10⟩
 rw [if_neg c3] at H
 have c3b0 := decide_eq_false c3
 clear c3
 obtain rfl := Option.some.inj H
 simp only [Option.some.injEq, Prod.mk.injEq] at H
 obtain ⟨rfl⟩ := H
 go_enter Try.func100, Try.ntmps100
 go_wp2
 go_ret
 exact ⟨rs0, z1_10⟩

/-! ### laws_szPath: function 99 -/
def laws_szPath.f (l0_0 : List Int) (l0_1 : List (S89)) (a1 : Int) : Option (Int) := (laws_szIntS.f l0_0 a1).bind fun t105 => (if t105 < 0 then (some (-1)) else ((laws_szPointS.f l0_1 t105).bind fun t106 => (if t106 < 0 then (some (-1)) else (some t106))))
set_option maxHeartbeats 8000000 in
set_option maxRecDepth 100000 in
theorem laws_szPath.calls (A0_0 : Option Addr) (c0_0 : Nat) (l0_0 : List Int) (A0_1 : Option Addr) (c0_1 : Nat) (l0_1 : List (S89)) (a1 : Int) (r : Int) (w : World) (hr0_0 : Kd.C (Kd.int .i64) w A0_0 l0_0.length l0_0) (hc0_0 : l0_0.length ≤ c0_0) (hr0_1 : Kd.C k89 w A0_1 l0_1.length l0_1) (hc0_1 : l0_1.length ≤ c0_1) (h : laws_szPath.f l0_0 l0_1 a1 = some r) :
  Calls Try.prog 99 #[.agg #[.slice A0_0 l0_0.length c0_0, .slice A0_1 l0_1.length c0_1], .int .i64 a1] w fun e w' => e = .returned (.int .i64 r) ∧ Below w.heap.size w w' := by
 have hu113 := Try.underlying113
 have HR0_0 := mk0 hr0_0
 have HC0_0 := mk0 hc0_0
 clear hr0_0 hc0_0
 have HR0_1 := mk0 hr0_1
 have HC0_1 := mk0 hc0_1
 clear hr0_1 hc0_1
 have HB := mk0 (Below.refl w.heap.size w)
 have H : ((laws_szIntS.f l0_0 a1).bind fun t105 => (if t105 < 0 then (some (-1)) else ((laws_szPointS.f l0_1 t105).bind fun t106 => (if t106 < 0 then (some (-1)) else (some t106))))) = some r := h
 clear h
 replace H := Option.bind_eq_some_iff.mp H
 obtain ⟨t105, A30, H⟩ := H
 try dsimp only at H
 have A3 := mk0 A30
 clear A30
 by_cases c4 : t105 < 0
 ·rw [if_pos c4] at H
  have c4b0 := decide_eq_true c4
  clear c4
  obtain rfl := Option.some.inj H
  simp only [Option.some.injEq, Prod.mk.injEq] at H
  obtain ⟨rfl⟩ := H
  go_enter Try.func99, Try.ntmps99
  go_wp2_with (first | ((with_reducible refine gate_dst (N := 2) rfl ?_); refine boxz (cs := #[.slice A0_0 l0_0.length c0_0, .slice A0_1 l0_1.length c0_1]) (t := 113) rfl ?_; intro gb104 hg w5 hbox hb; have n0_ := mk0 (below_step z1_0 hb); have n1_ := mk0 (hbox); have GW104 := mk0 (ge_go (a := w.heap.size) hg (below_size z1_0)); have GE104 := GW104; clear HB; have HB := n0_; have BK104 := n1_; clear n0_ n1_ ; clear hb hbox hg; obtain ⟨_, _, _, _⟩ := be_2 BK104.out) | ((with_reducible refine gate_callee (f := 100) rfl ?_); refine goesL_ (some 8) rfl rfl Try.func100 (by kernel_rfl) rfl #[.slice A0_0 l0_0.length c0_0, .int .i64 a1] rfl z1_1 ?_; (with_reducible refine (laws_szIntS.calls _ _ l0_0 a1 t105 _ ?side1 ?side2 A3.out).mono ?_); (case side1 => exact z1_4); (case side2 => exact HC0_0.out); rintro e w' ⟨rfl, ⟨nd, rfl⟩⟩; refine ⟨_, rfl, ?_⟩))
  go_ret
  exact ⟨z1_3, z1_5⟩
 rw [if_neg c4] at H
 have c4b0 := decide_eq_false c4
 clear c4
 replace H := Option.bind_eq_some_iff.mp H
 obtain ⟨t106, A70, H⟩ := H
 try dsimp only at H
 have A7 := mk0 A70
 clear A70
 by_cases c8 : t106 < 0
 ·rw [if_pos c8] at H
  have c8b0 := decide_eq_true c8
  clear c8
  obtain rfl := Option.some.inj H
  simp only [Option.some.injEq, Prod.mk.injEq] at H
  obtain ⟨rfl⟩ := H
  go_enter Try.func99, Try.ntmps99
  go_wp2_with (first | ((with_reducible refine gate_dst (N := 2) rfl ?_); refine boxz (cs := #[.slice A0_0 l0_0.length c0_0, .slice A0_1 l0_1.length c0_1]) (t := 113) rfl ?_; intro gb104 hg w9 hbox hb; have n0_ := mk0 (below_step z1_0 hb); have n1_ := mk0 (hbox); have GW104 := mk0 (ge_go (a := w.heap.size) hg (below_size z1_0)); have GE104 := GW104; clear HB; have HB := n0_; have BK104 := n1_; clear n0_ n1_ ; clear hb hbox hg; obtain ⟨_, _, _, _⟩ := be_2 BK104.out) | ((with_reducible refine gate_callee (f := 100) rfl ?_); refine goesL_ (some 8) rfl rfl Try.func100 (by kernel_rfl) rfl #[.slice A0_0 l0_0.length c0_0, .int .i64 a1] rfl z1_1 ?_; (with_reducible refine (laws_szIntS.calls _ _ l0_0 a1 t105 _ ?side1 ?side2 A3.out).mono ?_); (case side1 => exact z1_4); (case side2 => exact HC0_0.out); rintro e w' ⟨rfl, ⟨nd, rfl⟩⟩; refine ⟨_, rfl, ?_⟩) | ((with_reducible refine gate_callee (f := 19) rfl ?_); refine goesL_ (some 14) rfl rfl Try.func19 (by kernel_rfl) rfl #[.slice A0_1 l0_1.length c0_1, .int .i64 t105] rfl z1_1 ?_; (with_reducible refine (laws_szPointS.calls _ _ l0_1 t105 t106 _ ?side1 ?side2 A7.out).mono ?_); (case side1 => repeat (first | exact (Kd.C_below HR0_1.out z1_5) | (with_reducible refine Kd.C_alloc ?_ _) | (with_reducible refine Kd.C_drewN ?_ _) | (with_reducible refine Kd.C_drew ?_))); (case side2 => exact HC0_1.out); rintro e w' ⟨rfl, ⟨nd, rfl⟩⟩; refine ⟨_, rfl, ?_⟩))
  go_ret
  exact ⟨z1_3, z1_5⟩
 rw [if_neg c8] at H
 have c8b0 := decide_eq_false c8
 clear c8
 obtain rfl := Option.some.inj H
 simp only [Option.some.injEq, Prod.mk.injEq] at H
 obtain ⟨rfl⟩ := H
 go_enter Try.func99, Try.ntmps99
 go_wp2_with (first | ((with_reducible refine gate_dst (N := 2) rfl ?_); refine boxz (cs := #[.slice A0_0 l0_0.length c0_0, .slice A0_1 l0_1.length c0_1]) (t := 113) rfl ?_; intro gb104 hg w11 hbox hb; have n0_ := mk0 (below_step z1_0 hb); have n1_ := mk0 (hbox); have GW104 := mk0 (ge_go (a := w.heap.size) hg (below_size z1_0)); have GE104 := GW104; clear HB; have HB := n0_; have BK104 := n1_; clear n0_ n1_ ; clear hb hbox hg; obtain ⟨_, _, _, _⟩ := be_2 BK104.out) | ((with_reducible refine gate_callee (f := 100) rfl ?_); refine goesL_ (some 8) rfl rfl Try.func100 (by kernel_rfl) rfl #[.slice A0_0 l0_0.length c0_0, .int .i64 a1] rfl z1_1 ?_; (with_reducible refine (laws_szIntS.calls _ _ l0_0 a1 t105 _ ?side1 ?side2 A3.out).mono ?_); (case side1 => exact z1_4); (case side2 => exact HC0_0.out); rintro e w' ⟨rfl, ⟨nd, rfl⟩⟩; refine ⟨_, rfl, ?_⟩) | ((with_reducible refine gate_callee (f := 19) rfl ?_); refine goesL_ (some 14) rfl rfl Try.func19 (by kernel_rfl) rfl #[.slice A0_1 l0_1.length c0_1, .int .i64 t105] rfl z1_1 ?_; (with_reducible refine (laws_szPointS.calls _ _ l0_1 t105 t106 _ ?side1 ?side2 A7.out).mono ?_); (case side1 => repeat (first | exact (Kd.C_below HR0_1.out z1_5) | (with_reducible refine Kd.C_alloc ?_ _) | (with_reducible refine Kd.C_drewN ?_ _) | (with_reducible refine Kd.C_drew ?_))); (case side2 => exact HC0_1.out); rintro e w' ⟨rfl, ⟨nd, rfl⟩⟩; refine ⟨_, rfl, ?_⟩))
 go_ret
 exact ⟨z1_3, z1_5⟩

/-! ### laws_szNode: function 88 -/
def laws_szNode.f (a0_0 : Int) (a0_1 : Int) (a0_2 : Bool) (a0_3 : Int) (a0_4 : Int) (a0_5 : Int) (a0_6 : Int) (a0_7 : Int) (a0_8 : Int) (l0_9 : List Int) (l0_10 : List (S89)) (a0_11 : Bool) (a0_12 : Int) (l0_13 : List Int) (a0_14 : Int) (a0_15 : Int) (a0_16 : Int) (a0_17 : Int) (a0_18 : Int) (a0_19 : Int) (a0_20 : Int) (a0_21 : Int) (a0_22 : Int) (a0_23 : Int) (a0_24 : Int) (a0_25 : Int) (a0_26 : Int) (a0_27 : Int) (a0_28 : Int) (l0_29 : List Int) (l0_30 : List (S89)) (a1 : Int) : Option (Int) := (laws_szPath.f l0_9 l0_10 a1).bind fun t108 => (if t108 < 0 then (some (-1)) else ((laws_szIntS.f l0_13 t108).bind fun t109 => (if t109 < 0 then (some (-1)) else ((laws_szPath.f l0_29 l0_30 t109).bind fun t110 => (if t110 < 0 then (some (-1)) else (some t110))))))
set_option maxHeartbeats 8000000 in
set_option maxRecDepth 100000 in
theorem laws_szNode.calls (a0_0 : Int) (a0_1 : Int) (a0_2 : Bool) (a0_3 : Int) (a0_4 : Int) (a0_5 : Int) (a0_6 : Int) (a0_7 : Int) (a0_8 : Int) (A0_9 : Option Addr) (c0_9 : Nat) (l0_9 : List Int) (A0_10 : Option Addr) (c0_10 : Nat) (l0_10 : List (S89)) (a0_11 : Bool) (a0_12 : Int) (A0_13 : Option Addr) (c0_13 : Nat) (l0_13 : List Int) (a0_14 : Int) (a0_15 : Int) (a0_16 : Int) (a0_17 : Int) (a0_18 : Int) (a0_19 : Int) (a0_20 : Int) (a0_21 : Int) (a0_22 : Int) (a0_23 : Int) (a0_24 : Int) (a0_25 : Int) (a0_26 : Int) (a0_27 : Int) (a0_28 : Int) (A0_29 : Option Addr) (c0_29 : Nat) (l0_29 : List Int) (A0_30 : Option Addr) (c0_30 : Nat) (l0_30 : List (S89)) (a1 : Int) (r : Int) (w : World) (hr0_9 : Kd.C (Kd.int .i64) w A0_9 l0_9.length l0_9) (hc0_9 : l0_9.length ≤ c0_9) (hr0_10 : Kd.C k89 w A0_10 l0_10.length l0_10) (hc0_10 : l0_10.length ≤ c0_10) (hr0_13 : Kd.C (Kd.int .i64) w A0_13 l0_13.length l0_13) (hc0_13 : l0_13.length ≤ c0_13) (hr0_29 : Kd.C (Kd.int .i64) w A0_29 l0_29.length l0_29) (hc0_29 : l0_29.length ≤ c0_29) (hr0_30 : Kd.C k89 w A0_30 l0_30.length l0_30) (hc0_30 : l0_30.length ≤ c0_30) (h : laws_szNode.f a0_0 a0_1 a0_2 a0_3 a0_4 a0_5 a0_6 a0_7 a0_8 l0_9 l0_10 a0_11 a0_12 l0_13 a0_14 a0_15 a0_16 a0_17 a0_18 a0_19 a0_20 a0_21 a0_22 a0_23 a0_24 a0_25 a0_26 a0_27 a0_28 l0_29 l0_30 a1 = some r) :
  Calls Try.prog 88 #[.agg #[.int .i64 a0_0, .int .i64 a0_1, .bool a0_2, .int .i64 a0_3, .int .i64 a0_4, .int .i64 a0_5, .int .i64 a0_6, .int .i64 a0_7, .int .i64 a0_8, .slice A0_9 l0_9.length c0_9, .slice A0_10 l0_10.length c0_10, .bool a0_11, .int .i64 a0_12, .slice A0_13 l0_13.length c0_13, .int .i64 a0_14, .int .i64 a0_15, .int .i64 a0_16, .int .i64 a0_17, .int .i64 a0_18, .int .i64 a0_19, .int .i64 a0_20, .int .i64 a0_21, .int .i64 a0_22, .int .i64 a0_23, .int .i64 a0_24, .int .i64 a0_25, .int .i64 a0_26, .int .i64 a0_27, .int .i64 a0_28, .slice A0_29 l0_29.length c0_29, .slice A0_30 l0_30.length c0_30], .int .i64 a1] w fun e w' => e = .returned (.int .i64 r) ∧ Below w.heap.size w w' := by
 have hu118 := Try.underlying118
 have hu113 := Try.underlying113
 have HR0_9 := mk0 hr0_9
 have HC0_9 := mk0 hc0_9
 clear hr0_9 hc0_9
 have HR0_10 := mk0 hr0_10
 have HC0_10 := mk0 hc0_10
 clear hr0_10 hc0_10
 have HR0_13 := mk0 hr0_13
 have HC0_13 := mk0 hc0_13
 clear hr0_13 hc0_13
 have HR0_29 := mk0 hr0_29
 have HC0_29 := mk0 hc0_29
 clear hr0_29 hc0_29
 have HR0_30 := mk0 hr0_30
 have HC0_30 := mk0 hc0_30
 clear hr0_30 hc0_30
 have HB := mk0 (Below.refl w.heap.size w)
 have H : ((laws_szPath.f l0_9 l0_10 a1).bind fun t108 => (if t108 < 0 then (some (-1)) else ((laws_szIntS.f l0_13 t108).bind fun t109 => (if t109 < 0 then (some (-1)) else ((laws_szPath.f l0_29 l0_30 t109).bind fun t110 => (if t110 < 0 then (some (-1)) else (some t110))))))) = some r := h
 clear h
 replace H := Option.bind_eq_some_iff.mp H
 obtain ⟨t108, A30, H⟩ := H
 try dsimp only at H
 have A3 := mk0 A30
 clear A30
 by_cases c4 : t108 < 0
 ·rw [if_pos c4] at H
  have c4b0 := decide_eq_true c4
  clear c4
  obtain rfl := Option.some.inj H
  simp only [Option.some.injEq, Prod.mk.injEq] at H
  obtain ⟨rfl⟩ := H
  go_enter Try.func88, Try.ntmps88
  go_wp2_with (first | ((with_reducible refine gate_dst (N := 2) rfl ?_); refine boxz (cs := #[.int .i64 a0_0, .int .i64 a0_1, .bool a0_2, .int .i64 a0_3, .int .i64 a0_4, .int .i64 a0_5, .int .i64 a0_6, .int .i64 a0_7, .int .i64 a0_8, .slice A0_9 l0_9.length c0_9, .slice A0_10 l0_10.length c0_10, .bool a0_11, .int .i64 a0_12, .slice A0_13 l0_13.length c0_13, .int .i64 a0_14, .int .i64 a0_15, .int .i64 a0_16, .int .i64 a0_17, .int .i64 a0_18, .int .i64 a0_19, .int .i64 a0_20, .int .i64 a0_21, .int .i64 a0_22, .int .i64 a0_23, .int .i64 a0_24, .int .i64 a0_25, .int .i64 a0_26, .int .i64 a0_27, .int .i64 a0_28, .slice A0_29 l0_29.length c0_29, .slice A0_30 l0_30.length c0_30]) (t := 118) rfl ?_; intro gb107 hg w5 hbox hb; have n0_ := mk0 (below_step z1_0 hb); have n1_ := mk0 (hbox); have GW107 := mk0 (ge_go (a := w.heap.size) hg (below_size z1_0)); have GE107 := GW107; clear HB; have HB := n0_; have BK107 := n1_; clear n0_ n1_ ; clear hb hbox hg; obtain ⟨_, _, _, _, _, _, _, _, _, _, _, _, _, _, _, _, _, _, _, _, _, _, _, _, _, _, _, _, _, _, _, _, _, _, _, _, _, _, _, _, _, _, _, _, _, _, _, _, _, _, _, _, _, _, _, _, _, _, _, _, _, _⟩ := be_31 BK107.out) | ((with_reducible refine gate_callee (f := 99) rfl ?_); refine goesL_ (some 8) rfl rfl Try.func99 (by kernel_rfl) rfl #[.agg #[.slice A0_9 l0_9.length c0_9, .slice A0_10 l0_10.length c0_10], .int .i64 a1] rfl z1_1 ?_; (with_reducible refine (laws_szPath.calls _ _ l0_9 _ _ l0_10 a1 t108 _ ?side1 ?side2 ?side3 ?side4 A3.out).mono ?_); (case side1 => exact z1_8); (case side2 => exact HC0_9.out); (case side3 => exact z1_7); (case side4 => exact HC0_10.out); rintro e w7 ⟨rfl, hb⟩; refine ⟨_, rfl, ?_⟩; have n0_ := mk0 (blk_belowB BK107 (pkb BK107) hb); have n1_ := mk0 (below_step z1_2 hb); clear BK107 HB; have BK107 := n0_; have HB := n1_; clear n0_ n1_; (try clear hb)))
  go_ret
  exact ⟨z1_3, z1_2⟩
 rw [if_neg c4] at H
 have c4b0 := decide_eq_false c4
 clear c4
 replace H := Option.bind_eq_some_iff.mp H
 obtain ⟨t109, A80, H⟩ := H
 try dsimp only at H
 have A8 := mk0 A80
 clear A80
 by_cases c9 : t109 < 0
 ·rw [if_pos c9] at H
  have c9b0 := decide_eq_true c9
  clear c9
  obtain rfl := Option.some.inj H
  simp only [Option.some.injEq, Prod.mk.injEq] at H
  obtain ⟨rfl⟩ := H
  go_enter Try.func88, Try.ntmps88
  go_wp2_with (first | ((with_reducible refine gate_dst (N := 2) rfl ?_); refine boxz (cs := #[.int .i64 a0_0, .int .i64 a0_1, .bool a0_2, .int .i64 a0_3, .int .i64 a0_4, .int .i64 a0_5, .int .i64 a0_6, .int .i64 a0_7, .int .i64 a0_8, .slice A0_9 l0_9.length c0_9, .slice A0_10 l0_10.length c0_10, .bool a0_11, .int .i64 a0_12, .slice A0_13 l0_13.length c0_13, .int .i64 a0_14, .int .i64 a0_15, .int .i64 a0_16, .int .i64 a0_17, .int .i64 a0_18, .int .i64 a0_19, .int .i64 a0_20, .int .i64 a0_21, .int .i64 a0_22, .int .i64 a0_23, .int .i64 a0_24, .int .i64 a0_25, .int .i64 a0_26, .int .i64 a0_27, .int .i64 a0_28, .slice A0_29 l0_29.length c0_29, .slice A0_30 l0_30.length c0_30]) (t := 118) rfl ?_; intro gb107 hg w10 hbox hb; have n0_ := mk0 (below_step z1_0 hb); have n1_ := mk0 (hbox); have GW107 := mk0 (ge_go (a := w.heap.size) hg (below_size z1_0)); have GE107 := GW107; clear HB; have HB := n0_; have BK107 := n1_; clear n0_ n1_ ; clear hb hbox hg; obtain ⟨_, _, _, _, _, _, _, _, _, _, _, _, _, _, _, _, _, _, _, _, _, _, _, _, _, _, _, _, _, _, _, _, _, _, _, _, _, _, _, _, _, _, _, _, _, _, _, _, _, _, _, _, _, _, _, _, _, _, _, _, _, _⟩ := be_31 BK107.out) | ((with_reducible refine gate_callee (f := 99) rfl ?_); refine goesL_ (some 8) rfl rfl Try.func99 (by kernel_rfl) rfl #[.agg #[.slice A0_9 l0_9.length c0_9, .slice A0_10 l0_10.length c0_10], .int .i64 a1] rfl z1_1 ?_; (with_reducible refine (laws_szPath.calls _ _ l0_9 _ _ l0_10 a1 t108 _ ?side1 ?side2 ?side3 ?side4 A3.out).mono ?_); (case side1 => exact z1_8); (case side2 => exact HC0_9.out); (case side3 => exact z1_7); (case side4 => exact HC0_10.out); rintro e w12 ⟨rfl, hb⟩; refine ⟨_, rfl, ?_⟩; have n0_ := mk0 (blk_belowB BK107 (pkb BK107) hb); have n1_ := mk0 (below_step z1_2 hb); clear BK107 HB; have BK107 := n0_; have HB := n1_; clear n0_ n1_; (try clear hb); obtain ⟨_, _, _, _, _, _, _, _, _, _, _, _, _, _, _, _, _, _, _, _, _, _, _, _, _, _, _, _, _, _, _, _, _, _, _, _, _, _, _, _, _, _, _, _, _, _, _, _, _, _, _, _, _, _, _, _, _, _, _, _, _, _⟩ := be_31 BK107.out) | ((with_reducible refine gate_callee (f := 100) rfl ?_); refine goesL_ (some 14) rfl rfl Try.func100 (by kernel_rfl) rfl #[.slice A0_13 l0_13.length c0_13, .int .i64 t108] rfl z1_1 ?_; (with_reducible refine (laws_szIntS.calls _ _ l0_13 t108 t109 _ ?side1 ?side2 A8.out).mono ?_); (case side1 => exact z1_12); (case side2 => exact HC0_13.out); rintro e w' ⟨rfl, ⟨nd, rfl⟩⟩; refine ⟨_, rfl, ?_⟩))
  go_ret
  exact ⟨z1_3, z1_2⟩
 rw [if_neg c9] at H
 have c9b0 := decide_eq_false c9
 clear c9
 replace H := Option.bind_eq_some_iff.mp H
 obtain ⟨t110, A140, H⟩ := H
 try dsimp only at H
 have A14 := mk0 A140
 clear A140
 by_cases c15 : t110 < 0
 ·rw [if_pos c15] at H
  have c15b0 := decide_eq_true c15
  clear c15
  obtain rfl := Option.some.inj H
  simp only [Option.some.injEq, Prod.mk.injEq] at H
  obtain ⟨rfl⟩ := H
  go_enter Try.func88, Try.ntmps88
  go_wp2_with (first | ((with_reducible refine gate_dst (N := 2) rfl ?_); refine boxz (cs := #[.int .i64 a0_0, .int .i64 a0_1, .bool a0_2, .int .i64 a0_3, .int .i64 a0_4, .int .i64 a0_5, .int .i64 a0_6, .int .i64 a0_7, .int .i64 a0_8, .slice A0_9 l0_9.length c0_9, .slice A0_10 l0_10.length c0_10, .bool a0_11, .int .i64 a0_12, .slice A0_13 l0_13.length c0_13, .int .i64 a0_14, .int .i64 a0_15, .int .i64 a0_16, .int .i64 a0_17, .int .i64 a0_18, .int .i64 a0_19, .int .i64 a0_20, .int .i64 a0_21, .int .i64 a0_22, .int .i64 a0_23, .int .i64 a0_24, .int .i64 a0_25, .int .i64 a0_26, .int .i64 a0_27, .int .i64 a0_28, .slice A0_29 l0_29.length c0_29, .slice A0_30 l0_30.length c0_30]) (t := 118) rfl ?_; intro gb107 hg w16 hbox hb; have n0_ := mk0 (below_step z1_0 hb); have n1_ := mk0 (hbox); have GW107 := mk0 (ge_go (a := w.heap.size) hg (below_size z1_0)); have GE107 := GW107; clear HB; have HB := n0_; have BK107 := n1_; clear n0_ n1_ ; clear hb hbox hg; obtain ⟨_, _, _, _, _, _, _, _, _, _, _, _, _, _, _, _, _, _, _, _, _, _, _, _, _, _, _, _, _, _, _, _, _, _, _, _, _, _, _, _, _, _, _, _, _, _, _, _, _, _, _, _, _, _, _, _, _, _, _, _, _, _⟩ := be_31 BK107.out) | ((with_reducible refine gate_callee (f := 99) rfl ?_); refine goesL_ (some 8) rfl rfl Try.func99 (by kernel_rfl) rfl #[.agg #[.slice A0_9 l0_9.length c0_9, .slice A0_10 l0_10.length c0_10], .int .i64 a1] rfl z1_1 ?_; (with_reducible refine (laws_szPath.calls _ _ l0_9 _ _ l0_10 a1 t108 _ ?side1 ?side2 ?side3 ?side4 A3.out).mono ?_); (case side1 => exact z1_8); (case side2 => exact HC0_9.out); (case side3 => exact z1_7); (case side4 => exact HC0_10.out); rintro e w18 ⟨rfl, hb⟩; refine ⟨_, rfl, ?_⟩; have n0_ := mk0 (blk_belowB BK107 (pkb BK107) hb); have n1_ := mk0 (below_step z1_2 hb); clear BK107 HB; have BK107 := n0_; have HB := n1_; clear n0_ n1_; (try clear hb); obtain ⟨_, _, _, _, _, _, _, _, _, _, _, _, _, _, _, _, _, _, _, _, _, _, _, _, _, _, _, _, _, _, _, _, _, _, _, _, _, _, _, _, _, _, _, _, _, _, _, _, _, _, _, _, _, _, _, _, _, _, _, _, _, _⟩ := be_31 BK107.out) | ((with_reducible refine gate_callee (f := 100) rfl ?_); refine goesL_ (some 14) rfl rfl Try.func100 (by kernel_rfl) rfl #[.slice A0_13 l0_13.length c0_13, .int .i64 t108] rfl z1_1 ?_; (with_reducible refine (laws_szIntS.calls _ _ l0_13 t108 t109 _ ?side1 ?side2 A8.out).mono ?_); (case side1 => exact z1_12); (case side2 => exact HC0_13.out); rintro e w' ⟨rfl, ⟨nd, rfl⟩⟩; refine ⟨_, rfl, ?_⟩) | ((with_reducible refine gate_callee (f := 99) rfl ?_); refine goesL_ (some 20) rfl rfl Try.func99 (by kernel_rfl) rfl #[.agg #[.slice A0_29 l0_29.length c0_29, .slice A0_30 l0_30.length c0_30], .int .i64 t109] rfl z1_1 ?_; (with_reducible refine (laws_szPath.calls _ _ l0_29 _ _ l0_30 t109 t110 _ ?side1 ?side2 ?side3 ?side4 A14.out).mono ?_); (case side1 => repeat (first | exact (Kd.C_below HR0_29.out z1_2) | (with_reducible refine Kd.C_alloc ?_ _) | (with_reducible refine Kd.C_drewN ?_ _) | (with_reducible refine Kd.C_drew ?_))); (case side2 => exact HC0_29.out); (case side3 => repeat (first | exact (Kd.C_below HR0_30.out z1_2) | (with_reducible refine Kd.C_alloc ?_ _) | (with_reducible refine Kd.C_drewN ?_ _) | (with_reducible refine Kd.C_drew ?_))); (case side4 => exact HC0_30.out); rintro e w20 ⟨rfl, hb⟩; refine ⟨_, rfl, ?_⟩; have n0_ := mk0 (blk_belowB BK107 (pkb BK107) hb); have n1_ := mk0 (below_step z1_2 hb); clear BK107 HB; have BK107 := n0_; have HB := n1_; clear n0_ n1_; (try clear hb)))
  go_ret
  exact ⟨z1_3, z1_2⟩
 rw [if_neg c15] at H
 have c15b0 := decide_eq_false c15
 clear c15
 obtain rfl := Option.some.inj H
 simp only [Option.some.injEq, Prod.mk.injEq] at H
 obtain ⟨rfl⟩ := H
 go_enter Try.func88, Try.ntmps88
 go_wp2_with (first | ((with_reducible refine gate_dst (N := 2) rfl ?_); refine boxz (cs := #[.int .i64 a0_0, .int .i64 a0_1, .bool a0_2, .int .i64 a0_3, .int .i64 a0_4, .int .i64 a0_5, .int .i64 a0_6, .int .i64 a0_7, .int .i64 a0_8, .slice A0_9 l0_9.length c0_9, .slice A0_10 l0_10.length c0_10, .bool a0_11, .int .i64 a0_12, .slice A0_13 l0_13.length c0_13, .int .i64 a0_14, .int .i64 a0_15, .int .i64 a0_16, .int .i64 a0_17, .int .i64 a0_18, .int .i64 a0_19, .int .i64 a0_20, .int .i64 a0_21, .int .i64 a0_22, .int .i64 a0_23, .int .i64 a0_24, .int .i64 a0_25, .int .i64 a0_26, .int .i64 a0_27, .int .i64 a0_28, .slice A0_29 l0_29.length c0_29, .slice A0_30 l0_30.length c0_30]) (t := 118) rfl ?_; intro gb107 hg w21 hbox hb; have n0_ := mk0 (below_step z1_0 hb); have n1_ := mk0 (hbox); have GW107 := mk0 (ge_go (a := w.heap.size) hg (below_size z1_0)); have GE107 := GW107; clear HB; have HB := n0_; have BK107 := n1_; clear n0_ n1_ ; clear hb hbox hg; obtain ⟨_, _, _, _, _, _, _, _, _, _, _, _, _, _, _, _, _, _, _, _, _, _, _, _, _, _, _, _, _, _, _, _, _, _, _, _, _, _, _, _, _, _, _, _, _, _, _, _, _, _, _, _, _, _, _, _, _, _, _, _, _, _⟩ := be_31 BK107.out) | ((with_reducible refine gate_callee (f := 99) rfl ?_); refine goesL_ (some 8) rfl rfl Try.func99 (by kernel_rfl) rfl #[.agg #[.slice A0_9 l0_9.length c0_9, .slice A0_10 l0_10.length c0_10], .int .i64 a1] rfl z1_1 ?_; (with_reducible refine (laws_szPath.calls _ _ l0_9 _ _ l0_10 a1 t108 _ ?side1 ?side2 ?side3 ?side4 A3.out).mono ?_); (case side1 => exact z1_8); (case side2 => exact HC0_9.out); (case side3 => exact z1_7); (case side4 => exact HC0_10.out); rintro e w23 ⟨rfl, hb⟩; refine ⟨_, rfl, ?_⟩; have n0_ := mk0 (blk_belowB BK107 (pkb BK107) hb); have n1_ := mk0 (below_step z1_2 hb); clear BK107 HB; have BK107 := n0_; have HB := n1_; clear n0_ n1_; (try clear hb); obtain ⟨_, _, _, _, _, _, _, _, _, _, _, _, _, _, _, _, _, _, _, _, _, _, _, _, _, _, _, _, _, _, _, _, _, _, _, _, _, _, _, _, _, _, _, _, _, _, _, _, _, _, _, _, _, _, _, _, _, _, _, _, _, _⟩ := be_31 BK107.out) | ((with_reducible refine gate_callee (f := 100) rfl ?_); refine goesL_ (some 14) rfl rfl Try.func100 (by kernel_rfl) rfl #[.slice A0_13 l0_13.length c0_13, .int .i64 t108] rfl z1_1 ?_; (with_reducible refine (laws_szIntS.calls _ _ l0_13 t108 t109 _ ?side1 ?side2 A8.out).mono ?_); (case side1 => exact z1_12); (case side2 => exact HC0_13.out); rintro e w' ⟨rfl, ⟨nd, rfl⟩⟩; refine ⟨_, rfl, ?_⟩) | ((with_reducible refine gate_callee (f := 99) rfl ?_); refine goesL_ (some 20) rfl rfl Try.func99 (by kernel_rfl) rfl #[.agg #[.slice A0_29 l0_29.length c0_29, .slice A0_30 l0_30.length c0_30], .int .i64 t109] rfl z1_1 ?_; (with_reducible refine (laws_szPath.calls _ _ l0_29 _ _ l0_30 t109 t110 _ ?side1 ?side2 ?side3 ?side4 A14.out).mono ?_); (case side1 => repeat (first | exact (Kd.C_below HR0_29.out z1_2) | (with_reducible refine Kd.C_alloc ?_ _) | (with_reducible refine Kd.C_drewN ?_ _) | (with_reducible refine Kd.C_drew ?_))); (case side2 => exact HC0_29.out); (case side3 => repeat (first | exact (Kd.C_below HR0_30.out z1_2) | (with_reducible refine Kd.C_alloc ?_ _) | (with_reducible refine Kd.C_drewN ?_ _) | (with_reducible refine Kd.C_drew ?_))); (case side4 => exact HC0_30.out); rintro e w25 ⟨rfl, hb⟩; refine ⟨_, rfl, ?_⟩; have n0_ := mk0 (blk_belowB BK107 (pkb BK107) hb); have n1_ := mk0 (below_step z1_2 hb); clear BK107 HB; have BK107 := n0_; have HB := n1_; clear n0_ n1_; (try clear hb)))
 go_ret
 exact ⟨z1_3, z1_2⟩

/-! ### laws_szNodeS: function 66 -/
def laws_szNodeS.l0 : Nat → List (S118) → Int → Int → Option (Int)
 | 0, _, _, _ => none
 | k + 1, x0, x1, x5 => if x5 < (x0.length : Int) then (if 0 ≤ x5 then ((laws_szNode.f ((rd_T118 x0 x5).f0) ((rd_T118 x0 x5).f1) ((rd_T118 x0 x5).f2) ((rd_T118 x0 x5).f3.f0) ((rd_T118 x0 x5).f3.f1) ((rd_T118 x0 x5).f3.f2) ((rd_T118 x0 x5).f3.f3) ((rd_T118 x0 x5).f3.f4) ((rd_T118 x0 x5).f3.f5) ((rd_T118 x0 x5).f4.f0) ((rd_T118 x0 x5).f4.f1) ((rd_T118 x0 x5).f5) ((rd_T118 x0 x5).f6) ((rd_T118 x0 x5).f7) ((rd_T118 x0 x5).f8.f0) ((rd_T118 x0 x5).f8.f1.f0) ((rd_T118 x0 x5).f8.f1.f1) ((rd_T118 x0 x5).f8.f1.f2) ((rd_T118 x0 x5).f8.f1.f3) ((rd_T118 x0 x5).f8.f2.f0) ((rd_T118 x0 x5).f8.f2.f1) ((rd_T118 x0 x5).f8.f2.f2) ((rd_T118 x0 x5).f8.f2.f3) ((rd_T118 x0 x5).f8.f3.f0) ((rd_T118 x0 x5).f8.f3.f1) ((rd_T118 x0 x5).f8.f4.f0) ((rd_T118 x0 x5).f8.f4.f1) ((rd_T118 x0 x5).f9) ((rd_T118 x0 x5).f10) ((rd_T118 x0 x5).f11.f0) ((rd_T118 x0 x5).f11.f1) x1).bind fun t112 => (if t112 < 0 then (some (-1)) else (laws_szNodeS.l0 k x0 t112 (wrap64 (x5 + 1))))) else (none)) else (some x1)
def laws_szNodeS.f (k : Nat) (l0 : List (S118)) (a1 : Int) : Option (Int) := if (wrap64 (a1 - (l0.length : Int))) < 0 then (some (-1)) else (laws_szNodeS.l0 k l0 (wrap64 (a1 - (l0.length : Int))) 0)
theorem laws_szNodeS.mono_l : ∀ k, (∀ y0 y1 y2, LeO (laws_szNodeS.l0 k y0 y1 y2) (laws_szNodeS.l0 (k + 1) y0 y1 y2))
 | 0 => fun _ _ _ r h => by simp [laws_szNodeS.l0] at h
 | k + 1 => by
  have ih0 := laws_szNodeS.mono_l k
  ·intro y0 y1 y2
   unfold laws_szNodeS.l0
   repeat' first
   | (with_reducible exact ih0 _ _ _)
   | (with_reducible exact LeO.refl _)
   | (with_reducible exact LeO.none _)
   | (with_reducible refine LeO.ite ?_ ?_)
   | (with_reducible refine LeO.bind ?_ (fun _ => ?_))
theorem laws_szNodeS.mono : ∀ a0 a1 k, LeO (laws_szNodeS.f k a0 a1) (laws_szNodeS.f (k + 1) a0 a1) := by
 intro a0 a1 k
 have ih0 := laws_szNodeS.mono_l k
 unfold laws_szNodeS.f
 repeat' first
   | (with_reducible exact ih0 _ _ _)
   | (with_reducible exact LeO.refl _)
   | (with_reducible exact LeO.none _)
   | (with_reducible refine LeO.ite ?_ ?_)
   | (with_reducible refine LeO.bind ?_ (fun _ => ?_))
set_option maxHeartbeats 8000000 in
set_option maxRecDepth 100000 in
theorem laws_szNodeS.calls (k : Nat) (A0 : Option Addr) (c0 : Nat) (l0 : List (S118)) (a1 : Int) (r : Int) (w : World) (hr0 : Kd.C k118 w A0 l0.length l0) (hc0 : l0.length ≤ c0) (h : laws_szNodeS.f k l0 a1 = some r) :
  Calls Try.prog 66 #[.slice A0 l0.length c0, .int .i64 a1] w fun e w' => e = .returned (.int .i64 r) ∧ Below w.heap.size w w' := by
 have hu118 := Try.underlying118
 have HR0 := mk0 hr0
 have HC0 := mk0 hc0
 clear hr0 hc0
 have HB := mk0 (Below.refl w.heap.size w)
 have H : (if (wrap64 (a1 - (l0.length : Int))) < 0 then (some (-1)) else (laws_szNodeS.l0 k l0 (wrap64 (a1 - (l0.length : Int))) 0)) = some r := h
 clear h
 by_cases c3 : (wrap64 (a1 - (l0.length : Int))) < 0
 ·rw [if_pos c3] at H
  have c3b0 := decide_eq_true c3
  clear c3
  obtain rfl := Option.some.inj H
  simp only [Option.some.injEq, Prod.mk.injEq] at H
  obtain ⟨rfl⟩ := H
  go_enter Try.func66, Try.ntmps66
  go_wp2
  go_ret
  exact ⟨z1_3, z1_0⟩
 rw [if_neg c3] at H
 have c3b0 := decide_eq_false c3
 clear c3
 have H' := mk0 H
 clear H
 go_enter Try.func66, Try.ntmps66
 go_wp2
 go_loopg [1, 5] k (fun kq v1 v5 w' => ∃ (x1_1 : Int) (x5_1 : Int), v1 = .int .i64 x1_1 ∧ v5 = .int .i64 x5_1 ∧ Aside0 (laws_szNodeS.l0 kq l0 x1_1 x5_1 = some r) ∧ Aside0 (kq ≤ k) ∧ Aside0 (Below w.heap.size w w'))
 case atStart => exact ⟨(wrap64 (a1 - (l0.length : Int))), (0), rs0, rs0, H', ⟨Nat.le_refl _⟩, ⟨z1_0⟩⟩
 case round =>
  clear H'
  try clear p2
  try clear c3
  try clear c3b0
  obtain ⟨x1_1, x5_1, rfl, rfl, HA, HK1, HB⟩ := hrel
  cases gk with
  | zero => exact absurd HA.out (by simp [laws_szNodeS.l0])
  | succ k1 =>
   have H := HA.out; clear HA
   simp only [laws_szNodeS.l0] at H
   by_cases c4 : x5_1 < (l0.length : Int)
   rotate_left
   ·rw [if_neg c4] at H
    have c4b0 := decide_eq_false c4
    clear c4
    obtain rfl := Option.some.inj H
    simp only [Option.some.injEq, Prod.mk.injEq] at H
    obtain ⟨rfl⟩ := H
    go_wp2
    go_ret
    exact ⟨z1_3, z1_0⟩
   rw [if_pos c4] at H
   have c4b0 := decide_eq_true c4
   clear c4
   by_cases c5 : 0 ≤ x5_1
   rotate_left
   ·rw [if_neg c5] at H
    exact absurd H (by simp)
   rw [if_pos c5] at H
   have c5b0 := decide_eq_true c5
   clear c5
   replace H := Option.bind_eq_some_iff.mp H
   obtain ⟨t112, A60, H⟩ := H
   try dsimp only at H
   have A6 := mk0 A60
   clear A60
   by_cases c7 : t112 < 0
   ·rw [if_pos c7] at H
    have c7b0 := decide_eq_true c7
    clear c7
    obtain rfl := Option.some.inj H
    simp only [Option.some.injEq, Prod.mk.injEq] at H
    obtain ⟨rfl⟩ := H
    have p111 : 0 ≤ (x5_1 : Int) := of_decide_eq_true (by first | (with_reducible assumption) | assumption)
    have q111 : x5_1 < (l0.length : Int) := of_decide_eq_true (by first | (with_reducible assumption) | assumption)
    obtain ⟨ad111, A111_9, c111_9, A111_10, c111_10, A111_13, c111_13, A111_29, c111_29, A111_30, c111_30, e111, hx111_0, hx111_1, hx111_2, hx111_3, hx111_4, hx111_5, hx111_6, hx111_7, hx111_8, hx111_9, hx111_10, hx111_11, hx111_12, hx111_13, hx111_14, hx111_15, hx111_16, hx111_17, hx111_18, hx111_19, hx111_20, hx111_21, hx111_22, hx111_23, hx111_24, hx111_25, hx111_26, hx111_27, hx111_28, hx111_29, hx111_30, hl111_9, hi111_9, hl111_10, hi111_10, hl111_13, hi111_13, hl111_29, hi111_29, hl111_30, hi111_30⟩ := at_T118 HR0.out x5_1 p111 q111
    have hM111 := lie_zero hx111_0 (lie_n hx111_1 (lie_n hx111_2 (lie_n hx111_3 (lie_n hx111_4 (lie_n hx111_5 (lie_n hx111_6 (lie_n hx111_7 (lie_n hx111_8 (lie_n hx111_9 (lie_n hx111_10 (lie_n hx111_11 (lie_n hx111_12 (lie_n hx111_13 (lie_n hx111_14 (lie_n hx111_15 (lie_n hx111_16 (lie_n hx111_17 (lie_n hx111_18 (lie_n hx111_19 (lie_n hx111_20 (lie_n hx111_21 (lie_n hx111_22 (lie_n hx111_23 (lie_n hx111_24 (lie_n hx111_25 (lie_n hx111_26 (lie_n hx111_27 (lie_n hx111_28 (lie_n hx111_29 (lie_n hx111_30 (lie_nil _ _ _)))))))))))))))))))))))))))))))
    cases e111
    replace hx111_0 := cell_go HB hx111_0
    replace hx111_1 := cell_go HB hx111_1
    replace hx111_2 := cell_go HB hx111_2
    replace hx111_3 := cell_go HB hx111_3
    replace hx111_4 := cell_go HB hx111_4
    replace hx111_5 := cell_go HB hx111_5
    replace hx111_6 := cell_go HB hx111_6
    replace hx111_7 := cell_go HB hx111_7
    replace hx111_8 := cell_go HB hx111_8
    replace hx111_9 := cell_go HB hx111_9
    replace hx111_10 := cell_go HB hx111_10
    replace hx111_11 := cell_go HB hx111_11
    replace hx111_12 := cell_go HB hx111_12
    replace hx111_13 := cell_go HB hx111_13
    replace hx111_14 := cell_go HB hx111_14
    replace hx111_15 := cell_go HB hx111_15
    replace hx111_16 := cell_go HB hx111_16
    replace hx111_17 := cell_go HB hx111_17
    replace hx111_18 := cell_go HB hx111_18
    replace hx111_19 := cell_go HB hx111_19
    replace hx111_20 := cell_go HB hx111_20
    replace hx111_21 := cell_go HB hx111_21
    replace hx111_22 := cell_go HB hx111_22
    replace hx111_23 := cell_go HB hx111_23
    replace hx111_24 := cell_go HB hx111_24
    replace hx111_25 := cell_go HB hx111_25
    replace hx111_26 := cell_go HB hx111_26
    replace hx111_27 := cell_go HB hx111_27
    replace hx111_28 := cell_go HB hx111_28
    replace hx111_29 := cell_go HB hx111_29
    replace hx111_30 := cell_go HB hx111_30
    have HR111_9 := mk0 hi111_9
    have HC111_9 := mk0 hl111_9
    clear hi111_9 hl111_9
    have HR111_10 := mk0 hi111_10
    have HC111_10 := mk0 hl111_10
    clear hi111_10 hl111_10
    have HR111_13 := mk0 hi111_13
    have HC111_13 := mk0 hl111_13
    clear hi111_13 hl111_13
    have HR111_29 := mk0 hi111_29
    have HC111_29 := mk0 hl111_29
    clear hi111_29 hl111_29
    have HR111_30 := mk0 hi111_30
    have HC111_30 := mk0 hl111_30
    clear hi111_30 hl111_30
    replace p111 := eq_true p111
    replace q111 := eq_true q111
    go_wp2_with (first | ((with_reducible refine gate_load (t := 118) rfl ?_); refine load_lie (t := 118) rfl rfl hM111 HB (by with_reducible rfl) rfl Try.underlying118 rfl (show (Try.prog.info? 118).map (·.size) = some 31 by kernel_rfl) rfl ?_) | ((with_reducible refine gate_load (t := 118) rfl ?_); refine load_lie0 (t := 118) rfl rfl hM111 (by with_reducible rfl) rfl Try.underlying118 rfl (show (Try.prog.info? 118).map (·.size) = some 31 by kernel_rfl) rfl ?_) | ((with_reducible refine gate_callee (f := 88) rfl ?_); refine goesL_ (some 23) rfl rfl Try.func88 (by kernel_rfl) rfl #[.agg #[.int .i64 ((rd_T118 l0 x5_1).f0), .int .i64 ((rd_T118 l0 x5_1).f1), .bool ((rd_T118 l0 x5_1).f2), .int .i64 ((rd_T118 l0 x5_1).f3.f0), .int .i64 ((rd_T118 l0 x5_1).f3.f1), .int .i64 ((rd_T118 l0 x5_1).f3.f2), .int .i64 ((rd_T118 l0 x5_1).f3.f3), .int .i64 ((rd_T118 l0 x5_1).f3.f4), .int .i64 ((rd_T118 l0 x5_1).f3.f5), .slice A111_9 ((rd_T118 l0 x5_1).f4.f0).length c111_9, .slice A111_10 ((rd_T118 l0 x5_1).f4.f1).length c111_10, .bool ((rd_T118 l0 x5_1).f5), .int .i64 ((rd_T118 l0 x5_1).f6), .slice A111_13 ((rd_T118 l0 x5_1).f7).length c111_13, .int .i64 ((rd_T118 l0 x5_1).f8.f0), .int .i64 ((rd_T118 l0 x5_1).f8.f1.f0), .int .i64 ((rd_T118 l0 x5_1).f8.f1.f1), .int .i64 ((rd_T118 l0 x5_1).f8.f1.f2), .int .i64 ((rd_T118 l0 x5_1).f8.f1.f3), .int .i64 ((rd_T118 l0 x5_1).f8.f2.f0), .int .i64 ((rd_T118 l0 x5_1).f8.f2.f1), .int .i64 ((rd_T118 l0 x5_1).f8.f2.f2), .int .i64 ((rd_T118 l0 x5_1).f8.f2.f3), .int .i64 ((rd_T118 l0 x5_1).f8.f3.f0), .int .i64 ((rd_T118 l0 x5_1).f8.f3.f1), .int .i64 ((rd_T118 l0 x5_1).f8.f4.f0), .int .i64 ((rd_T118 l0 x5_1).f8.f4.f1), .int .i64 ((rd_T118 l0 x5_1).f9), .int .i64 ((rd_T118 l0 x5_1).f10), .slice A111_29 ((rd_T118 l0 x5_1).f11.f0).length c111_29, .slice A111_30 ((rd_T118 l0 x5_1).f11.f1).length c111_30], .int .i64 x1_1] rfl z1_1 ?_; (with_reducible refine (laws_szNode.calls ((rd_T118 l0 x5_1).f0) ((rd_T118 l0 x5_1).f1) ((rd_T118 l0 x5_1).f2) ((rd_T118 l0 x5_1).f3.f0) ((rd_T118 l0 x5_1).f3.f1) ((rd_T118 l0 x5_1).f3.f2) ((rd_T118 l0 x5_1).f3.f3) ((rd_T118 l0 x5_1).f3.f4) ((rd_T118 l0 x5_1).f3.f5) _ _ ((rd_T118 l0 x5_1).f4.f0) _ _ ((rd_T118 l0 x5_1).f4.f1) ((rd_T118 l0 x5_1).f5) ((rd_T118 l0 x5_1).f6) _ _ ((rd_T118 l0 x5_1).f7) ((rd_T118 l0 x5_1).f8.f0) ((rd_T118 l0 x5_1).f8.f1.f0) ((rd_T118 l0 x5_1).f8.f1.f1) ((rd_T118 l0 x5_1).f8.f1.f2) ((rd_T118 l0 x5_1).f8.f1.f3) ((rd_T118 l0 x5_1).f8.f2.f0) ((rd_T118 l0 x5_1).f8.f2.f1) ((rd_T118 l0 x5_1).f8.f2.f2) ((rd_T118 l0 x5_1).f8.f2.f3) ((rd_T118 l0 x5_1).f8.f3.f0) ((rd_T118 l0 x5_1).f8.f3.f1) ((rd_T118 l0 x5_1).f8.f4.f0) ((rd_T118 l0 x5_1).f8.f4.f1) ((rd_T118 l0 x5_1).f9) ((rd_T118 l0 x5_1).f10) _ _ ((rd_T118 l0 x5_1).f11.f0) _ _ ((rd_T118 l0 x5_1).f11.f1) x1_1 t112 _ ?side1 ?side2 ?side3 ?side4 ?side5 ?side6 ?side7 ?side8 ?side9 ?side10 A6.out).mono ?_); (case side1 => exact z1_17); (case side2 => exact HC111_9.out); (case side3 => exact z1_13); (case side4 => exact HC111_10.out); (case side5 => exact z1_14); (case side6 => exact HC111_13.out); (case side7 => exact z1_15); (case side8 => exact HC111_29.out); (case side9 => exact z1_16); (case side10 => exact HC111_30.out); rintro e w8 ⟨rfl, hb⟩; refine ⟨_, rfl, ?_⟩; have n0_ := mk0 (below_step z1_0 hb); clear HB; have HB := n0_; clear n0_; (try clear hb)))
    go_ret
    exact ⟨z1_3, z1_0⟩
   rw [if_neg c7] at H
   have c7b0 := decide_eq_false c7
   clear c7
   have H' := mk0 H
   clear H
   have p111 : 0 ≤ (x5_1 : Int) := of_decide_eq_true (by first | (with_reducible assumption) | assumption)
   have q111 : x5_1 < (l0.length : Int) := of_decide_eq_true (by first | (with_reducible assumption) | assumption)
   obtain ⟨ad111, A111_9, c111_9, A111_10, c111_10, A111_13, c111_13, A111_29, c111_29, A111_30, c111_30, e111, hx111_0, hx111_1, hx111_2, hx111_3, hx111_4, hx111_5, hx111_6, hx111_7, hx111_8, hx111_9, hx111_10, hx111_11, hx111_12, hx111_13, hx111_14, hx111_15, hx111_16, hx111_17, hx111_18, hx111_19, hx111_20, hx111_21, hx111_22, hx111_23, hx111_24, hx111_25, hx111_26, hx111_27, hx111_28, hx111_29, hx111_30, hl111_9, hi111_9, hl111_10, hi111_10, hl111_13, hi111_13, hl111_29, hi111_29, hl111_30, hi111_30⟩ := at_T118 HR0.out x5_1 p111 q111
   have hM111 := lie_zero hx111_0 (lie_n hx111_1 (lie_n hx111_2 (lie_n hx111_3 (lie_n hx111_4 (lie_n hx111_5 (lie_n hx111_6 (lie_n hx111_7 (lie_n hx111_8 (lie_n hx111_9 (lie_n hx111_10 (lie_n hx111_11 (lie_n hx111_12 (lie_n hx111_13 (lie_n hx111_14 (lie_n hx111_15 (lie_n hx111_16 (lie_n hx111_17 (lie_n hx111_18 (lie_n hx111_19 (lie_n hx111_20 (lie_n hx111_21 (lie_n hx111_22 (lie_n hx111_23 (lie_n hx111_24 (lie_n hx111_25 (lie_n hx111_26 (lie_n hx111_27 (lie_n hx111_28 (lie_n hx111_29 (lie_n hx111_30 (lie_nil _ _ _)))))))))))))))))))))))))))))))
   cases e111
   replace hx111_0 := cell_go HB hx111_0
   replace hx111_1 := cell_go HB hx111_1
   replace hx111_2 := cell_go HB hx111_2
   replace hx111_3 := cell_go HB hx111_3
   replace hx111_4 := cell_go HB hx111_4
   replace hx111_5 := cell_go HB hx111_5
   replace hx111_6 := cell_go HB hx111_6
   replace hx111_7 := cell_go HB hx111_7
   replace hx111_8 := cell_go HB hx111_8
   replace hx111_9 := cell_go HB hx111_9
   replace hx111_10 := cell_go HB hx111_10
   replace hx111_11 := cell_go HB hx111_11
   replace hx111_12 := cell_go HB hx111_12
   replace hx111_13 := cell_go HB hx111_13
   replace hx111_14 := cell_go HB hx111_14
   replace hx111_15 := cell_go HB hx111_15
   replace hx111_16 := cell_go HB hx111_16
   replace hx111_17 := cell_go HB hx111_17
   replace hx111_18 := cell_go HB hx111_18
   replace hx111_19 := cell_go HB hx111_19
   replace hx111_20 := cell_go HB hx111_20
   replace hx111_21 := cell_go HB hx111_21
   replace hx111_22 := cell_go HB hx111_22
   replace hx111_23 := cell_go HB hx111_23
   replace hx111_24 := cell_go HB hx111_24
   replace hx111_25 := cell_go HB hx111_25
   replace hx111_26 := cell_go HB hx111_26
   replace hx111_27 := cell_go HB hx111_27
   replace hx111_28 := cell_go HB hx111_28
   replace hx111_29 := cell_go HB hx111_29
   replace hx111_30 := cell_go HB hx111_30
   have HR111_9 := mk0 hi111_9
   have HC111_9 := mk0 hl111_9
   clear hi111_9 hl111_9
   have HR111_10 := mk0 hi111_10
   have HC111_10 := mk0 hl111_10
   clear hi111_10 hl111_10
   have HR111_13 := mk0 hi111_13
   have HC111_13 := mk0 hl111_13
   clear hi111_13 hl111_13
   have HR111_29 := mk0 hi111_29
   have HC111_29 := mk0 hl111_29
   clear hi111_29 hl111_29
   have HR111_30 := mk0 hi111_30
   have HC111_30 := mk0 hl111_30
   clear hi111_30 hl111_30
   replace p111 := eq_true p111
   replace q111 := eq_true q111
   go_wp2_with (first | ((with_reducible refine gate_load (t := 118) rfl ?_); refine load_lie (t := 118) rfl rfl hM111 HB (by with_reducible rfl) rfl Try.underlying118 rfl (show (Try.prog.info? 118).map (·.size) = some 31 by kernel_rfl) rfl ?_) | ((with_reducible refine gate_load (t := 118) rfl ?_); refine load_lie0 (t := 118) rfl rfl hM111 (by with_reducible rfl) rfl Try.underlying118 rfl (show (Try.prog.info? 118).map (·.size) = some 31 by kernel_rfl) rfl ?_) | ((with_reducible refine gate_callee (f := 88) rfl ?_); refine goesL_ (some 23) rfl rfl Try.func88 (by kernel_rfl) rfl #[.agg #[.int .i64 ((rd_T118 l0 x5_1).f0), .int .i64 ((rd_T118 l0 x5_1).f1), .bool ((rd_T118 l0 x5_1).f2), .int .i64 ((rd_T118 l0 x5_1).f3.f0), .int .i64 ((rd_T118 l0 x5_1).f3.f1), .int .i64 ((rd_T118 l0 x5_1).f3.f2), .int .i64 ((rd_T118 l0 x5_1).f3.f3), .int .i64 ((rd_T118 l0 x5_1).f3.f4), .int .i64 ((rd_T118 l0 x5_1).f3.f5), .slice A111_9 ((rd_T118 l0 x5_1).f4.f0).length c111_9, .slice A111_10 ((rd_T118 l0 x5_1).f4.f1).length c111_10, .bool ((rd_T118 l0 x5_1).f5), .int .i64 ((rd_T118 l0 x5_1).f6), .slice A111_13 ((rd_T118 l0 x5_1).f7).length c111_13, .int .i64 ((rd_T118 l0 x5_1).f8.f0), .int .i64 ((rd_T118 l0 x5_1).f8.f1.f0), .int .i64 ((rd_T118 l0 x5_1).f8.f1.f1), .int .i64 ((rd_T118 l0 x5_1).f8.f1.f2), .int .i64 ((rd_T118 l0 x5_1).f8.f1.f3), .int .i64 ((rd_T118 l0 x5_1).f8.f2.f0), .int .i64 ((rd_T118 l0 x5_1).f8.f2.f1), .int .i64 ((rd_T118 l0 x5_1).f8.f2.f2), .int .i64 ((rd_T118 l0 x5_1).f8.f2.f3), .int .i64 ((rd_T118 l0 x5_1).f8.f3.f0), .int .i64 ((rd_T118 l0 x5_1).f8.f3.f1), .int .i64 ((rd_T118 l0 x5_1).f8.f4.f0), .int .i64 ((rd_T118 l0 x5_1).f8.f4.f1), .int .i64 ((rd_T118 l0 x5_1).f9), .int .i64 ((rd_T118 l0 x5_1).f10), .slice A111_29 ((rd_T118 l0 x5_1).f11.f0).length c111_29, .slice A111_30 ((rd_T118 l0 x5_1).f11.f1).length c111_30], .int .i64 x1_1] rfl z1_1 ?_; (with_reducible refine (laws_szNode.calls ((rd_T118 l0 x5_1).f0) ((rd_T118 l0 x5_1).f1) ((rd_T118 l0 x5_1).f2) ((rd_T118 l0 x5_1).f3.f0) ((rd_T118 l0 x5_1).f3.f1) ((rd_T118 l0 x5_1).f3.f2) ((rd_T118 l0 x5_1).f3.f3) ((rd_T118 l0 x5_1).f3.f4) ((rd_T118 l0 x5_1).f3.f5) _ _ ((rd_T118 l0 x5_1).f4.f0) _ _ ((rd_T118 l0 x5_1).f4.f1) ((rd_T118 l0 x5_1).f5) ((rd_T118 l0 x5_1).f6) _ _ ((rd_T118 l0 x5_1).f7) ((rd_T118 l0 x5_1).f8.f0) ((rd_T118 l0 x5_1).f8.f1.f0) ((rd_T118 l0 x5_1).f8.f1.f1) ((rd_T118 l0 x5_1).f8.f1.f2) ((rd_T118 l0 x5_1).f8.f1.f3) ((rd_T118 l0 x5_1).f8.f2.f0) ((rd_T118 l0 x5_1).f8.f2.f1) ((rd_T118 l0 x5_1).f8.f2.f2) ((rd_T118 l0 x5_1).f8.f2.f3) ((rd_T118 l0 x5_1).f8.f3.f0) ((rd_T118 l0 x5_1).f8.f3.f1) ((rd_T118 l0 x5_1).f8.f4.f0) ((rd_T118 l0 x5_1).f8.f4.f1) ((rd_T118 l0 x5_1).f9) ((rd_T118 l0 x5_1).f10) _ _ ((rd_T118 l0 x5_1).f11.f0) _ _ ((rd_T118 l0 x5_1).f11.f1) x1_1 t112 _ ?side1 ?side2 ?side3 ?side4 ?side5 ?side6 ?side7 ?side8 ?side9 ?side10 A6.out).mono ?_); (case side1 => exact z1_17); (case side2 => exact HC111_9.out); (case side3 => exact z1_13); (case side4 => exact HC111_10.out); (case side5 => exact z1_14); (case side6 => exact HC111_13.out); (case side7 => exact z1_15); (case side8 => exact HC111_29.out); (case side9 => exact z1_16); (case side10 => exact HC111_30.out); rintro e w9 ⟨rfl, hb⟩; refine ⟨_, rfl, ?_⟩; have n0_ := mk0 (below_step z1_0 hb); clear HB; have HB := n0_; clear n0_; (try clear hb)))
   go_roundg k1
   case measure => have := HK1.out; omega
   case rel => exact ⟨(t112), (wrap64 (x5_1 + 1)), rs0, rs0, H', ⟨(by have := HK1.out; omega)⟩, ⟨z1_0⟩⟩

/-! ### laws_szScene: function 29 -/
def laws_szScene.f (k : Nat) (l0_0 : List (S118)) (a1 : Int) : Option (Int) := (laws_szNodeS.f k l0_0 a1).bind fun t114 => (if t114 < 0 then (some (-1)) else (some t114))
theorem laws_szScene.mono : ∀ a0 a1 k, LeO (laws_szScene.f k a0 a1) (laws_szScene.f (k + 1) a0 a1) := by
 intro a0 a1 k
 unfold laws_szScene.f
 repeat' first
   | (with_reducible exact laws_szNodeS.mono _ _ _)
   | (with_reducible exact LeO.refl _)
   | (with_reducible exact LeO.none _)
   | (with_reducible refine LeO.ite ?_ ?_)
   | (with_reducible refine LeO.bind ?_ (fun _ => ?_))
set_option maxHeartbeats 8000000 in
set_option maxRecDepth 100000 in
theorem laws_szScene.calls (k : Nat) (A0_0 : Option Addr) (c0_0 : Nat) (l0_0 : List (S118)) (a1 : Int) (r : Int) (w : World) (hr0_0 : Kd.C k118 w A0_0 l0_0.length l0_0) (hc0_0 : l0_0.length ≤ c0_0) (h : laws_szScene.f k l0_0 a1 = some r) :
  Calls Try.prog 29 #[.agg #[.slice A0_0 l0_0.length c0_0], .int .i64 a1] w fun e w' => e = .returned (.int .i64 r) ∧ Below w.heap.size w w' := by
 have hu48 := Try.underlying48
 have HR0_0 := mk0 hr0_0
 have HC0_0 := mk0 hc0_0
 clear hr0_0 hc0_0
 have HB := mk0 (Below.refl w.heap.size w)
 have H : ((laws_szNodeS.f k l0_0 a1).bind fun t114 => (if t114 < 0 then (some (-1)) else (some t114))) = some r := h
 clear h
 replace H := Option.bind_eq_some_iff.mp H
 obtain ⟨t114, A30, H⟩ := H
 try dsimp only at H
 have A3 := mk0 A30
 clear A30
 by_cases c4 : t114 < 0
 ·rw [if_pos c4] at H
  have c4b0 := decide_eq_true c4
  clear c4
  obtain rfl := Option.some.inj H
  simp only [Option.some.injEq, Prod.mk.injEq] at H
  obtain ⟨rfl⟩ := H
  go_enter Try.func29, Try.ntmps29
  go_wp2_with (first | ((with_reducible refine gate_dst (N := 2) rfl ?_); refine boxz (cs := #[.slice A0_0 l0_0.length c0_0]) (t := 48) rfl ?_; intro gb113 hg w5 hbox hb; have n0_ := mk0 (below_step z1_0 hb); have n1_ := mk0 (hbox); have GW113 := mk0 (ge_go (a := w.heap.size) hg (below_size z1_0)); have GE113 := GW113; clear HB; have HB := n0_; have BK113 := n1_; clear n0_ n1_ ; clear hb hbox hg; obtain ⟨_, _⟩ := be_1 BK113.out) | ((with_reducible refine gate_callee (f := 66) rfl ?_); refine goesL_ (some 8) rfl rfl Try.func66 (by kernel_rfl) rfl #[.slice A0_0 l0_0.length c0_0, .int .i64 a1] rfl z1_1 ?_; (with_reducible refine (laws_szNodeS.calls k _ _ l0_0 a1 t114 _ ?side1 ?side2 A3.out).mono ?_); (case side1 => exact z1_4); (case side2 => exact HC0_0.out); rintro e w7 ⟨rfl, hb⟩; refine ⟨_, rfl, ?_⟩; have n0_ := mk0 (blk_belowB BK113 (pkb BK113) hb); have n1_ := mk0 (below_step z1_9 hb); clear BK113 HB; have BK113 := n0_; have HB := n1_; clear n0_ n1_; (try clear hb)))
  go_ret
  exact ⟨z1_3, z1_9⟩
 rw [if_neg c4] at H
 have c4b0 := decide_eq_false c4
 clear c4
 obtain rfl := Option.some.inj H
 simp only [Option.some.injEq, Prod.mk.injEq] at H
 obtain ⟨rfl⟩ := H
 go_enter Try.func29, Try.ntmps29
 go_wp2_with (first | ((with_reducible refine gate_dst (N := 2) rfl ?_); refine boxz (cs := #[.slice A0_0 l0_0.length c0_0]) (t := 48) rfl ?_; intro gb113 hg w8 hbox hb; have n0_ := mk0 (below_step z1_0 hb); have n1_ := mk0 (hbox); have GW113 := mk0 (ge_go (a := w.heap.size) hg (below_size z1_0)); have GE113 := GW113; clear HB; have HB := n0_; have BK113 := n1_; clear n0_ n1_ ; clear hb hbox hg; obtain ⟨_, _⟩ := be_1 BK113.out) | ((with_reducible refine gate_callee (f := 66) rfl ?_); refine goesL_ (some 8) rfl rfl Try.func66 (by kernel_rfl) rfl #[.slice A0_0 l0_0.length c0_0, .int .i64 a1] rfl z1_1 ?_; (with_reducible refine (laws_szNodeS.calls k _ _ l0_0 a1 t114 _ ?side1 ?side2 A3.out).mono ?_); (case side1 => exact z1_4); (case side2 => exact HC0_0.out); rintro e w10 ⟨rfl, hb⟩; refine ⟨_, rfl, ?_⟩; have n0_ := mk0 (blk_belowB BK113 (pkb BK113) hb); have n1_ := mk0 (below_step z1_9 hb); clear BK113 HB; have BK113 := n0_; have HB := n1_; clear n0_ n1_; (try clear hb)))
 go_ret
 exact ⟨z1_3, z1_9⟩

/-! ### laws_toIntS: function 21 -/
def laws_toIntS.l0 : Nat → List Int → List Int → Int → Option (List Int)
 | 0, _, _, _ => none
 | k + 1, x0, x3, x4 => if x4 < (x0.length : Int) then (if 0 ≤ x4 then (if x4 < (x3.length : Int) then (laws_toIntS.l0 k x0 (x3.set (x4 : Int).toNat (rd x0 x4)) (wrap64 (x4 + 1))) else (none)) else (none)) else (some x3)
def laws_toIntS.f (k : Nat) (l0 : List Int) : Option (List Int) := if 0 ≤ (l0.length : Int) then (if ((l0.length : Int) : Int).toNat ≤ 35184372088832 then (laws_toIntS.l0 k l0 (List.replicate ((l0.length : Int) : Int).toNat 0) 0) else (none)) else (none)
theorem laws_toIntS.mono_l : ∀ k, (∀ y0 y1 y2, LeO (laws_toIntS.l0 k y0 y1 y2) (laws_toIntS.l0 (k + 1) y0 y1 y2))
 | 0 => fun _ _ _ r h => by simp [laws_toIntS.l0] at h
 | k + 1 => by
  have ih0 := laws_toIntS.mono_l k
  ·intro y0 y1 y2
   unfold laws_toIntS.l0
   repeat' first
   | (with_reducible exact ih0 _ _ _)
   | (with_reducible exact LeO.refl _)
   | (with_reducible exact LeO.none _)
   | (with_reducible refine LeO.ite ?_ ?_)
   | (with_reducible refine LeO.bind ?_ (fun _ => ?_))
theorem laws_toIntS.mono : ∀ a0 k, LeO (laws_toIntS.f k a0) (laws_toIntS.f (k + 1) a0) := by
 intro a0 k
 have ih0 := laws_toIntS.mono_l k
 unfold laws_toIntS.f
 repeat' first
   | (with_reducible exact ih0 _ _ _)
   | (with_reducible exact LeO.refl _)
   | (with_reducible exact LeO.none _)
   | (with_reducible refine LeO.ite ?_ ?_)
   | (with_reducible refine LeO.bind ?_ (fun _ => ?_))
set_option maxHeartbeats 8000000 in
set_option maxRecDepth 100000 in
theorem laws_toIntS.calls (k : Nat) (A0 : Option Addr) (c0 : Nat) (l0 : List Int) (r : List Int) (w : World) (hr0 : Kd.C (Kd.int .i64) w A0 l0.length l0) (hc0 : l0.length ≤ c0) (h : laws_toIntS.f k l0 = some r) :
  Calls Try.prog 21 #[.slice A0 l0.length c0] w fun e w' => ∃ v0_ : Value, e = .returned (v0_) ∧ Kd.R (Kd.int .i64) 3 w' w.heap.size (fun _ => True) v0_ r ∧ Below w.heap.size w w' := by
 have HR0 := mk0 hr0
 have HC0 := mk0 hc0
 clear hr0 hc0
 have HB := mk0 (Below.refl w.heap.size w)
 have H : (if 0 ≤ (l0.length : Int) then (if ((l0.length : Int) : Int).toNat ≤ 35184372088832 then (laws_toIntS.l0 k l0 (List.replicate ((l0.length : Int) : Int).toNat 0) 0) else (none)) else (none)) = some r := h
 clear h
 by_cases c2 : 0 ≤ (l0.length : Int)
 rotate_left
 ·rw [if_neg c2] at H
  exact absurd H (by simp)
 rw [if_pos c2] at H
 have c2b0 := eq_true c2
 have c2b1 := decide_eq_true c2
 clear c2
 by_cases c3 : ((l0.length : Int) : Int).toNat ≤ 35184372088832
 rotate_left
 ·rw [if_neg c3] at H
  exact absurd H (by simp)
 rw [if_pos c3] at H
 have c3b0 := eq_true c3
 have c3b1 := decide_eq_true c3
 clear c3
 obtain ⟨y115, hy_⟩ : ∃ y_ : List Int, y_ = (List.replicate ((l0.length : Int) : Int).toNat 0) := ⟨_, rfl⟩
 replace H : (laws_toIntS.l0 k l0 y115 0) = some r := z1_6
 have Ny115 := mk0 hy_
 clear hy_
 have H' := mk0 H
 clear H
 go_enter Try.func21, Try.ntmps21
 go_wp2_with (first | ((with_reducible refine gate_dst (N := 7) rfl ?_); refine Kd.R_make (Kd.int .i64) _ 3 rfl (N := 7) rfl 24 _ _ rfl (l0.length : Int) rfl rfl Try.underlying24 (.int .i64 0) 8 info3 rfl (by decide) (by omega) 0 (ok := fun _ => True) (okp := fun _ => True) rfl (fun _ hk => hk) trivial (of_decide_eq_true (by first | (with_reducible assumption) | assumption)) (Nat.le_trans (Nat.mul_le_mul_right _ (of_decide_eq_true (by first | (with_reducible assumption) | assumption) : (l0.length : Int).toNat ≤ 35184372088832)) (by omega)) (Below.refl _ _) (Nat.le_refl _) ?_; intro v116 w4 ho5 hb hg_ hnew_; clear hg_ hnew_; (first | rw [← Ny115.out] at ho5 | (simp only [Int.reduceToNat] at ho5; rw [← Ny115.out] at ho5)); have n0_ := mk0 (Kd.R_lower ho5 (below_size z1_0)); have n1_ := mk0 (below_step z1_0 hb); clear HB; have HO117 := n0_; have HB := n1_; clear n0_ n1_ hb ho5))
 go_loopg [4] k (fun kq v4 w' => ∃ (x3_1 : List Int) (x4_1 : Int), v4 = .int .i64 x4_1 ∧ Aside0 (laws_toIntS.l0 kq l0 x3_1 x4_1 = some r) ∧ Aside0 (kq ≤ k) ∧ Aside0 (Kd.R (Kd.int .i64) 3 w' w.heap.size (fun _ => True) v116 x3_1) ∧ Aside0 (Below w.heap.size w w'))
 case atStart => exact ⟨(y115), (0), rs0, H', ⟨Nat.le_refl _⟩, ⟨pkR HO117⟩, ⟨z1_0⟩⟩
 case round =>
  clear H'
  try clear c2
  try clear c2b0
  try clear c2b1
  try clear p2
  try clear c3
  try clear c3b0
  try clear c3b1
  obtain ⟨x3_1, x4_1, rfl, HA, HK1, HO_3, HB⟩ := hrel
  cases gk with
  | zero => exact absurd HA.out (by simp [laws_toIntS.l0])
  | succ k1 =>
   have H := HA.out; clear HA
   simp only [laws_toIntS.l0] at H
   by_cases c6 : x4_1 < (l0.length : Int)
   rotate_left
   ·rw [if_neg c6] at H
    have c6b0 := decide_eq_false c6
    clear c6
    obtain rfl := Option.some.inj H
    simp only [Option.some.injEq, Prod.mk.injEq] at H
    obtain ⟨rfl⟩ := H
    go_wp2
    go_ret
    exact ⟨_, z1_3, (pkR HO_3), z1_0⟩
   rw [if_pos c6] at H
   have c6b0 := decide_eq_true c6
   clear c6
   by_cases c7 : 0 ≤ x4_1
   rotate_left
   ·rw [if_neg c7] at H
    exact absurd H (by simp)
   rw [if_pos c7] at H
   have c7b0 := decide_eq_true c7
   clear c7
   by_cases c8 : x4_1 < (x3_1.length : Int)
   rotate_left
   ·rw [if_neg c8] at H
    exact absurd H (by simp)
   rw [if_pos c8] at H
   have c8b0 := decide_eq_true c8
   clear c8
   obtain ⟨y119, hy_⟩ : ∃ y_ : List Int, y_ = (x3_1.set (x4_1 : Int).toNat (rd l0 x4_1)) := ⟨_, rfl⟩
   replace H : (laws_toIntS.l0 k1 l0 y119 (wrap64 (x4_1 + 1))) = some r := z1_6
   have Ny119 := mk0 hy_
   clear hy_
   have H' := mk0 H
   clear H
   have p118 : 0 ≤ (x4_1 : Int) := of_decide_eq_true (by first | (with_reducible assumption) | assumption)
   have q118 : x4_1 < (l0.length : Int) := of_decide_eq_true (by first | (with_reducible assumption) | assumption)
   obtain ⟨ad118, e118, hx118_0⟩ := Kd.at_int HR0.out x4_1 p118 q118
   cases e118
   replace hx118_0 := cell_go HB hx118_0
   replace p118 := eq_true p118
   replace q118 := eq_true q118
   have p9 : 0 ≤ (x4_1 : Int) := of_decide_eq_true (by first | (with_reducible assumption) | assumption)
   have q9 : (x4_1 : Int) < ((x3_1.length : Int) : Int) := of_decide_eq_true (by first | (with_reducible assumption) | assumption)
   obtain ⟨go9, co9, eo9, gb9, gl9, cl9, HG9⟩ := Kd.R_form HO_3.out (by omega)
   (first | cases eo9 | (injection eo9 with ea_ en_ ec_; (first | subst ea_ | (injection ea_ with ea_; subst ea_)); subst ec_; clear en_))
   have GB9 := mk0 gb9
   have GG9 := mk0 HG9
   clear gb9 gl9 HG9
   obtain ⟨hx9_0, hf9_0⟩ := Kd.R_celln 0 HO_3.out (x4_1 : Int) p9 q9
   replace p9 := eq_true p9
   replace q9 := eq_true q9
   have HP10 := Kd.R_putg HO_3.out (x4_1 : Int) (rd l0 x4_1)
   go_wp2_with (first | ((with_reducible refine gate_store (t := 3) (p := 20) rfl ?_); refine store_event (t := 3) (p := 20) (v := ?vo_w11) (w1 := (wr.setCell ⟨go9, (x4_1 : Int).toNat, none⟩ (.int .i64 (rd l0 x4_1)))) ?hg ?ho ?hn ?hr ?_; (case ho => rfl); (case hg => rfl); (case hn => rfl); (case hr => first | (go_simp; done) | (go_simp; rfl) | (obtain ⟨Aq_, cq_, eq_⟩ := Kd.R_slice HO_3.out; subst eq_; first | (go_simp; done) | (go_simp; rfl))); intro w11 hw; have hg : wr.grownBy w11 (some go9) := (by rw [hw]; exact HP10.2); have hp_ : Kd.R (Kd.int .i64) 3 w11 w.heap.size (fun _ => True) (.slice (some ⟨go9, 0, none⟩) x3_1.length co9) y119 := (by rw [hw, Ny119.out]; exact HP10.1); clear HP10; have n0_ := mk0 (hp_); have n1_ := mk0 ((by rw [hw]; exact below_set (HB.out) GB9.out : Below w.heap.size w w11)); clear HO_3 HB; have HO_3 := n0_; have HB := n1_; clear n0_ n1_ hg hw hp_))
   go_roundg k1
   case measure => have := HK1.out; omega
   case rel => exact ⟨(y119), (wrap64 (x4_1 + 1)), rs0, H', ⟨(by have := HK1.out; omega)⟩, ⟨pkR HO_3⟩, ⟨z1_0⟩⟩

end Go.Proofs.Ytjfienkbcacijaa.MFnExactUnderOf
