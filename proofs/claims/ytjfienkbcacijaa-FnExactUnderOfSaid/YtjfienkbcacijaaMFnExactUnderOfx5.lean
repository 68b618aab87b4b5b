/- Functions of the program as Lean functions, and the proof that a call comes to just these: machine text of this session's own program (myprint.py). -/
import Derived.Test.YtjfienkbcacijaaMFnExactUnderOfx0
import Derived.Test.YtjfienkbcacijaaMFnExactUnderOfx1
import Derived.Test.YtjfienkbcacijaaMFnExactUnderOfx3
import Derived.Test.YtjfienkbcacijaaMFnExactUnderOfx4
namespace Go.Proofs.Ytjfienkbcacijaa.MFnExactUnderOf
open Go.RowKit Go.Proofs.YtjfienkbcacijaaW.PrintWords Go.Proofs.YtjfienkbcacijaaW.PrintLast Go.Proofs.YtjfienkbcacijaaW.PrintMore
attribute [local go_sem] max2_int min2_int max_two min_two max_three min_three max_four min_four   -- for this text's walks alone
set_option linter.unusedVariables false
set_option linter.unusedSimpArgs false

theorem x5_put {P : Prop} (h : P := by simp only [Act.put, List.setIfInBounds_toArray, List.set_cons_zero, List.set_cons_succ, i64_w, i32_w]; rfl) : P := h
theorem z5_1 {P : Prop} (h : P := by repeat (first | (with_reducible first | exact HB.out | apply below_alloc | apply pw_below_drewN | apply below_drew1) | exact HB.out)) : P := h
theorem z5_2 {P : Prop} (h : P := by (try simp only [List.map_toArray, List.map_cons, List.map_nil]); first | done | rfl | (simp only [List.length_drop, List.length_take]; rfl)) : P := h
theorem z5_3 {P : Prop} (h : P := by repeat (first | (with_reducible first | exact HB.out | apply below_alloc | apply pw_below_drewN | apply below_drew1 | refine below_set ?_ GE268.out | refine below_set ?_ GE269.out) | exact HB.out)) : P := h
theorem z5_4 {P : Prop} (h : P := by repeat (first | (with_reducible first | exact HK.out | apply Kept.alloc | apply Kept.drewN | apply Kept.drew) | exact HK.out)) : P := h
theorem z5_5 {P : Prop} (h : P := by repeat (first | (with_reducible first | exact HB.out | apply below_alloc | apply pw_below_drewN | apply below_drew1 | refine below_set ?_ GE268.out) | exact HB.out)) : P := h
theorem z5_6 {P : Prop} (h : P := by repeat (first | (with_reducible first | exact HB.out | apply below_alloc | apply pw_below_drewN | apply below_drew1 | refine below_set ?_ GE278.out) | exact HB.out)) : P := h
theorem z5_7 {P : Prop} (h : P := by first | rfl | (simp [errW_none, errW_some] <;> rfl) | (simp [*, errW_none, errW_some] <;> rfl)) : P := h
theorem z5_8 {P : Prop} (h : P := by first | (rw [hy_]; with_reducible exact H) | (have H2_ := (Option.bind_some _ _).symm.trans H; rw [hy_]; with_reducible exact H2_) | (have H2_ := (Option.bind_some _ _).symm.trans H; with_reducible exact H2_) | with_reducible exact H | (rw [hy_]; exact H) | exact H) : P := h
theorem z5_9 {P : Prop} (h : P := by repeat (first | (with_reducible first | exact HB.out | apply below_alloc | apply pw_below_drewN | apply below_drew1 | refine below_set ?_ GE278.out | refine below_set ?_ GE279.out) | exact HB.out)) : P := h
/-! ### laws_eqNode: function 90 -/
def laws_eqNode.f (k : Nat) (a0_0 : Int) (a0_1 : Int) (a0_2 : Bool) (a0_3 : Int) (a0_4 : Int) (a0_5 : Int) (a0_6 : Int) (a0_7 : Int) (a0_8 : Int) (l0_9 : List Int) (l0_10 : List (S29)) (a0_11 : Bool) (a0_12 : Int) (l0_13 : List Int) (a0_14 : Int) (a0_15 : Int) (a0_16 : Int) (a0_17 : Int) (a0_18 : Int) (a0_19 : Int) (a0_20 : Int) (a0_21 : Int) (a0_22 : Int) (a0_23 : Int) (a0_24 : Int) (a0_25 : Int) (a0_26 : Int) (a0_27 : Int) (a0_28 : Int) (l0_29 : List Int) (l0_30 : List (S29)) (a1_0 : Int) (a1_1 : Int) (a1_2 : Bool) (a1_3 : Int) (a1_4 : Int) (a1_5 : Int) (a1_6 : Int) (a1_7 : Int) (a1_8 : Int) (l1_9 : List Int) (l1_10 : List (S29)) (a1_11 : Bool) (a1_12 : Int) (l1_13 : List Int) (a1_14 : Int) (a1_15 : Int) (a1_16 : Int) (a1_17 : Int) (a1_18 : Int) (a1_19 : Int) (a1_20 : Int) (a1_21 : Int) (a1_22 : Int) (a1_23 : Int) (a1_24 : Int) (a1_25 : Int) (a1_26 : Int) (a1_27 : Int) (a1_28 : Int) (l1_29 : List Int) (l1_30 : List (S29)) : Option (Bool) := if a0_0 = a1_0 then (if a0_1 = a1_1 then (if (a0_2 != a1_2) = true then (some false) else ((laws_eqMat.f a0_3 a0_4 a0_5 a0_6 a0_7 a0_8 a1_3 a1_4 a1_5 a1_6 a1_7 a1_8).bind fun t270 => (if t270 = true then ((laws_eqPath.f k l0_9 l0_10 l1_9 l1_10).bind fun t271 => (if t271 = true then (if (a0_11 != a1_11) = true then (some false) else (if a0_12 = a1_12 then ((laws_eqIntS.f k l0_13 l1_13).bind fun t272 => (if t272 = true then ((laws_eqPaint.f a0_14 a0_15 a0_16 a0_17 a0_18 a0_19 a0_20 a0_21 a0_22 a0_23 a0_24 a0_25 a0_26 a1_14 a1_15 a1_16 a1_17 a1_18 a1_19 a1_20 a1_21 a1_22 a1_23 a1_24 a1_25 a1_26).bind fun t273 => (if t273 = true then (if a0_27 = a1_27 then (if a0_28 = a1_28 then ((laws_eqPath.f k l0_29 l0_30 l1_29 l1_30).bind fun t274 => (if t274 = true then (some true) else (some false))) else (some false)) else (some false)) else (some false))) else (some false))) else (some false))) else (some false))) else (some false)))) else (some false)) else (some false)
theorem laws_eqNode.mono : ∀ a0 a1 a2 a3 a4 a5 a6 a7 a8 a9 a10 a11 a12 a13 a14 a15 a16 a17 a18 a19 a20 a21 a22 a23 a24 a25 a26 a27 a28 a29 a30 a31 a32 a33 a34 a35 a36 a37 a38 a39 a40 a41 a42 a43 a44 a45 a46 a47 a48 a49 a50 a51 a52 a53 a54 a55 a56 a57 a58 a59 a60 a61 k, LeO (laws_eqNode.f k a0 a1 a2 a3 a4 a5 a6 a7 a8 a9 a10 a11 a12 a13 a14 a15 a16 a17 a18 a19 a20 a21 a22 a23 a24 a25 a26 a27 a28 a29 a30 a31 a32 a33 a34 a35 a36 a37 a38 a39 a40 a41 a42 a43 a44 a45 a46 a47 a48 a49 a50 a51 a52 a53 a54 a55 a56 a57 a58 a59 a60 a61) (laws_eqNode.f (k + 1) a0 a1 a2 a3 a4 a5 a6 a7 a8 a9 a10 a11 a12 a13 a14 a15 a16 a17 a18 a19 a20 a21 a22 a23 a24 a25 a26 a27 a28 a29 a30 a31 a32 a33 a34 a35 a36 a37 a38 a39 a40 a41 a42 a43 a44 a45 a46 a47 a48 a49 a50 a51 a52 a53 a54 a55 a56 a57 a58 a59 a60 a61) := by
 intro a0 a1 a2 a3 a4 a5 a6 a7 a8 a9 a10 a11 a12 a13 a14 a15 a16 a17 a18 a19 a20 a21 a22 a23 a24 a25 a26 a27 a28 a29 a30 a31 a32 a33 a34 a35 a36 a37 a38 a39 a40 a41 a42 a43 a44 a45 a46 a47 a48 a49 a50 a51 a52 a53 a54 a55 a56 a57 a58 a59 a60 a61 k
 unfold laws_eqNode.f
 repeat' first
   | (with_reducible exact laws_eqIntS.mono _ _ _)
   | (with_reducible exact laws_eqPath.mono _ _ _ _ _)
   | (with_reducible exact LeO.refl _)
   | (with_reducible exact LeO.none _)
   | (with_reducible refine LeO.ite ?_ ?_)
   | (with_reducible refine LeO.bind ?_ (fun _ => ?_))
set_option maxHeartbeats 8000000 in
set_option maxRecDepth 100000 in
theorem laws_eqNode.calls (k : Nat) (a0_0 : Int) (a0_1 : Int) (a0_2 : Bool) (a0_3 : Int) (a0_4 : Int) (a0_5 : Int) (a0_6 : Int) (a0_7 : Int) (a0_8 : Int) (A0_9 : Option Addr) (c0_9 : Nat) (l0_9 : List Int) (A0_10 : Option Addr) (c0_10 : Nat) (l0_10 : List (S29)) (a0_11 : Bool) (a0_12 : Int) (A0_13 : Option Addr) (c0_13 : Nat) (l0_13 : List Int) (a0_14 : Int) (a0_15 : Int) (a0_16 : Int) (a0_17 : Int) (a0_18 : Int) (a0_19 : Int) (a0_20 : Int) (a0_21 : Int) (a0_22 : Int) (a0_23 : Int) (a0_24 : Int) (a0_25 : Int) (a0_26 : Int) (a0_27 : Int) (a0_28 : Int) (A0_29 : Option Addr) (c0_29 : Nat) (l0_29 : List Int) (A0_30 : Option Addr) (c0_30 : Nat) (l0_30 : List (S29)) (a1_0 : Int) (a1_1 : Int) (a1_2 : Bool) (a1_3 : Int) (a1_4 : Int) (a1_5 : Int) (a1_6 : Int) (a1_7 : Int) (a1_8 : Int) (A1_9 : Option Addr) (c1_9 : Nat) (l1_9 : List Int) (A1_10 : Option Addr) (c1_10 : Nat) (l1_10 : List (S29)) (a1_11 : Bool) (a1_12 : Int) (A1_13 : Option Addr) (c1_13 : Nat) (l1_13 : List Int) (a1_14 : Int) (a1_15 : Int) (a1_16 : Int) (a1_17 : Int) (a1_18 : Int) (a1_19 : Int) (a1_20 : Int) (a1_21 : Int) (a1_22 : Int) (a1_23 : Int) (a1_24 : Int) (a1_25 : Int) (a1_26 : Int) (a1_27 : Int) (a1_28 : Int) (A1_29 : Option Addr) (c1_29 : Nat) (l1_29 : List Int) (A1_30 : Option Addr) (c1_30 : Nat) (l1_30 : List (S29)) (r : Bool) (w : World) (hr0_9 : Kd.C (Kd.int .i64) w A0_9 l0_9.length l0_9) (hc0_9 : l0_9.length ≤ c0_9) (hr0_10 : Kd.C k29 w A0_10 l0_10.length l0_10) (hc0_10 : l0_10.length ≤ c0_10) (hr0_13 : Kd.C (Kd.int .i64) w A0_13 l0_13.length l0_13) (hc0_13 : l0_13.length ≤ c0_13) (hr0_29 : Kd.C (Kd.int .i64) w A0_29 l0_29.length l0_29) (hc0_29 : l0_29.length ≤ c0_29) (hr0_30 : Kd.C k29 w A0_30 l0_30.length l0_30) (hc0_30 : l0_30.length ≤ c0_30) (hr1_9 : Kd.C (Kd.int .i64) w A1_9 l1_9.length l1_9) (hc1_9 : l1_9.length ≤ c1_9) (hr1_10 : Kd.C k29 w A1_10 l1_10.length l1_10) (hc1_10 : l1_10.length ≤ c1_10) (hr1_13 : Kd.C (Kd.int .i64) w A1_13 l1_13.length l1_13) (hc1_13 : l1_13.length ≤ c1_13) (hr1_29 : Kd.C (Kd.int .i64) w A1_29 l1_29.length l1_29) (hc1_29 : l1_29.length ≤ c1_29) (hr1_30 : Kd.C k29 w A1_30 l1_30.length l1_30) (hc1_30 : l1_30.length ≤ c1_30) (hT : r = true) (h : laws_eqNode.f k a0_0 a0_1 a0_2 a0_3 a0_4 a0_5 a0_6 a0_7 a0_8 l0_9 l0_10 a0_11 a0_12 l0_13 a0_14 a0_15 a0_16 a0_17 a0_18 a0_19 a0_20 a0_21 a0_22 a0_23 a0_24 a0_25 a0_26 a0_27 a0_28 l0_29 l0_30 a1_0 a1_1 a1_2 a1_3 a1_4 a1_5 a1_6 a1_7 a1_8 l1_9 l1_10 a1_11 a1_12 l1_13 a1_14 a1_15 a1_16 a1_17 a1_18 a1_19 a1_20 a1_21 a1_22 a1_23 a1_24 a1_25 a1_26 a1_27 a1_28 l1_29 l1_30 = some r) :
  Calls Try.prog 90 #[.agg #[.int .i64 a0_0, .int .i64 a0_1, .bool a0_2, .int .i64 a0_3, .int .i64 a0_4, .int .i64 a0_5, .int .i64 a0_6, .int .i64 a0_7, .int .i64 a0_8, .slice A0_9 l0_9.length c0_9, .slice A0_10 l0_10.length c0_10, .bool a0_11, .int .i64 a0_12, .slice A0_13 l0_13.length c0_13, .int .i64 a0_14, .int .i64 a0_15, .int .i64 a0_16, .int .i64 a0_17, .int .i64 a0_18, .int .i64 a0_19, .int .i64 a0_20, .int .i64 a0_21, .int .i64 a0_22, .int .i64 a0_23, .int .i64 a0_24, .int .i64 a0_25, .int .i64 a0_26, .int .i64 a0_27, .int .i64 a0_28, .slice A0_29 l0_29.length c0_29, .slice A0_30 l0_30.length c0_30], .agg #[.int .i64 a1_0, .int .i64 a1_1, .bool a1_2, .int .i64 a1_3, .int .i64 a1_4, .int .i64 a1_5, .int .i64 a1_6, .int .i64 a1_7, .int .i64 a1_8, .slice A1_9 l1_9.length c1_9, .slice A1_10 l1_10.length c1_10, .bool a1_11, .int .i64 a1_12, .slice A1_13 l1_13.length c1_13, .int .i64 a1_14, .int .i64 a1_15, .int .i64 a1_16, .int .i64 a1_17, .int .i64 a1_18, .int .i64 a1_19, .int .i64 a1_20, .int .i64 a1_21, .int .i64 a1_22, .int .i64 a1_23, .int .i64 a1_24, .int .i64 a1_25, .int .i64 a1_26, .int .i64 a1_27, .int .i64 a1_28, .slice A1_29 l1_29.length c1_29, .slice A1_30 l1_30.length c1_30]] w fun e w' => e = .returned (.bool r) ∧ Below w.heap.size w w' := by
 have hu69 := Try.underlying69
 have hu61 := Try.underlying61
 have hu63 := Try.underlying63
 have hu67 := Try.underlying67
 have HR0_9 := mk0 hr0_9
 have HC0_9 := mk0 hc0_9
 clear hr0_9 hc0_9
 have HR0_10 := mk0 hr0_10
 have HC0_10 := mk0 hc0_10
 clear hr0_10 hc0_10
 have HR0_13 := mk0 hr0_13
 have HC0_13 := mk0 hc0_13
 clear hr0_13 hc0_13
 have HR0_29 := mk0 hr0_29
 have HC0_29 := mk0 hc0_29
 clear hr0_29 hc0_29
 have HR0_30 := mk0 hr0_30
 have HC0_30 := mk0 hc0_30
 clear hr0_30 hc0_30
 have HR1_9 := mk0 hr1_9
 have HC1_9 := mk0 hc1_9
 clear hr1_9 hc1_9
 have HR1_10 := mk0 hr1_10
 have HC1_10 := mk0 hc1_10
 clear hr1_10 hc1_10
 have HR1_13 := mk0 hr1_13
 have HC1_13 := mk0 hc1_13
 clear hr1_13 hc1_13
 have HR1_29 := mk0 hr1_29
 have HC1_29 := mk0 hc1_29
 clear hr1_29 hc1_29
 have HR1_30 := mk0 hr1_30
 have HC1_30 := mk0 hc1_30
 clear hr1_30 hc1_30
 have HB := mk0 (Below.refl w.heap.size w)
 have H : (if a0_0 = a1_0 then (if a0_1 = a1_1 then (if (a0_2 != a1_2) = true then (some false) else ((laws_eqMat.f a0_3 a0_4 a0_5 a0_6 a0_7 a0_8 a1_3 a1_4 a1_5 a1_6 a1_7 a1_8).bind fun t270 => (if t270 = true then ((laws_eqPath.f k l0_9 l0_10 l1_9 l1_10).bind fun t271 => (if t271 = true then (if (a0_11 != a1_11) = true then (some false) else (if a0_12 = a1_12 then ((laws_eqIntS.f k l0_13 l1_13).bind fun t272 => (if t272 = true then ((laws_eqPaint.f a0_14 a0_15 a0_16 a0_17 a0_18 a0_19 a0_20 a0_21 a0_22 a0_23 a0_24 a0_25 a0_26 a1_14 a1_15 a1_16 a1_17 a1_18 a1_19 a1_20 a1_21 a1_22 a1_23 a1_24 a1_25 a1_26).bind fun t273 => (if t273 = true then (if a0_27 = a1_27 then (if a0_28 = a1_28 then ((laws_eqPath.f k l0_29 l0_30 l1_29 l1_30).bind fun t274 => (if t274 = true then (some true) else (some false))) else (some false)) else (some false)) else (some false))) else (some false))) else (some false))) else (some false))) else (some false)))) else (some false)) else (some false)) = some r := h
 clear h
 by_cases c3 : a0_0 = a1_0
 rotate_left
 ·rw [if_neg c3] at H
  have c3b0 : (a0_0 == a1_0) = false := beq_eq_false_iff_ne.mpr c3
  have c3b1 : (a0_0 != a1_0) = true := bne_iff_ne.mpr c3
  obtain rfl := Option.some.inj H
  exact absurd hT Bool.false_ne_true
 rw [if_pos c3] at H
 have c3b0 : (a0_0 == a1_0) = true := beq_iff_eq.mpr c3
 have c3b1 : (a0_0 != a1_0) = false := bne_eq_false_iff_eq.mpr c3
 clear c3
 by_cases c4 : a0_1 = a1_1
 rotate_left
 ·rw [if_neg c4] at H
  have c4b0 : (a0_1 == a1_1) = false := beq_eq_false_iff_ne.mpr c4
  have c4b1 : (a0_1 != a1_1) = true := bne_iff_ne.mpr c4
  obtain rfl := Option.some.inj H
  exact absurd hT Bool.false_ne_true
 rw [if_pos c4] at H
 have c4b0 : (a0_1 == a1_1) = true := beq_iff_eq.mpr c4
 have c4b1 : (a0_1 != a1_1) = false := bne_eq_false_iff_eq.mpr c4
 clear c4
 by_cases c5 : (a0_2 != a1_2) = true
 ·rw [if_pos c5] at H
  have c5b0 : (a0_2 != a1_2) = true := c5
  (try (have c5b1 : decide (a0_2 = a1_2) = false := by simpa using c5))
  (try (have c5b2 : (a0_2 == a1_2) = false := by simpa using c5))
  (try (have c5b3 : ¬ (a0_2 = a1_2) := by simpa using c5))
  clear c5
  obtain rfl := Option.some.inj H
  exact absurd hT Bool.false_ne_true
 rw [if_neg c5] at H
 have c5b0 : (a0_2 != a1_2) = false := by simpa using c5
 (try (have c5b1 : decide (a0_2 = a1_2) = true := by simpa using c5))
 (try (have c5b2 : (a0_2 == a1_2) = true := by simpa using c5))
 clear c5
 replace H := Option.bind_eq_some_iff.mp H
 obtain ⟨t270, A60, H⟩ := H
 try dsimp only at H
 have A6 := mk0 A60
 clear A60
 by_cases c7 : t270 = true
 rotate_left
 ·replace c7 := Bool.eq_false_iff.mpr c7
  subst c7
  rw [if_neg (show ¬ (false = true) by decide)] at H
  obtain rfl := Option.some.inj H
  exact absurd hT Bool.false_ne_true
 subst c7
 rw [if_pos rfl] at H
 replace H := Option.bind_eq_some_iff.mp H
 obtain ⟨t271, A80, H⟩ := H
 try dsimp only at H
 have A8 := mk0 A80
 clear A80
 by_cases c9 : t271 = true
 rotate_left
 ·replace c9 := Bool.eq_false_iff.mpr c9
  subst c9
  rw [if_neg (show ¬ (false = true) by decide)] at H
  obtain rfl := Option.some.inj H
  exact absurd hT Bool.false_ne_true
 subst c9
 rw [if_pos rfl] at H
 by_cases c10 : (a0_11 != a1_11) = true
 ·rw [if_pos c10] at H
  have c10b0 : (a0_11 != a1_11) = true := c10
  (try (have c10b1 : decide (a0_11 = a1_11) = false := by simpa using c10))
  (try (have c10b2 : (a0_11 == a1_11) = false := by simpa using c10))
  (try (have c10b3 : ¬ (a0_11 = a1_11) := by simpa using c10))
  clear c10
  obtain rfl := Option.some.inj H
  exact absurd hT Bool.false_ne_true
 rw [if_neg c10] at H
 have c10b0 : (a0_11 != a1_11) = false := by simpa using c10
 (try (have c10b1 : decide (a0_11 = a1_11) = true := by simpa using c10))
 (try (have c10b2 : (a0_11 == a1_11) = true := by simpa using c10))
 clear c10
 by_cases c11 : a0_12 = a1_12
 rotate_left
 ·rw [if_neg c11] at H
  have c11b0 : (a0_12 == a1_12) = false := beq_eq_false_iff_ne.mpr c11
  have c11b1 : (a0_12 != a1_12) = true := bne_iff_ne.mpr c11
  obtain rfl := Option.some.inj H
  exact absurd hT Bool.false_ne_true
 rw [if_pos c11] at H
 have c11b0 : (a0_12 == a1_12) = true := beq_iff_eq.mpr c11
 have c11b1 : (a0_12 != a1_12) = false := bne_eq_false_iff_eq.mpr c11
 clear c11
 replace H := Option.bind_eq_some_iff.mp H
 obtain ⟨t272, A120, H⟩ := H
 try dsimp only at H
 have A12 := mk0 A120
 clear A120
 by_cases c13 : t272 = true
 rotate_left
 ·replace c13 := Bool.eq_false_iff.mpr c13
  subst c13
  rw [if_neg (show ¬ (false = true) by decide)] at H
  obtain rfl := Option.some.inj H
  exact absurd hT Bool.false_ne_true
 subst c13
 rw [if_pos rfl] at H
 replace H := Option.bind_eq_some_iff.mp H
 obtain ⟨t273, A140, H⟩ := H
 try dsimp only at H
 have A14 := mk0 A140
 clear A140
 by_cases c15 : t273 = true
 rotate_left
 ·replace c15 := Bool.eq_false_iff.mpr c15
  subst c15
  rw [if_neg (show ¬ (false = true) by decide)] at H
  obtain rfl := Option.some.inj H
  exact absurd hT Bool.false_ne_true
 subst c15
 rw [if_pos rfl] at H
 by_cases c16 : a0_27 = a1_27
 rotate_left
 ·rw [if_neg c16] at H
  have c16b0 : (a0_27 == a1_27) = false := beq_eq_false_iff_ne.mpr c16
  have c16b1 : (a0_27 != a1_27) = true := bne_iff_ne.mpr c16
  obtain rfl := Option.some.inj H
  exact absurd hT Bool.false_ne_true
 rw [if_pos c16] at H
 have c16b0 : (a0_27 == a1_27) = true := beq_iff_eq.mpr c16
 have c16b1 : (a0_27 != a1_27) = false := bne_eq_false_iff_eq.mpr c16
 clear c16
 by_cases c17 : a0_28 = a1_28
 rotate_left
 ·rw [if_neg c17] at H
  have c17b0 : (a0_28 == a1_28) = false := beq_eq_false_iff_ne.mpr c17
  have c17b1 : (a0_28 != a1_28) = true := bne_iff_ne.mpr c17
  obtain rfl := Option.some.inj H
  exact absurd hT Bool.false_ne_true
 rw [if_pos c17] at H
 have c17b0 : (a0_28 == a1_28) = true := beq_iff_eq.mpr c17
 have c17b1 : (a0_28 != a1_28) = false := bne_eq_false_iff_eq.mpr c17
 clear c17
 replace H := Option.bind_eq_some_iff.mp H
 obtain ⟨t274, A180, H⟩ := H
 try dsimp only at H
 have A18 := mk0 A180
 clear A180
 by_cases c19 : t274 = true
 rotate_left
 ·replace c19 := Bool.eq_false_iff.mpr c19
  subst c19
  rw [if_neg (show ¬ (false = true) by decide)] at H
  obtain rfl := Option.some.inj H
  exact absurd hT Bool.false_ne_true
 subst c19
 rw [if_pos rfl] at H
 obtain rfl := Option.some.inj H
 simp only [Option.some.injEq, Prod.mk.injEq] at H
 obtain ⟨rfl⟩ := H
 go_enter Try.func90, Try.ntmps90
 go_wp2_with (first | ((with_reducible refine gate_dst (N := 2) rfl ?_); refine boxz (cs := #[.int .i64 a0_0, .int .i64 a0_1, .bool a0_2, .int .i64 a0_3, .int .i64 a0_4, .int .i64 a0_5, .int .i64 a0_6, .int .i64 a0_7, .int .i64 a0_8, .slice A0_9 l0_9.length c0_9, .slice A0_10 l0_10.length c0_10, .bool a0_11, .int .i64 a0_12, .slice A0_13 l0_13.length c0_13, .int .i64 a0_14, .int .i64 a0_15, .int .i64 a0_16, .int .i64 a0_17, .int .i64 a0_18, .int .i64 a0_19, .int .i64 a0_20, .int .i64 a0_21, .int .i64 a0_22, .int .i64 a0_23, .int .i64 a0_24, .int .i64 a0_25, .int .i64 a0_26, .int .i64 a0_27, .int .i64 a0_28, .slice A0_29 l0_29.length c0_29, .slice A0_30 l0_30.length c0_30]) (t := 69) rfl ?_; intro gb268 hg w20 hbox hb; have n0_ := mk0 (below_step z5_1 hb); have n1_ := mk0 (hbox); have GW268 := mk0 (ge_go (a := w.heap.size) hg (below_size z5_1)); have GE268 := GW268; clear HB; have HB := n0_; have BK268 := n1_; clear n0_ n1_ ; clear hb hbox hg) | ((with_reducible refine gate_dst (N := 3) rfl ?_); refine boxz (cs := #[.int .i64 a1_0, .int .i64 a1_1, .bool a1_2, .int .i64 a1_3, .int .i64 a1_4, .int .i64 a1_5, .int .i64 a1_6, .int .i64 a1_7, .int .i64 a1_8, .slice A1_9 l1_9.length c1_9, .slice A1_10 l1_10.length c1_10, .bool a1_11, .int .i64 a1_12, .slice A1_13 l1_13.length c1_13, .int .i64 a1_14, .int .i64 a1_15, .int .i64 a1_16, .int .i64 a1_17, .int .i64 a1_18, .int .i64 a1_19, .int .i64 a1_20, .int .i64 a1_21, .int .i64 a1_22, .int .i64 a1_23, .int .i64 a1_24, .int .i64 a1_25, .int .i64 a1_26, .int .i64 a1_27, .int .i64 a1_28, .slice A1_29 l1_29.length c1_29, .slice A1_30 l1_30.length c1_30]) (t := 69) rfl ?_; intro gb269 hg w21 hbox hb; have n0_ := mk0 (blk_belowB BK268 (pkb BK268) hb); have n1_ := mk0 (below_step z5_5 hb); have n2_ := mk0 (hbox); have GW269 := mk0 (ge_go (a := w.heap.size) hg (below_size z5_5)); have GE269 := GW269; have NB268_269 := mk0 (nb_lt hg (blk_ltB BK268 (pkb BK268))); have NB269_268 := mk0 (nb_gt hg (blk_ltB BK268 (pkb BK268))); clear BK268 HB; have BK268 := n0_; have HB := n1_; have BK269 := n2_; clear n0_ n1_ n2_ ; clear hb hbox hg; have hnb22 := NB268_269.out; have hnc22 := NB269_268.out; obtain ⟨_, _, _, _, _, _, _, _, _, _, _, _, _, _, _, _, _, _, _, _, _, _, _, _, _, _, _, _, _, _, _, _, _, _, _, _, _, _, _, _, _, _, _, _, _, _, _, _, _, _, _, _, _, _, _, _, _, _, _, _, _, _⟩ := be_31 BK268.out; obtain ⟨_, _, _, _, _, _, _, _, _, _, _, _, _, _, _, _, _, _, _, _, _, _, _, _, _, _, _, _, _, _, _, _, _, _, _, _, _, _, _, _, _, _, _, _, _, _, _, _, _, _, _, _, _, _, _, _, _, _, _, _, _, _⟩ := be_31 BK269.out) | ((with_reducible refine gate_callee (f := 104) rfl ?_); refine goesL_ (some 24) rfl rfl Try.func104 (by kernel_rfl) rfl #[.agg #[.int .i64 a0_3, .int .i64 a0_4, .int .i64 a0_5, .int .i64 a0_6, .int .i64 a0_7, .int .i64 a0_8], .agg #[.int .i64 a1_3, .int .i64 a1_4, .int .i64 a1_5, .int .i64 a1_6, .int .i64 a1_7, .int .i64 a1_8]] rfl z5_2 ?_; (with_reducible refine (laws_eqMat.calls a0_3 a0_4 a0_5 a0_6 a0_7 a0_8 a1_3 a1_4 a1_5 a1_6 a1_7 a1_8 true _ A6.out).mono ?_); rintro e w25 ⟨rfl, hb⟩; refine ⟨_, rfl, ?_⟩; have n0_ := mk0 (blk_belowB BK268 (pkb BK268) hb); have n1_ := mk0 (blk_belowB BK269 (pkb BK269) hb); have n2_ := mk0 (below_step z5_3 hb); clear BK268 BK269 HB; have BK268 := n0_; have BK269 := n1_; have HB := n2_; clear n0_ n1_ n2_; (try clear hb); obtain ⟨_, _, _, _, _, _, _, _, _, _, _, _, _, _, _, _, _, _, _, _, _, _, _, _, _, _, _, _, _, _, _, _, _, _, _, _, _, _, _, _, _, _, _, _, _, _, _, _, _, _, _, _, _, _, _, _, _, _, _, _, _, _⟩ := be_31 BK268.out; obtain ⟨_, _, _, _, _, _, _, _, _, _, _, _, _, _, _, _, _, _, _, _, _, _, _, _, _, _, _, _, _, _, _, _, _, _, _, _, _, _, _, _, _, _, _, _, _, _, _, _, _, _, _, _, _, _, _, _, _, _, _, _, _, _⟩ := be_31 BK269.out) | ((with_reducible refine gate_callee (f := 105) rfl ?_); refine goesL_ (some 30) rfl rfl Try.func105 (by kernel_rfl) rfl #[.agg #[.slice A0_9 l0_9.length c0_9, .slice A0_10 l0_10.length c0_10], .agg #[.slice A1_9 l1_9.length c1_9, .slice A1_10 l1_10.length c1_10]] rfl z5_2 ?_; (with_reducible refine (laws_eqPath.calls k _ _ l0_9 _ _ l0_10 _ _ l1_9 _ _ l1_10 true _ ?side1 ?side2 ?side3 ?side4 ?side5 ?side6 ?side7 ?side8 A8.out).mono ?_); (case side1 => repeat (first | exact (Kd.C_below HR0_9.out HB.out) | (with_reducible refine Kd.C_alloc ?_ _) | (with_reducible refine Kd.C_drewN ?_ _) | (with_reducible refine Kd.C_drew ?_))); (case side2 => exact HC0_9.out); (case side3 => repeat (first | exact (Kd.C_below HR0_10.out HB.out) | (with_reducible refine Kd.C_alloc ?_ _) | (with_reducible refine Kd.C_drewN ?_ _) | (with_reducible refine Kd.C_drew ?_))); (case side4 => exact HC0_10.out); (case side5 => repeat (first | exact (Kd.C_below HR1_9.out HB.out) | (with_reducible refine Kd.C_alloc ?_ _) | (with_reducible refine Kd.C_drewN ?_ _) | (with_reducible refine Kd.C_drew ?_))); (case side6 => exact HC1_9.out); (case side7 => repeat (first | exact (Kd.C_below HR1_10.out HB.out) | (with_reducible refine Kd.C_alloc ?_ _) | (with_reducible refine Kd.C_drewN ?_ _) | (with_reducible refine Kd.C_drew ?_))); (case side8 => exact HC1_10.out); rintro e w28 ⟨rfl, hb⟩; refine ⟨_, rfl, ?_⟩; have n0_ := mk0 (blk_belowB BK268 (pkb BK268) hb); have n1_ := mk0 (blk_belowB BK269 (pkb BK269) hb); have n2_ := mk0 (below_step z5_3 hb); clear BK268 BK269 HB; have BK268 := n0_; have BK269 := n1_; have HB := n2_; clear n0_ n1_ n2_; (try clear hb); obtain ⟨_, _, _, _, _, _, _, _, _, _, _, _, _, _, _, _, _, _, _, _, _, _, _, _, _, _, _, _, _, _, _, _, _, _, _, _, _, _, _, _, _, _, _, _, _, _, _, _, _, _, _, _, _, _, _, _, _, _, _, _, _, _⟩ := be_31 BK268.out; obtain ⟨_, _, _, _, _, _, _, _, _, _, _, _, _, _, _, _, _, _, _, _, _, _, _, _, _, _, _, _, _, _, _, _, _, _, _, _, _, _, _, _, _, _, _, _, _, _, _, _, _, _, _, _, _, _, _, _, _, _, _, _, _, _⟩ := be_31 BK269.out) | ((with_reducible refine gate_callee (f := 24) rfl ?_); refine goesL_ (some 46) rfl rfl Try.func24 (by kernel_rfl) rfl #[.slice A0_13 l0_13.length c0_13, .slice A1_13 l1_13.length c1_13] rfl z5_2 ?_; (with_reducible refine (laws_eqIntS.calls k _ _ l0_13 _ _ l1_13 true _ ?side1 ?side2 ?side3 ?side4 A12.out).mono ?_); (case side1 => repeat (first | exact (Kd.C_below HR0_13.out HB.out) | (with_reducible refine Kd.C_alloc ?_ _) | (with_reducible refine Kd.C_drewN ?_ _) | (with_reducible refine Kd.C_drew ?_))); (case side2 => exact HC0_13.out); (case side3 => repeat (first | exact (Kd.C_below HR1_13.out HB.out) | (with_reducible refine Kd.C_alloc ?_ _) | (with_reducible refine Kd.C_drewN ?_ _) | (with_reducible refine Kd.C_drew ?_))); (case side4 => exact HC1_13.out); rintro e w' ⟨rfl, ⟨nd, rfl⟩⟩; refine ⟨_, rfl, ?_⟩) | ((with_reducible refine gate_callee (f := 106) rfl ?_); refine goesL_ (some 52) rfl rfl Try.func106 (by kernel_rfl) rfl #[.agg #[.int .i64 a0_14, .int .i64 a0_15, .int .i64 a0_16, .int .i64 a0_17, .int .i64 a0_18, .int .i64 a0_19, .int .i64 a0_20, .int .i64 a0_21, .int .i64 a0_22, .int .i64 a0_23, .int .i64 a0_24, .int .i64 a0_25, .int .i64 a0_26], .agg #[.int .i64 a1_14, .int .i64 a1_15, .int .i64 a1_16, .int .i64 a1_17, .int .i64 a1_18, .int .i64 a1_19, .int .i64 a1_20, .int .i64 a1_21, .int .i64 a1_22, .int .i64 a1_23, .int .i64 a1_24, .int .i64 a1_25, .int .i64 a1_26]] rfl z5_2 ?_; (with_reducible refine (laws_eqPaint.calls a0_14 a0_15 a0_16 a0_17 a0_18 a0_19 a0_20 a0_21 a0_22 a0_23 a0_24 a0_25 a0_26 a1_14 a1_15 a1_16 a1_17 a1_18 a1_19 a1_20 a1_21 a1_22 a1_23 a1_24 a1_25 a1_26 true _ A14.out).mono ?_); rintro e w31 ⟨rfl, hb⟩; refine ⟨_, rfl, ?_⟩; have n0_ := mk0 (blk_belowB BK268 (pkb BK268) hb); have n1_ := mk0 (blk_belowB BK269 (pkb BK269) hb); have n2_ := mk0 (below_step z5_3 hb); clear BK268 BK269 HB; have BK268 := n0_; have BK269 := n1_; have HB := n2_; clear n0_ n1_ n2_; (try clear hb); obtain ⟨_, _, _, _, _, _, _, _, _, _, _, _, _, _, _, _, _, _, _, _, _, _, _, _, _, _, _, _, _, _, _, _, _, _, _, _, _, _, _, _, _, _, _, _, _, _, _, _, _, _, _, _, _, _, _, _, _, _, _, _, _, _⟩ := be_31 BK268.out; obtain ⟨_, _, _, _, _, _, _, _, _, _, _, _, _, _, _, _, _, _, _, _, _, _, _, _, _, _, _, _, _, _, _, _, _, _, _, _, _, _, _, _, _, _, _, _, _, _, _, _, _, _, _, _, _, _, _, _, _, _, _, _, _, _⟩ := be_31 BK269.out) | ((with_reducible refine gate_callee (f := 105) rfl ?_); refine goesL_ (some 68) rfl rfl Try.func105 (by kernel_rfl) rfl #[.agg #[.slice A0_29 l0_29.length c0_29, .slice A0_30 l0_30.length c0_30], .agg #[.slice A1_29 l1_29.length c1_29, .slice A1_30 l1_30.length c1_30]] rfl z5_2 ?_; (with_reducible refine (laws_eqPath.calls k _ _ l0_29 _ _ l0_30 _ _ l1_29 _ _ l1_30 true _ ?side1 ?side2 ?side3 ?side4 ?side5 ?side6 ?side7 ?side8 A18.out).mono ?_); (case side1 => repeat (first | exact (Kd.C_below HR0_29.out HB.out) | (with_reducible refine Kd.C_alloc ?_ _) | (with_reducible refine Kd.C_drewN ?_ _) | (with_reducible refine Kd.C_drew ?_))); (case side2 => exact HC0_29.out); (case side3 => repeat (first | exact (Kd.C_below HR0_30.out HB.out) | (with_reducible refine Kd.C_alloc ?_ _) | (with_reducible refine Kd.C_drewN ?_ _) | (with_reducible refine Kd.C_drew ?_))); (case side4 => exact HC0_30.out); (case side5 => repeat (first | exact (Kd.C_below HR1_29.out HB.out) | (with_reducible refine Kd.C_alloc ?_ _) | (with_reducible refine Kd.C_drewN ?_ _) | (with_reducible refine Kd.C_drew ?_))); (case side6 => exact HC1_29.out); (case side7 => repeat (first | exact (Kd.C_below HR1_30.out HB.out) | (with_reducible refine Kd.C_alloc ?_ _) | (with_reducible refine Kd.C_drewN ?_ _) | (with_reducible refine Kd.C_drew ?_))); (case side8 => exact HC1_30.out); rintro e w34 ⟨rfl, hb⟩; refine ⟨_, rfl, ?_⟩; have n0_ := mk0 (blk_belowB BK268 (pkb BK268) hb); have n1_ := mk0 (blk_belowB BK269 (pkb BK269) hb); have n2_ := mk0 (below_step z5_3 hb); clear BK268 BK269 HB; have BK268 := n0_; have BK269 := n1_; have HB := n2_; clear n0_ n1_ n2_; (try clear hb)))
 go_ret
 exact ⟨z5_7, z5_3⟩

/-! ### laws_eqNodeS: function 68 -/
def laws_eqNodeS.l0 : Nat → List (S69) → List (S69) → Int → Option (Bool)
 | 0, _, _, _ => none
 | k + 1, x0, x1, x5 => if x5 < (x0.length : Int) then (if 0 ≤ x5 then (if x5 < (x1.length : Int) then ((laws_eqNode.f k ((rd_T69 x0 x5).f0) ((rd_T69 x0 x5).f1) ((rd_T69 x0 x5).f2) ((rd_T69 x0 x5).f3.f0) ((rd_T69 x0 x5).f3.f1) ((rd_T69 x0 x5).f3.f2) ((rd_T69 x0 x5).f3.f3) ((rd_T69 x0 x5).f3.f4) ((rd_T69 x0 x5).f3.f5) ((rd_T69 x0 x5).f4.f0) ((rd_T69 x0 x5).f4.f1) ((rd_T69 x0 x5).f5) ((rd_T69 x0 x5).f6) ((rd_T69 x0 x5).f7) ((rd_T69 x0 x5).f8.f0) ((rd_T69 x0 x5).f8.f1.f0) ((rd_T69 x0 x5).f8.f1.f1) ((rd_T69 x0 x5).f8.f1.f2) ((rd_T69 x0 x5).f8.f1.f3) ((rd_T69 x0 x5).f8.f2.f0) ((rd_T69 x0 x5).f8.f2.f1) ((rd_T69 x0 x5).f8.f2.f2) ((rd_T69 x0 x5).f8.f2.f3) ((rd_T69 x0 x5).f8.f3.f0) ((rd_T69 x0 x5).f8.f3.f1) ((rd_T69 x0 x5).f8.f4.f0) ((rd_T69 x0 x5).f8.f4.f1) ((rd_T69 x0 x5).f9) ((rd_T69 x0 x5).f10) ((rd_T69 x0 x5).f11.f0) ((rd_T69 x0 x5).f11.f1) ((rd_T69 x1 x5).f0) ((rd_T69 x1 x5).f1) ((rd_T69 x1 x5).f2) ((rd_T69 x1 x5).f3.f0) ((rd_T69 x1 x5).f3.f1) ((rd_T69 x1 x5).f3.f2) ((rd_T69 x1 x5).f3.f3) ((rd_T69 x1 x5).f3.f4) ((rd_T69 x1 x5).f3.f5) ((rd_T69 x1 x5).f4.f0) ((rd_T69 x1 x5).f4.f1) ((rd_T69 x1 x5).f5) ((rd_T69 x1 x5).f6) ((rd_T69 x1 x5).f7) ((rd_T69 x1 x5).f8.f0) ((rd_T69 x1 x5).f8.f1.f0) ((rd_T69 x1 x5).f8.f1.f1) ((rd_T69 x1 x5).f8.f1.f2) ((rd_T69 x1 x5).f8.f1.f3) ((rd_T69 x1 x5).f8.f2.f0) ((rd_T69 x1 x5).f8.f2.f1) ((rd_T69 x1 x5).f8.f2.f2) ((rd_T69 x1 x5).f8.f2.f3) ((rd_T69 x1 x5).f8.f3.f0) ((rd_T69 x1 x5).f8.f3.f1) ((rd_T69 x1 x5).f8.f4.f0) ((rd_T69 x1 x5).f8.f4.f1) ((rd_T69 x1 x5).f9) ((rd_T69 x1 x5).f10) ((rd_T69 x1 x5).f11.f0) ((rd_T69 x1 x5).f11.f1)).bind fun t277 => (if t277 = true then (laws_eqNodeS.l0 k x0 x1 (wrap64 (x5 + 1))) else (some false))) else (none)) else (none)) else (some true)
def laws_eqNodeS.f (k : Nat) (l0 : List (S69)) (l1 : List (S69)) : Option (Bool) := if (l0.length : Int) = (l1.length : Int) then (laws_eqNodeS.l0 k l0 l1 0) else (some false)
theorem laws_eqNodeS.mono_l : ∀ k, (∀ y0 y1 y2, LeO (laws_eqNodeS.l0 k y0 y1 y2) (laws_eqNodeS.l0 (k + 1) y0 y1 y2))
 | 0 => fun _ _ _ r h => by simp [laws_eqNodeS.l0] at h
 | k + 1 => by
  have ih0 := laws_eqNodeS.mono_l k
  ·intro y0 y1 y2
   unfold laws_eqNodeS.l0
   repeat' first
   | (with_reducible exact ih0 _ _ _)
   | (with_reducible exact laws_eqNode.mono _ _ _ _ _ _ _ _ _ _ _ _ _ _ _ _ _ _ _ _ _ _ _ _ _ _ _ _ _ _ _ _ _ _ _ _ _ _ _ _ _ _ _ _ _ _ _ _ _ _ _ _ _ _ _ _ _ _ _ _ _ _ _)
   | (with_reducible exact LeO.refl _)
   | (with_reducible exact LeO.none _)
   | (with_reducible refine LeO.ite ?_ ?_)
   | (with_reducible refine LeO.bind ?_ (fun _ => ?_))
theorem laws_eqNodeS.mono : ∀ a0 a1 k, LeO (laws_eqNodeS.f k a0 a1) (laws_eqNodeS.f (k + 1) a0 a1) := by
 intro a0 a1 k
 have ih0 := laws_eqNodeS.mono_l k
 unfold laws_eqNodeS.f
 repeat' first
   | (with_reducible exact ih0 _ _ _)
   | (with_reducible exact laws_eqNode.mono _ _ _ _ _ _ _ _ _ _ _ _ _ _ _ _ _ _ _ _ _ _ _ _ _ _ _ _ _ _ _ _ _ _ _ _ _ _ _ _ _ _ _ _ _ _ _ _ _ _ _ _ _ _ _ _ _ _ _ _ _ _ _)
   | (with_reducible exact LeO.refl _)
   | (with_reducible exact LeO.none _)
   | (with_reducible refine LeO.ite ?_ ?_)
   | (with_reducible refine LeO.bind ?_ (fun _ => ?_))
def laws_eqNodeS.T6 : Bool × List (List Nat × List Nat) := (true, [([], []), ([], []), ([0, 1], [0, 1]), ([2], [2]), ([], []), ([], []), ([4, 5], [4, 5]), ([6], [6]), ([3, 7], [3, 7]), ([8], [8])])
def laws_eqNodeS.B6 : List Nat := [0, 0, 3, 7, 0, 0, 48, 112, 255, 511]
theorem laws_eqNodeS.tab6 : rtab .any (opsOf Try.f68 6) = laws_eqNodeS.T6 := by kernel_rfl
theorem laws_eqNodeS.bits6 : waitsOk laws_eqNodeS.T6.2 laws_eqNodeS.B6 = true := by kernel_rfl
set_option maxHeartbeats 8000000 in
set_option maxRecDepth 100000 in
theorem laws_eqNodeS.calls (k : Nat) (A0 : Option Addr) (c0 : Nat) (l0 : List (S69)) (A1 : Option Addr) (c1 : Nat) (l1 : List (S69)) (r : Bool) (w : World) (hr0 : Kd.C k69 w A0 l0.length l0) (hc0 : l0.length ≤ c0) (hr1 : Kd.C k69 w A1 l1.length l1) (hc1 : l1.length ≤ c1) (hT : r = true) (h : laws_eqNodeS.f k l0 l1 = some r) :
  Calls Try.prog 68 #[.slice A0 l0.length c0, .slice A1 l1.length c1] w fun e w' => e = .returned (.bool r) ∧ Below w.heap.size w w' := by
 have hu69 := Try.underlying69
 have HR0 := mk0 hr0
 have HC0 := mk0 hc0
 clear hr0 hc0
 have HR1 := mk0 hr1
 have HC1 := mk0 hc1
 clear hr1 hc1
 have HB := mk0 (Below.refl w.heap.size w)
 have H : (if (l0.length : Int) = (l1.length : Int) then (laws_eqNodeS.l0 k l0 l1 0) else (some false)) = some r := h
 clear h
 by_cases c3 : (l0.length : Int) = (l1.length : Int)
 rotate_left
 ·rw [if_neg c3] at H
  have c3b0 : ((l0.length : Int) == (l1.length : Int)) = false := beq_eq_false_iff_ne.mpr c3
  have c3b1 : ((l0.length : Int) != (l1.length : Int)) = true := bne_iff_ne.mpr c3
  have c3b2 : (l0.length == l1.length) = false := by first | simpa using c3 | (simp at c3 ⊢; omega)
  obtain rfl := Option.some.inj H
  exact absurd hT Bool.false_ne_true
 rw [if_pos c3] at H
 have c3b0 : ((l0.length : Int) == (l1.length : Int)) = true := beq_iff_eq.mpr c3
 have c3b1 : ((l0.length : Int) != (l1.length : Int)) = false := bne_eq_false_iff_eq.mpr c3
 have c3b2 : (l0.length == l1.length) = true := by first | simpa using c3 | (simp at c3 ⊢; omega)
 clear c3
 have H' := mk0 H
 clear H
 go_enter Try.func68, Try.ntmps68
 go_wp2
 go_loopg [5] k (fun kq v5 w' => ∃ (x5_1 : Int), v5 = .int .i64 x5_1 ∧ Aside0 (laws_eqNodeS.l0 kq l0 l1 x5_1 = some r) ∧ Aside0 (kq ≤ k) ∧ Aside0 (Below w.heap.size w w'))
 case atStart => exact ⟨(0), rs0, H', ⟨Nat.le_refl _⟩, ⟨z5_1⟩⟩
 case round =>
  clear H'
  try clear c1
  try clear p2
  try clear c3
  try clear c3b0
  try clear c3b1
  try clear c3b2
  obtain ⟨x5_1, rfl, HA, HK1, HB⟩ := hrel
  cases gk with
  | zero => exact absurd HA.out (by simp [laws_eqNodeS.l0])
  | succ k1 =>
   have H := HA.out; clear HA
   simp only [laws_eqNodeS.l0] at H
   by_cases c4 : x5_1 < (l0.length : Int)
   rotate_left
   ·rw [if_neg c4] at H
    have c4b0 := decide_eq_false c4
    clear c4
    obtain rfl := Option.some.inj H
    simp only [Option.some.injEq, Prod.mk.injEq] at H
    obtain ⟨rfl⟩ := H
    go_wp2
    go_ret
    exact ⟨z5_7, z5_1⟩
   rw [if_pos c4] at H
   have c4b0 := decide_eq_true c4
   clear c4
   by_cases c5 : 0 ≤ x5_1
   rotate_left
   ·rw [if_neg c5] at H
    exact absurd H (by simp)
   rw [if_pos c5] at H
   have c5b0 := decide_eq_true c5
   clear c5
   by_cases c6 : x5_1 < (l1.length : Int)
   rotate_left
   ·rw [if_neg c6] at H
    exact absurd H (by simp)
   rw [if_pos c6] at H
   have c6b0 := decide_eq_true c6
   clear c6
   replace H := Option.bind_eq_some_iff.mp H
   obtain ⟨t277, A70, H⟩ := H
   try dsimp only at H
   have A7 := mk0 A70
   clear A70
   by_cases c8 : t277 = true
   rotate_left
   ·replace c8 := Bool.eq_false_iff.mpr c8
    subst c8
    rw [if_neg (show ¬ (false = true) by decide)] at H
    obtain rfl := Option.some.inj H
    exact absurd hT Bool.false_ne_true
   subst c8
   rw [if_pos rfl] at H
   have H' := mk0 H
   clear H
   try go_wp2
   have n0_ := mk0 (below_drew1 HB.out)
   clear HB; have HB := n0_; clear n0_
   have p275 : 0 ≤ (x5_1 : Int) := of_decide_eq_true (by first | (with_reducible assumption) | assumption)
   have q275 : x5_1 < (l0.length : Int) := of_decide_eq_true (by first | (with_reducible assumption) | assumption)
   obtain ⟨ad275, A275_9, c275_9, A275_10, c275_10, A275_13, c275_13, A275_29, c275_29, A275_30, c275_30, e275, hx275_0, hx275_1, hx275_2, hx275_3, hx275_4, hx275_5, hx275_6, hx275_7, hx275_8, hx275_9, hx275_10, hx275_11, hx275_12, hx275_13, hx275_14, hx275_15, hx275_16, hx275_17, hx275_18, hx275_19, hx275_20, hx275_21, hx275_22, hx275_23, hx275_24, hx275_25, hx275_26, hx275_27, hx275_28, hx275_29, hx275_30, hl275_9, hi275_9, hl275_10, hi275_10, hl275_13, hi275_13, hl275_29, hi275_29, hl275_30, hi275_30⟩ := at_T69 HR0.out x5_1 p275 q275
   have hM275 := lie_zero hx275_0 (lie_n hx275_1 (lie_n hx275_2 (lie_n hx275_3 (lie_n hx275_4 (lie_n hx275_5 (lie_n hx275_6 (lie_n hx275_7 (lie_n hx275_8 (lie_n hx275_9 (lie_n hx275_10 (lie_n hx275_11 (lie_n hx275_12 (lie_n hx275_13 (lie_n hx275_14 (lie_n hx275_15 (lie_n hx275_16 (lie_n hx275_17 (lie_n hx275_18 (lie_n hx275_19 (lie_n hx275_20 (lie_n hx275_21 (lie_n hx275_22 (lie_n hx275_23 (lie_n hx275_24 (lie_n hx275_25 (lie_n hx275_26 (lie_n hx275_27 (lie_n hx275_28 (lie_n hx275_29 (lie_n hx275_30 (lie_nil _ _ _)))))))))))))))))))))))))))))))
   have hw275_30 := hx275_30; have hw275_29 := hx275_29; have hw275_28 := hx275_28; have hw275_27 := hx275_27; have hw275_26 := hx275_26; have hw275_25 := hx275_25; have hw275_24 := hx275_24; have hw275_23 := hx275_23; have hw275_22 := hx275_22; have hw275_21 := hx275_21; have hw275_20 := hx275_20; have hw275_19 := hx275_19; have hw275_18 := hx275_18; have hw275_17 := hx275_17; have hw275_16 := hx275_16; have hw275_15 := hx275_15; have hw275_14 := hx275_14; have hw275_13 := hx275_13; have hw275_12 := hx275_12; have hw275_11 := hx275_11; have hw275_10 := hx275_10; have hw275_9 := hx275_9; have hw275_8 := hx275_8; have hw275_7 := hx275_7; have hw275_6 := hx275_6; have hw275_5 := hx275_5; have hw275_4 := hx275_4; have hw275_3 := hx275_3; have hw275_2 := hx275_2; have hw275_1 := hx275_1; have hw275_0 := hx275_0
   cases e275
   replace hx275_0 := cell_go HB hx275_0
   replace hx275_1 := cell_go HB hx275_1
   replace hx275_2 := cell_go HB hx275_2
   replace hx275_3 := cell_go HB hx275_3
   replace hx275_4 := cell_go HB hx275_4
   replace hx275_5 := cell_go HB hx275_5
   replace hx275_6 := cell_go HB hx275_6
   replace hx275_7 := cell_go HB hx275_7
   replace hx275_8 := cell_go HB hx275_8
   replace hx275_9 := cell_go HB hx275_9
   replace hx275_10 := cell_go HB hx275_10
   replace hx275_11 := cell_go HB hx275_11
   replace hx275_12 := cell_go HB hx275_12
   replace hx275_13 := cell_go HB hx275_13
   replace hx275_14 := cell_go HB hx275_14
   replace hx275_15 := cell_go HB hx275_15
   replace hx275_16 := cell_go HB hx275_16
   replace hx275_17 := cell_go HB hx275_17
   replace hx275_18 := cell_go HB hx275_18
   replace hx275_19 := cell_go HB hx275_19
   replace hx275_20 := cell_go HB hx275_20
   replace hx275_21 := cell_go HB hx275_21
   replace hx275_22 := cell_go HB hx275_22
   replace hx275_23 := cell_go HB hx275_23
   replace hx275_24 := cell_go HB hx275_24
   replace hx275_25 := cell_go HB hx275_25
   replace hx275_26 := cell_go HB hx275_26
   replace hx275_27 := cell_go HB hx275_27
   replace hx275_28 := cell_go HB hx275_28
   replace hx275_29 := cell_go HB hx275_29
   replace hx275_30 := cell_go HB hx275_30
   have HR275_9 := mk0 hi275_9
   have HC275_9 := mk0 hl275_9
   clear hi275_9 hl275_9
   have HR275_10 := mk0 hi275_10
   have HC275_10 := mk0 hl275_10
   clear hi275_10 hl275_10
   have HR275_13 := mk0 hi275_13
   have HC275_13 := mk0 hl275_13
   clear hi275_13 hl275_13
   have HR275_29 := mk0 hi275_29
   have HC275_29 := mk0 hl275_29
   clear hi275_29 hl275_29
   have HR275_30 := mk0 hi275_30
   have HC275_30 := mk0 hl275_30
   clear hi275_30 hl275_30
   replace p275 := eq_true p275
   replace q275 := eq_true q275
   have p276 : 0 ≤ (x5_1 : Int) := of_decide_eq_true (by first | (with_reducible assumption) | assumption)
   have q276 : x5_1 < (l1.length : Int) := of_decide_eq_true (by first | (with_reducible assumption) | assumption)
   obtain ⟨ad276, A276_9, c276_9, A276_10, c276_10, A276_13, c276_13, A276_29, c276_29, A276_30, c276_30, e276, hx276_0, hx276_1, hx276_2, hx276_3, hx276_4, hx276_5, hx276_6, hx276_7, hx276_8, hx276_9, hx276_10, hx276_11, hx276_12, hx276_13, hx276_14, hx276_15, hx276_16, hx276_17, hx276_18, hx276_19, hx276_20, hx276_21, hx276_22, hx276_23, hx276_24, hx276_25, hx276_26, hx276_27, hx276_28, hx276_29, hx276_30, hl276_9, hi276_9, hl276_10, hi276_10, hl276_13, hi276_13, hl276_29, hi276_29, hl276_30, hi276_30⟩ := at_T69 HR1.out x5_1 p276 q276
   have hM276 := lie_zero hx276_0 (lie_n hx276_1 (lie_n hx276_2 (lie_n hx276_3 (lie_n hx276_4 (lie_n hx276_5 (lie_n hx276_6 (lie_n hx276_7 (lie_n hx276_8 (lie_n hx276_9 (lie_n hx276_10 (lie_n hx276_11 (lie_n hx276_12 (lie_n hx276_13 (lie_n hx276_14 (lie_n hx276_15 (lie_n hx276_16 (lie_n hx276_17 (lie_n hx276_18 (lie_n hx276_19 (lie_n hx276_20 (lie_n hx276_21 (lie_n hx276_22 (lie_n hx276_23 (lie_n hx276_24 (lie_n hx276_25 (lie_n hx276_26 (lie_n hx276_27 (lie_n hx276_28 (lie_n hx276_29 (lie_n hx276_30 (lie_nil _ _ _)))))))))))))))))))))))))))))))
   have hw276_30 := hx276_30; have hw276_29 := hx276_29; have hw276_28 := hx276_28; have hw276_27 := hx276_27; have hw276_26 := hx276_26; have hw276_25 := hx276_25; have hw276_24 := hx276_24; have hw276_23 := hx276_23; have hw276_22 := hx276_22; have hw276_21 := hx276_21; have hw276_20 := hx276_20; have hw276_19 := hx276_19; have hw276_18 := hx276_18; have hw276_17 := hx276_17; have hw276_16 := hx276_16; have hw276_15 := hx276_15; have hw276_14 := hx276_14; have hw276_13 := hx276_13; have hw276_12 := hx276_12; have hw276_11 := hx276_11; have hw276_10 := hx276_10; have hw276_9 := hx276_9; have hw276_8 := hx276_8; have hw276_7 := hx276_7; have hw276_6 := hx276_6; have hw276_5 := hx276_5; have hw276_4 := hx276_4; have hw276_3 := hx276_3; have hw276_2 := hx276_2; have hw276_1 := hx276_1; have hw276_0 := hx276_0
   cases e276
   replace hx276_0 := cell_go HB hx276_0
   replace hx276_1 := cell_go HB hx276_1
   replace hx276_2 := cell_go HB hx276_2
   replace hx276_3 := cell_go HB hx276_3
   replace hx276_4 := cell_go HB hx276_4
   replace hx276_5 := cell_go HB hx276_5
   replace hx276_6 := cell_go HB hx276_6
   replace hx276_7 := cell_go HB hx276_7
   replace hx276_8 := cell_go HB hx276_8
   replace hx276_9 := cell_go HB hx276_9
   replace hx276_10 := cell_go HB hx276_10
   replace hx276_11 := cell_go HB hx276_11
   replace hx276_12 := cell_go HB hx276_12
   replace hx276_13 := cell_go HB hx276_13
   replace hx276_14 := cell_go HB hx276_14
   replace hx276_15 := cell_go HB hx276_15
   replace hx276_16 := cell_go HB hx276_16
   replace hx276_17 := cell_go HB hx276_17
   replace hx276_18 := cell_go HB hx276_18
   replace hx276_19 := cell_go HB hx276_19
   replace hx276_20 := cell_go HB hx276_20
   replace hx276_21 := cell_go HB hx276_21
   replace hx276_22 := cell_go HB hx276_22
   replace hx276_23 := cell_go HB hx276_23
   replace hx276_24 := cell_go HB hx276_24
   replace hx276_25 := cell_go HB hx276_25
   replace hx276_26 := cell_go HB hx276_26
   replace hx276_27 := cell_go HB hx276_27
   replace hx276_28 := cell_go HB hx276_28
   replace hx276_29 := cell_go HB hx276_29
   replace hx276_30 := cell_go HB hx276_30
   have HR276_9 := mk0 hi276_9
   have HC276_9 := mk0 hl276_9
   clear hi276_9 hl276_9
   have HR276_10 := mk0 hi276_10
   have HC276_10 := mk0 hl276_10
   clear hi276_10 hl276_10
   have HR276_13 := mk0 hi276_13
   have HC276_13 := mk0 hl276_13
   clear hi276_13 hl276_13
   have HR276_29 := mk0 hi276_29
   have HC276_29 := mk0 hl276_29
   clear hi276_29 hl276_29
   have HR276_30 := mk0 hi276_30
   have HC276_30 := mk0 hl276_30
   clear hi276_30 hl276_30
   replace p276 := eq_true p276
   replace q276 := eq_true q276
   refine start_ (n := 10) (S := fun w' => Lie w' (ad275.add ((x5_1).toNat * 31)) 0 [.int .i64 ((rd_T69 l0 x5_1).f0), .int .i64 ((rd_T69 l0 x5_1).f1), .bool ((rd_T69 l0 x5_1).f2), .int .i64 ((rd_T69 l0 x5_1).f3.f0), .int .i64 ((rd_T69 l0 x5_1).f3.f1), .int .i64 ((rd_T69 l0 x5_1).f3.f2), .int .i64 ((rd_T69 l0 x5_1).f3.f3), .int .i64 ((rd_T69 l0 x5_1).f3.f4), .int .i64 ((rd_T69 l0 x5_1).f3.f5), .slice A275_9 ((rd_T69 l0 x5_1).f4.f0).length c275_9, .slice A275_10 ((rd_T69 l0 x5_1).f4.f1).length c275_10, .bool ((rd_T69 l0 x5_1).f5), .int .i64 ((rd_T69 l0 x5_1).f6), .slice A275_13 ((rd_T69 l0 x5_1).f7).length c275_13, .int .i64 ((rd_T69 l0 x5_1).f8.f0), .int .i64 ((rd_T69 l0 x5_1).f8.f1.f0), .int .i64 ((rd_T69 l0 x5_1).f8.f1.f1), .int .i64 ((rd_T69 l0 x5_1).f8.f1.f2), .int .i64 ((rd_T69 l0 x5_1).f8.f1.f3), .int .i64 ((rd_T69 l0 x5_1).f8.f2.f0), .int .i64 ((rd_T69 l0 x5_1).f8.f2.f1), .int .i64 ((rd_T69 l0 x5_1).f8.f2.f2), .int .i64 ((rd_T69 l0 x5_1).f8.f2.f3), .int .i64 ((rd_T69 l0 x5_1).f8.f3.f0), .int .i64 ((rd_T69 l0 x5_1).f8.f3.f1), .int .i64 ((rd_T69 l0 x5_1).f8.f4.f0), .int .i64 ((rd_T69 l0 x5_1).f8.f4.f1), .int .i64 ((rd_T69 l0 x5_1).f9), .int .i64 ((rd_T69 l0 x5_1).f10), .slice A275_29 ((rd_T69 l0 x5_1).f11.f0).length c275_29, .slice A275_30 ((rd_T69 l0 x5_1).f11.f1).length c275_30] ∧ Lie w' (ad276.add ((x5_1).toNat * 31)) 0 [.int .i64 ((rd_T69 l1 x5_1).f0), .int .i64 ((rd_T69 l1 x5_1).f1), .bool ((rd_T69 l1 x5_1).f2), .int .i64 ((rd_T69 l1 x5_1).f3.f0), .int .i64 ((rd_T69 l1 x5_1).f3.f1), .int .i64 ((rd_T69 l1 x5_1).f3.f2), .int .i64 ((rd_T69 l1 x5_1).f3.f3), .int .i64 ((rd_T69 l1 x5_1).f3.f4), .int .i64 ((rd_T69 l1 x5_1).f3.f5), .slice A276_9 ((rd_T69 l1 x5_1).f4.f0).length c276_9, .slice A276_10 ((rd_T69 l1 x5_1).f4.f1).length c276_10, .bool ((rd_T69 l1 x5_1).f5), .int .i64 ((rd_T69 l1 x5_1).f6), .slice A276_13 ((rd_T69 l1 x5_1).f7).length c276_13, .int .i64 ((rd_T69 l1 x5_1).f8.f0), .int .i64 ((rd_T69 l1 x5_1).f8.f1.f0), .int .i64 ((rd_T69 l1 x5_1).f8.f1.f1), .int .i64 ((rd_T69 l1 x5_1).f8.f1.f2), .int .i64 ((rd_T69 l1 x5_1).f8.f1.f3), .int .i64 ((rd_T69 l1 x5_1).f8.f2.f0), .int .i64 ((rd_T69 l1 x5_1).f8.f2.f1), .int .i64 ((rd_T69 l1 x5_1).f8.f2.f2), .int .i64 ((rd_T69 l1 x5_1).f8.f2.f3), .int .i64 ((rd_T69 l1 x5_1).f8.f3.f0), .int .i64 ((rd_T69 l1 x5_1).f8.f3.f1), .int .i64 ((rd_T69 l1 x5_1).f8.f4.f0), .int .i64 ((rd_T69 l1 x5_1).f8.f4.f1), .int .i64 ((rd_T69 l1 x5_1).f9), .int .i64 ((rd_T69 l1 x5_1).f10), .slice A276_29 ((rd_T69 l1 x5_1).f11.f0).length c276_29, .slice A276_30 ((rd_T69 l1 x5_1).f11.f1).length c276_30]) (ds := []) #[false, false, false, false, false, false, false, false, false, false] (by kernel_rfl) rfl rfl ⟨lie_below HB.out hM275, lie_below HB.out hM276⟩ (fun hHeld => ?_); refine with_tabW laws_eqNodeS.tab6 laws_eqNodeS.bits6 (fun HT_ HW_ => ?_)
   generalize wr.drew = w9 at HB HR275_10 HR275_13 HR275_29 HR275_30 HR275_9 HR276_10 HR276_13 HR276_29 HR276_30 HR276_9 hx275_0 hx275_1 hx275_10 hx275_11 hx275_12 hx275_13 hx275_14 hx275_15 hx275_16 hx275_17 hx275_18 hx275_19 hx275_2 hx275_20 hx275_21 hx275_22 hx275_23 hx275_24 hx275_25 hx275_26 hx275_27 hx275_28 hx275_29 hx275_3 hx275_30 hx275_4 hx275_5 hx275_6 hx275_7 hx275_8 hx275_9 hx276_0 hx276_1 hx276_10 hx276_11 hx276_12 hx276_13 hx276_14 hx276_15 hx276_16 hx276_17 hx276_18 hx276_19 hx276_2 hx276_20 hx276_21 hx276_22 hx276_23 hx276_24 hx276_25 hx276_26 hx276_27 hx276_28 hx276_29 hx276_3 hx276_30 hx276_4 hx276_5 hx276_6 hx276_7 hx276_8 hx276_9 hHeld ⊢
   refine pzv (i := 0) (N := 17) (v := ?_) (a' := ?_) (bA 10 1) HT_ ?_ ?_ ?_
   rotate_left
   ·intro w'
    go_simp; with_reducible rfl
   rotate_left
   ·exact x5_put
   refine pzv (i := 1) (N := 18) (v := ?_) (a' := ?_) (bA 10 3) HT_ ?_ ?_ ?_
   rotate_left
   ·intro w'
    go_simp; with_reducible rfl
   rotate_left
   ·exact x5_put
   refine pzv (i := 2) (N := 19) (v := ?_) (a' := ?_) (bA 10 7) HT_ ?_ ?_ ?_
   rotate_left
   ·intro w'
    go_simp; with_reducible rfl
   rotate_left
   ·exact x5_put
   refine pzv (i := 4) (N := 21) (v := ?_) (a' := ?_) (bA 10 23) HT_ ?_ ?_ ?_
   rotate_left
   ·intro w'
    go_simp; with_reducible rfl
   rotate_left
   ·exact x5_put
   refine pzv (i := 5) (N := 22) (v := ?_) (a' := ?_) (bA 10 55) HT_ ?_ ?_ ?_
   rotate_left
   ·intro w'
    go_simp; with_reducible rfl
   rotate_left
   ·exact x5_put
   refine pzv (i := 6) (N := 23) (v := ?_) (a' := ?_) (bA 10 119) HT_ ?_ ?_ ?_
   rotate_left
   ·intro w'
    go_simp; with_reducible rfl
   rotate_left
   ·exact x5_put
   refine take_ (i := 3) (N := some 20) (v := ?_) (a' := ?_) (bA 10 127) rfl rfl (take_ofW HT_.out HW_.out (by kernel_rfl)) (fun _ _ _ h => h) (Or.inl ⟨by rfl, ?_⟩) hHeld ?_ ?_
   rotate_left
   ·rintro w' ⟨sL275, sL276⟩
    first | (refine load_yields (t := 69) (x := ?x_585_275) ?ho_585_275 ?hx_585_275 _ _ sL275 Try.underlying69 rfl (show (Try.prog.info? 69).map (·.size) = some 31 by kernel_rfl); (case ho_585_275 => rfl); (case hx_585_275 => rfl)) | (refine load_yields (t := 69) (x := ?x_585_276) ?ho_585_276 ?hx_585_276 _ _ sL276 Try.underlying69 rfl (show (Try.prog.info? 69).map (·.size) = some 31 by kernel_rfl); (case ho_585_276 => rfl); (case hx_585_276 => rfl)) | (have c0_ := lie_at sL275 0 _ rfl; simp only [Nat.add_zero, Addr.add_zero'] at c0_; go_simp; with_reducible rfl) | (have c0_ := lie_at sL276 0 _ rfl; simp only [Nat.add_zero, Addr.add_zero'] at c0_; go_simp; with_reducible rfl) | (go_simp; with_reducible rfl)
   rotate_left
   ·exact x5_put
   refine take_ (i := 7) (N := some 24) (v := ?_) (a' := ?_) (bA 10 255) rfl rfl (take_ofW HT_.out HW_.out (by kernel_rfl)) (fun _ _ _ h => h) (Or.inl ⟨by rfl, ?_⟩) hHeld ?_ ?_
   rotate_left
   ·rintro w' ⟨sL275, sL276⟩
    first | (refine load_yields (t := 69) (x := ?x_595_275) ?ho_595_275 ?hx_595_275 _ _ sL275 Try.underlying69 rfl (show (Try.prog.info? 69).map (·.size) = some 31 by kernel_rfl); (case ho_595_275 => rfl); (case hx_595_275 => rfl)) | (refine load_yields (t := 69) (x := ?x_595_276) ?ho_595_276 ?hx_595_276 _ _ sL276 Try.underlying69 rfl (show (Try.prog.info? 69).map (·.size) = some 31 by kernel_rfl); (case ho_595_276 => rfl); (case hx_595_276 => rfl)) | (have c0_ := lie_at sL275 0 _ rfl; simp only [Nat.add_zero, Addr.add_zero'] at c0_; go_simp; with_reducible rfl) | (have c0_ := lie_at sL276 0 _ rfl; simp only [Nat.add_zero, Addr.add_zero'] at c0_; go_simp; with_reducible rfl) | (go_simp; with_reducible rfl)
   rotate_left
   ·exact x5_put
   refine one_ (i := 8) (N := some 25) (bA 10 511) rfl rfl (one_of HT_.out (by kernel_rfl)) (by decide) (fun K hK => ?_)
   refine goes_ Try.func90 (by kernel_rfl) rfl #[.agg #[.int .i64 ((rd_T69 l0 x5_1).f0), .int .i64 ((rd_T69 l0 x5_1).f1), .bool ((rd_T69 l0 x5_1).f2), .int .i64 ((rd_T69 l0 x5_1).f3.f0), .int .i64 ((rd_T69 l0 x5_1).f3.f1), .int .i64 ((rd_T69 l0 x5_1).f3.f2), .int .i64 ((rd_T69 l0 x5_1).f3.f3), .int .i64 ((rd_T69 l0 x5_1).f3.f4), .int .i64 ((rd_T69 l0 x5_1).f3.f5), .slice A275_9 ((rd_T69 l0 x5_1).f4.f0).length c275_9, .slice A275_10 ((rd_T69 l0 x5_1).f4.f1).length c275_10, .bool ((rd_T69 l0 x5_1).f5), .int .i64 ((rd_T69 l0 x5_1).f6), .slice A275_13 ((rd_T69 l0 x5_1).f7).length c275_13, .int .i64 ((rd_T69 l0 x5_1).f8.f0), .int .i64 ((rd_T69 l0 x5_1).f8.f1.f0), .int .i64 ((rd_T69 l0 x5_1).f8.f1.f1), .int .i64 ((rd_T69 l0 x5_1).f8.f1.f2), .int .i64 ((rd_T69 l0 x5_1).f8.f1.f3), .int .i64 ((rd_T69 l0 x5_1).f8.f2.f0), .int .i64 ((rd_T69 l0 x5_1).f8.f2.f1), .int .i64 ((rd_T69 l0 x5_1).f8.f2.f2), .int .i64 ((rd_T69 l0 x5_1).f8.f2.f3), .int .i64 ((rd_T69 l0 x5_1).f8.f3.f0), .int .i64 ((rd_T69 l0 x5_1).f8.f3.f1), .int .i64 ((rd_T69 l0 x5_1).f8.f4.f0), .int .i64 ((rd_T69 l0 x5_1).f8.f4.f1), .int .i64 ((rd_T69 l0 x5_1).f9), .int .i64 ((rd_T69 l0 x5_1).f10), .slice A275_29 ((rd_T69 l0 x5_1).f11.f0).length c275_29, .slice A275_30 ((rd_T69 l0 x5_1).f11.f1).length c275_30], .agg #[.int .i64 ((rd_T69 l1 x5_1).f0), .int .i64 ((rd_T69 l1 x5_1).f1), .bool ((rd_T69 l1 x5_1).f2), .int .i64 ((rd_T69 l1 x5_1).f3.f0), .int .i64 ((rd_T69 l1 x5_1).f3.f1), .int .i64 ((rd_T69 l1 x5_1).f3.f2), .int .i64 ((rd_T69 l1 x5_1).f3.f3), .int .i64 ((rd_T69 l1 x5_1).f3.f4), .int .i64 ((rd_T69 l1 x5_1).f3.f5), .slice A276_9 ((rd_T69 l1 x5_1).f4.f0).length c276_9, .slice A276_10 ((rd_T69 l1 x5_1).f4.f1).length c276_10, .bool ((rd_T69 l1 x5_1).f5), .int .i64 ((rd_T69 l1 x5_1).f6), .slice A276_13 ((rd_T69 l1 x5_1).f7).length c276_13, .int .i64 ((rd_T69 l1 x5_1).f8.f0), .int .i64 ((rd_T69 l1 x5_1).f8.f1.f0), .int .i64 ((rd_T69 l1 x5_1).f8.f1.f1), .int .i64 ((rd_T69 l1 x5_1).f8.f1.f2), .int .i64 ((rd_T69 l1 x5_1).f8.f1.f3), .int .i64 ((rd_T69 l1 x5_1).f8.f2.f0), .int .i64 ((rd_T69 l1 x5_1).f8.f2.f1), .int .i64 ((rd_T69 l1 x5_1).f8.f2.f2), .int .i64 ((rd_T69 l1 x5_1).f8.f2.f3), .int .i64 ((rd_T69 l1 x5_1).f8.f3.f0), .int .i64 ((rd_T69 l1 x5_1).f8.f3.f1), .int .i64 ((rd_T69 l1 x5_1).f8.f4.f0), .int .i64 ((rd_T69 l1 x5_1).f8.f4.f1), .int .i64 ((rd_T69 l1 x5_1).f9), .int .i64 ((rd_T69 l1 x5_1).f10), .slice A276_29 ((rd_T69 l1 x5_1).f11.f0).length c276_29, .slice A276_30 ((rd_T69 l1 x5_1).f11.f1).length c276_30]] (by rfl) rfl rfl z5_2 ?_
   with_reducible refine (laws_eqNode.calls k1 ((rd_T69 l0 x5_1).f0) ((rd_T69 l0 x5_1).f1) ((rd_T69 l0 x5_1).f2) ((rd_T69 l0 x5_1).f3.f0) ((rd_T69 l0 x5_1).f3.f1) ((rd_T69 l0 x5_1).f3.f2) ((rd_T69 l0 x5_1).f3.f3) ((rd_T69 l0 x5_1).f3.f4) ((rd_T69 l0 x5_1).f3.f5) _ _ ((rd_T69 l0 x5_1).f4.f0) _ _ ((rd_T69 l0 x5_1).f4.f1) ((rd_T69 l0 x5_1).f5) ((rd_T69 l0 x5_1).f6) _ _ ((rd_T69 l0 x5_1).f7) ((rd_T69 l0 x5_1).f8.f0) ((rd_T69 l0 x5_1).f8.f1.f0) ((rd_T69 l0 x5_1).f8.f1.f1) ((rd_T69 l0 x5_1).f8.f1.f2) ((rd_T69 l0 x5_1).f8.f1.f3) ((rd_T69 l0 x5_1).f8.f2.f0) ((rd_T69 l0 x5_1).f8.f2.f1) ((rd_T69 l0 x5_1).f8.f2.f2) ((rd_T69 l0 x5_1).f8.f2.f3) ((rd_T69 l0 x5_1).f8.f3.f0) ((rd_T69 l0 x5_1).f8.f3.f1) ((rd_T69 l0 x5_1).f8.f4.f0) ((rd_T69 l0 x5_1).f8.f4.f1) ((rd_T69 l0 x5_1).f9) ((rd_T69 l0 x5_1).f10) _ _ ((rd_T69 l0 x5_1).f11.f0) _ _ ((rd_T69 l0 x5_1).f11.f1) ((rd_T69 l1 x5_1).f0) ((rd_T69 l1 x5_1).f1) ((rd_T69 l1 x5_1).f2) ((rd_T69 l1 x5_1).f3.f0) ((rd_T69 l1 x5_1).f3.f1) ((rd_T69 l1 x5_1).f3.f2) ((rd_T69 l1 x5_1).f3.f3) ((rd_T69 l1 x5_1).f3.f4) ((rd_T69 l1 x5_1).f3.f5) _ _ ((rd_T69 l1 x5_1).f4.f0) _ _ ((rd_T69 l1 x5_1).f4.f1) ((rd_T69 l1 x5_1).f5) ((rd_T69 l1 x5_1).f6) _ _ ((rd_T69 l1 x5_1).f7) ((rd_T69 l1 x5_1).f8.f0) ((rd_T69 l1 x5_1).f8.f1.f0) ((rd_T69 l1 x5_1).f8.f1.f1) ((rd_T69 l1 x5_1).f8.f1.f2) ((rd_T69 l1 x5_1).f8.f1.f3) ((rd_T69 l1 x5_1).f8.f2.f0) ((rd_T69 l1 x5_1).f8.f2.f1) ((rd_T69 l1 x5_1).f8.f2.f2) ((rd_T69 l1 x5_1).f8.f2.f3) ((rd_T69 l1 x5_1).f8.f3.f0) ((rd_T69 l1 x5_1).f8.f3.f1) ((rd_T69 l1 x5_1).f8.f4.f0) ((rd_T69 l1 x5_1).f8.f4.f1) ((rd_T69 l1 x5_1).f9) ((rd_T69 l1 x5_1).f10) _ _ ((rd_T69 l1 x5_1).f11.f0) _ _ ((rd_T69 l1 x5_1).f11.f1) true _ ?side1 ?side2 ?side3 ?side4 ?side5 ?side6 ?side7 ?side8 ?side9 ?side10 ?side11 ?side12 ?side13 ?side14 ?side15 ?side16 ?side17 ?side18 ?side19 ?side20 (by first | rfl | assumption) A7.out).mono ?_
   (case side1 => repeat (first | exact (Kd.C_below HR275_9.out HB.out) | (with_reducible refine Kd.C_alloc ?_ _) | (with_reducible refine Kd.C_drewN ?_ _) | (with_reducible refine Kd.C_drew ?_)))
   (case side2 => exact HC275_9.out)
   (case side3 => repeat (first | exact (Kd.C_below HR275_10.out HB.out) | (with_reducible refine Kd.C_alloc ?_ _) | (with_reducible refine Kd.C_drewN ?_ _) | (with_reducible refine Kd.C_drew ?_)))
   (case side4 => exact HC275_10.out)
   (case side5 => repeat (first | exact (Kd.C_below HR275_13.out HB.out) | (with_reducible refine Kd.C_alloc ?_ _) | (with_reducible refine Kd.C_drewN ?_ _) | (with_reducible refine Kd.C_drew ?_)))
   (case side6 => exact HC275_13.out)
   (case side7 => repeat (first | exact (Kd.C_below HR275_29.out HB.out) | (with_reducible refine Kd.C_alloc ?_ _) | (with_reducible refine Kd.C_drewN ?_ _) | (with_reducible refine Kd.C_drew ?_)))
   (case side8 => exact HC275_29.out)
   (case side9 => repeat (first | exact (Kd.C_below HR275_30.out HB.out) | (with_reducible refine Kd.C_alloc ?_ _) | (with_reducible refine Kd.C_drewN ?_ _) | (with_reducible refine Kd.C_drew ?_)))
   (case side10 => exact HC275_30.out)
   (case side11 => repeat (first | exact (Kd.C_below HR276_9.out HB.out) | (with_reducible refine Kd.C_alloc ?_ _) | (with_reducible refine Kd.C_drewN ?_ _) | (with_reducible refine Kd.C_drew ?_)))
   (case side12 => exact HC276_9.out)
   (case side13 => repeat (first | exact (Kd.C_below HR276_10.out HB.out) | (with_reducible refine Kd.C_alloc ?_ _) | (with_reducible refine Kd.C_drewN ?_ _) | (with_reducible refine Kd.C_drew ?_)))
   (case side14 => exact HC276_10.out)
   (case side15 => repeat (first | exact (Kd.C_below HR276_13.out HB.out) | (with_reducible refine Kd.C_alloc ?_ _) | (with_reducible refine Kd.C_drewN ?_ _) | (with_reducible refine Kd.C_drew ?_)))
   (case side16 => exact HC276_13.out)
   (case side17 => repeat (first | exact (Kd.C_below HR276_29.out HB.out) | (with_reducible refine Kd.C_alloc ?_ _) | (with_reducible refine Kd.C_drewN ?_ _) | (with_reducible refine Kd.C_drew ?_)))
   (case side18 => exact HC276_29.out)
   (case side19 => repeat (first | exact (Kd.C_below HR276_30.out HB.out) | (with_reducible refine Kd.C_alloc ?_ _) | (with_reducible refine Kd.C_drewN ?_ _) | (with_reducible refine Kd.C_drew ?_)))
   (case side20 => exact HC276_30.out)
   rintro e w10 ⟨rfl, hb⟩
   refine ⟨_, rfl, ?_⟩
   have n0_ := mk0 (below_step z5_1 hb)
   clear HB; have HB := n0_; clear n0_; (try clear hb); (try clear hb2); (try clear hk); (try clear hi)
   refine hK.out _ _ ⟨lie_below HB.out hM275, lie_below HB.out hM276⟩ (fun hHeld => ?_)
   clear hK K
   refine norm_ (a' := ?_) ?_ ?_
   rotate_left
   ·show Act.put _ (some 25) _ = _
    simp only [Act.put, List.setIfInBounds_toArray, List.set_cons_zero, List.set_cons_succ, i64_w, i32_w]
    rfl
   refine pzv (i := 9) (N := 26) (v := ?_) (a' := ?_) (bA 10 1023) HT_ ?_ ?_ ?_
   rotate_left
   ·intro w'
    go_simp; with_reducible rfl
   rotate_left
   ·exact x5_put
   refine done_ (done_of HT_.out (by kernel_rfl)) ?_
   try go_wp2_with (first | ((with_reducible refine gate_load (t := 69) rfl ?_); refine load_lie (t := 69) rfl rfl hM275 HB (by with_reducible rfl) rfl Try.underlying69 rfl (show (Try.prog.info? 69).map (·.size) = some 31 by kernel_rfl) rfl ?_) | ((with_reducible refine gate_load (t := 69) rfl ?_); refine load_lie0 (t := 69) rfl rfl hM275 (by with_reducible rfl) rfl Try.underlying69 rfl (show (Try.prog.info? 69).map (·.size) = some 31 by kernel_rfl) rfl ?_) | ((with_reducible refine gate_load (t := 69) rfl ?_); refine load_lie (t := 69) rfl rfl hM276 HB (by with_reducible rfl) rfl Try.underlying69 rfl (show (Try.prog.info? 69).map (·.size) = some 31 by kernel_rfl) rfl ?_) | ((with_reducible refine gate_load (t := 69) rfl ?_); refine load_lie0 (t := 69) rfl rfl hM276 (by with_reducible rfl) rfl Try.underlying69 rfl (show (Try.prog.info? 69).map (·.size) = some 31 by kernel_rfl) rfl ?_))
   go_roundg k1
   case measure => have := HK1.out; omega
   case rel => exact ⟨(wrap64 (x5_1 + 1)), rs0, H', ⟨(by have := HK1.out; omega)⟩, ⟨z5_1⟩⟩

/-! ### laws_eqScene: function 33 -/
def laws_eqScene.f (k : Nat) (l0_0 : List (S69)) (l1_0 : List (S69)) : Option (Bool) := (laws_eqNodeS.f k l0_0 l1_0).bind fun t280 => (if t280 = true then (some true) else (some false))
theorem laws_eqScene.mono : ∀ a0 a1 k, LeO (laws_eqScene.f k a0 a1) (laws_eqScene.f (k + 1) a0 a1) := by
 intro a0 a1 k
 unfold laws_eqScene.f
 repeat' first
   | (with_reducible exact laws_eqNodeS.mono _ _ _)
   | (with_reducible exact LeO.refl _)
   | (with_reducible exact LeO.none _)
   | (with_reducible refine LeO.ite ?_ ?_)
   | (with_reducible refine LeO.bind ?_ (fun _ => ?_))
set_option maxHeartbeats 8000000 in
set_option maxRecDepth 100000 in
theorem laws_eqScene.calls (k : Nat) (A0_0 : Option Addr) (c0_0 : Nat) (l0_0 : List (S69)) (A1_0 : Option Addr) (c1_0 : Nat) (l1_0 : List (S69)) (r : Bool) (w : World) (hr0_0 : Kd.C k69 w A0_0 l0_0.length l0_0) (hc0_0 : l0_0.length ≤ c0_0) (hr1_0 : Kd.C k69 w A1_0 l1_0.length l1_0) (hc1_0 : l1_0.length ≤ c1_0) (hT : r = true) (h : laws_eqScene.f k l0_0 l1_0 = some r) :
  Calls Try.prog 33 #[.agg #[.slice A0_0 l0_0.length c0_0], .agg #[.slice A1_0 l1_0.length c1_0]] w fun e w' => e = .returned (.bool r) ∧ Below w.heap.size w w' := by
 have hu53 := Try.underlying53
 have HR0_0 := mk0 hr0_0
 have HC0_0 := mk0 hc0_0
 clear hr0_0 hc0_0
 have HR1_0 := mk0 hr1_0
 have HC1_0 := mk0 hc1_0
 clear hr1_0 hc1_0
 have HB := mk0 (Below.refl w.heap.size w)
 have H : ((laws_eqNodeS.f k l0_0 l1_0).bind fun t280 => (if t280 = true then (some true) else (some false))) = some r := h
 clear h
 replace H := Option.bind_eq_some_iff.mp H
 obtain ⟨t280, A30, H⟩ := H
 try dsimp only at H
 have A3 := mk0 A30
 clear A30
 by_cases c4 : t280 = true
 rotate_left
 ·replace c4 := Bool.eq_false_iff.mpr c4
  subst c4
  rw [if_neg (show ¬ (false = true) by decide)] at H
  obtain rfl := Option.some.inj H
  exact absurd hT Bool.false_ne_true
 subst c4
 rw [if_pos rfl] at H
 obtain rfl := Option.some.inj H
 simp only [Option.some.injEq, Prod.mk.injEq] at H
 obtain ⟨rfl⟩ := H
 go_enter Try.func33, Try.ntmps33
 go_wp2_with (first | ((with_reducible refine gate_dst (N := 2) rfl ?_); refine boxz (cs := #[.slice A0_0 l0_0.length c0_0]) (t := 53) rfl ?_; intro gb278 hg w5 hbox hb; have n0_ := mk0 (below_step z5_1 hb); have n1_ := mk0 (hbox); have GW278 := mk0 (ge_go (a := w.heap.size) hg (below_size z5_1)); have GE278 := GW278; clear HB; have HB := n0_; have BK278 := n1_; clear n0_ n1_ ; clear hb hbox hg) | ((with_reducible refine gate_dst (N := 3) rfl ?_); refine boxz (cs := #[.slice A1_0 l1_0.length c1_0]) (t := 53) rfl ?_; intro gb279 hg w6 hbox hb; have n0_ := mk0 (blk_belowB BK278 (pkb BK278) hb); have n1_ := mk0 (below_step z5_6 hb); have n2_ := mk0 (hbox); have GW279 := mk0 (ge_go (a := w.heap.size) hg (below_size z5_6)); have GE279 := GW279; have NB278_279 := mk0 (nb_lt hg (blk_ltB BK278 (pkb BK278))); have NB279_278 := mk0 (nb_gt hg (blk_ltB BK278 (pkb BK278))); clear BK278 HB; have BK278 := n0_; have HB := n1_; have BK279 := n2_; clear n0_ n1_ n2_ ; clear hb hbox hg; have hnb7 := NB278_279.out; have hnc7 := NB279_278.out; obtain ⟨_, _⟩ := be_1 BK278.out; obtain ⟨_, _⟩ := be_1 BK279.out) | ((with_reducible refine gate_callee (f := 68) rfl ?_); refine goesL_ (some 9) rfl rfl Try.func68 (by kernel_rfl) rfl #[.slice A0_0 l0_0.length c0_0, .slice A1_0 l1_0.length c1_0] rfl z5_2 ?_; (with_reducible refine (laws_eqNodeS.calls k _ _ l0_0 _ _ l1_0 true _ ?side1 ?side2 ?side3 ?side4 (by first | rfl | assumption) A3.out).mono ?_); (case side1 => repeat (first | exact (Kd.C_below HR0_0.out HB.out) | (with_reducible refine Kd.C_alloc ?_ _) | (with_reducible refine Kd.C_drewN ?_ _) | (with_reducible refine Kd.C_drew ?_))); (case side2 => exact HC0_0.out); (case side3 => repeat (first | exact (Kd.C_below HR1_0.out HB.out) | (with_reducible refine Kd.C_alloc ?_ _) | (with_reducible refine Kd.C_drewN ?_ _) | (with_reducible refine Kd.C_drew ?_))); (case side4 => exact HC1_0.out); rintro e w10 ⟨rfl, hb⟩; refine ⟨_, rfl, ?_⟩; have n0_ := mk0 (blk_belowB BK278 (pkb BK278) hb); have n1_ := mk0 (blk_belowB BK279 (pkb BK279) hb); have n2_ := mk0 (below_step z5_9 hb); clear BK278 BK279 HB; have BK278 := n0_; have BK279 := n1_; have HB := n2_; clear n0_ n1_ n2_; (try clear hb)))
 go_ret
 exact ⟨z5_7, z5_9⟩

/-! ### laws_markPointS: function 25 -/
def laws_markPointS.l0 : Nat → List (S29) → Int → Int → Option (Int × (List (S29)))
 | 0, _, _, _ => none
 | k + 1, x0, x1, x5 => if x5 < (x0.length : Int) then (if 0 ≤ x5 then ((some (x0.set (x5 : Int).toNat (⟨x1, (rd_T29 x0 x5).f1⟩ : S29) : List (S29))).bind fun y281 => (laws_markPointS.l0 k (y281.set (x5 : Int).toNat (⟨(rd_T29 y281 x5).f0, wrap64 (x1 + 1)⟩ : S29)) (wrap64 ((wrap64 (x1 + 1)) + 1)) (wrap64 (x5 + 1)))) else (none)) else (some (x1, x0))
def laws_markPointS.f (k : Nat) (l0 : List (S29)) (a1 : Int) : Option (Int × (List (S29))) := laws_markPointS.l0 k l0 a1 0
theorem laws_markPointS.mono_l : ∀ k, (∀ y0 y1 y2, LeO (laws_markPointS.l0 k y0 y1 y2) (laws_markPointS.l0 (k + 1) y0 y1 y2))
 | 0 => fun _ _ _ r h => by simp [laws_markPointS.l0] at h
 | k + 1 => by
  have ih0 := laws_markPointS.mono_l k
  ·intro y0 y1 y2
   unfold laws_markPointS.l0
   repeat' first
   | (with_reducible exact ih0 _ _ _)
   | (with_reducible exact LeO.refl _)
   | (with_reducible exact LeO.none _)
   | (with_reducible refine LeO.ite ?_ ?_)
   | (with_reducible refine LeO.bind ?_ (fun _ => ?_))
theorem laws_markPointS.mono : ∀ a0 a1 k, LeO (laws_markPointS.f k a0 a1) (laws_markPointS.f (k + 1) a0 a1) := by
 intro a0 a1 k
 have ih0 := laws_markPointS.mono_l k
 unfold laws_markPointS.f
 repeat' first
   | (with_reducible exact ih0 _ _ _)
   | (with_reducible exact LeO.refl _)
   | (with_reducible exact LeO.none _)
   | (with_reducible refine LeO.ite ?_ ?_)
   | (with_reducible refine LeO.bind ?_ (fun _ => ?_))
set_option maxHeartbeats 8000000 in
set_option maxRecDepth 100000 in
theorem laws_markPointS.calls (k : Nat) (P0_ : Nat → Prop) (u9000_ : Value) (l0 : List (S29)) (a1 : Int) (r1 : Int) (r2 : List (S29)) (w0 w : World) (hB : Below w0.heap.size w0 w) (ho0 : Kd.R k29 29 w w0.heap.size P0_ u9000_ l0) (h : laws_markPointS.f k l0 a1 = some (r1, r2)) :
  Calls Try.prog 25 #[u9000_, .int .i64 a1] w fun e w' => e = .returned (.int .i64 r1) ∧ Kd.R k29 29 w' w0.heap.size (fun k_ => (P0_ k_ ∨ w.heap.size ≤ k_)) u9000_ r2 ∧ Below w0.heap.size w0 w' ∧ Kept w w' (fun k_ => P0_ k_) := by
 have HO0 := mk0 (show Kd.R k29 29 w w0.heap.size (fun k_ => (P0_ k_ ∨ w.heap.size ≤ k_)) u9000_ l0 from Kd.R_mono ho0 (fun k_ hk => (.inl hk)))
 have HK := mk0 (Kept.refl w (fun k_ => P0_ k_))
 have HW0 := mk0 hB.size
 have HB := mk0 hB
 clear hB
 have H : (laws_markPointS.l0 k l0 a1 0) = some (r1, r2) := h
 clear h
 have H' := mk0 H
 clear H
 go_enter Try.func25, Try.ntmps25
 go_wp2
 go_loopg [1, 5] k (fun kq v1 v5 w' => ∃ (x0_1 : List (S29)) (x1_1 : Int) (x5_1 : Int), v1 = .int .i64 x1_1 ∧ v5 = .int .i64 x5_1 ∧ Aside0 (laws_markPointS.l0 kq x0_1 x1_1 x5_1 = some (r1, r2)) ∧ Aside0 (kq ≤ k) ∧ Aside0 (Kd.R k29 29 w' w0.heap.size (fun k_ => (P0_ k_ ∨ w.heap.size ≤ k_)) u9000_ x0_1) ∧ Aside0 (Kept w w' (fun k_ => P0_ k_)) ∧ Aside0 (Below w0.heap.size w0 w'))
 case atStart => exact ⟨(l0), (a1), (0), rs0, rs0, H', ⟨Nat.le_refl _⟩, ⟨pkR HO0⟩, ⟨z5_4⟩, ⟨z5_1⟩⟩
 case round =>
  clear H'
  try clear c2
  try clear p2
  obtain ⟨x0_1, x1_1, x5_1, rfl, rfl, HA, HK1, HO_0, HK, HB⟩ := hrel
  cases gk with
  | zero => exact absurd HA.out (by simp [laws_markPointS.l0])
  | succ k1 =>
   have H := HA.out; clear HA
   simp only [laws_markPointS.l0] at H
   by_cases c3 : x5_1 < (x0_1.length : Int)
   rotate_left
   ·rw [if_neg c3] at H
    have c3b0 := decide_eq_false c3
    clear c3
    simp only [Option.some.injEq, Prod.mk.injEq] at H
    obtain ⟨rfl, rfl⟩ := H
    obtain ⟨Ao12, co12, eo12⟩ := Kd.R_slice HO_0.out
    subst eo12
    go_wp2
    go_ret
    exact ⟨z5_7, (pkR HO_0), z5_1, z5_4⟩
   rw [if_pos c3] at H
   have c3b0 := decide_eq_true c3
   clear c3
   by_cases c4 : 0 ≤ x5_1
   rotate_left
   ·rw [if_neg c4] at H
    exact absurd H (by simp)
   rw [if_pos c4] at H
   have c4b0 := decide_eq_true c4
   clear c4
   obtain ⟨y281, hy_⟩ : ∃ y_ : List (S29), y_ = (x0_1.set (x5_1 : Int).toNat (⟨x1_1, (rd_T29 x0_1 x5_1).f1⟩ : S29)) := ⟨_, rfl⟩
   replace H : (laws_markPointS.l0 k1 (y281.set (x5_1 : Int).toNat (⟨(rd_T29 y281 x5_1).f0, wrap64 (x1_1 + 1)⟩ : S29)) (wrap64 ((wrap64 (x1_1 + 1)) + 1)) (wrap64 (x5_1 + 1))) = some (r1, r2) := z5_8
   have Ny281 := mk0 hy_
   clear hy_
   obtain ⟨y282, hy_⟩ : ∃ y_ : List (S29), y_ = (y281.set (x5_1 : Int).toNat (⟨(rd_T29 y281 x5_1).f0, wrap64 (x1_1 + 1)⟩ : S29)) := ⟨_, rfl⟩
   replace H : (laws_markPointS.l0 k1 y282 (wrap64 ((wrap64 (x1_1 + 1)) + 1)) (wrap64 (x5_1 + 1))) = some (r1, r2) := z5_8
   have Ny282 := mk0 hy_
   clear hy_
   have H' := mk0 H
   clear H
   obtain ⟨Ao7, co7, eo7⟩ := Kd.R_slice HO_0.out
   subst eo7
   have p5 : 0 ≤ (x5_1 : Int) := of_decide_eq_true (by first | (with_reducible assumption) | assumption)
   have q5 : (x5_1 : Int) < ((x0_1.length : Int) : Int) := of_decide_eq_true (by first | (with_reducible assumption) | assumption)
   obtain ⟨go5, co5, eo5, gb5, gl5, cl5, HG5⟩ := Kd.R_form HO_0.out (by omega)
   (first | cases eo5 | (injection eo5 with ea_ en_ ec_; (first | subst ea_ | (injection ea_ with ea_; subst ea_)); subst ec_; clear en_))
   have GB5 := mk0 gb5
   have GG5 := mk0 HG5
   clear gb5 gl5 HG5
   have HMgo5 := mk0 (show (P0_ go5 ∨ w.heap.size ≤ go5) from (HO_0.out.1 _ rfl))
   obtain ⟨ce5, hcl5, hM5, hcc5, hfr5⟩ := Kd.R_elem HO_0.out z29 (x5_1 : Int) p5 q5
   obtain rfl := k29_openM hM5
   have hx5_0 : wr.cell? ⟨go5, (x5_1 : Int).toNat * 2, none⟩ = some (.int .i64 ((rd_T29 x0_1 x5_1).f0)) := hcc5 0 _ rfl
   have hx5_1 : wr.cell? ⟨go5, (x5_1 : Int).toNat * 2 + 1, none⟩ = some (.int .i64 ((rd_T29 x0_1 x5_1).f1)) := hcc5 1 _ rfl
   have hf5_0 : wr.frozen? ⟨go5, (x5_1 : Int).toNat * 2, none⟩ = false := hfr5 0
   have hf5_1 : wr.frozen? ⟨go5, (x5_1 : Int).toNat * 2 + 1, none⟩ = false := hfr5 1
   clear hcl5 hcc5 hfr5; (try clear hM5)
   replace p5 := eq_true p5
   replace q5 := eq_true q5
   have HX8 := mk0 (show Kd.R k29 29 wr w0.heap.size (fun k_ => (P0_ k_ ∨ w.heap.size ≤ k_)) (.slice (some ⟨go5, 0, none⟩) x0_1.length co7) x0_1 from (pkR HO_0))
   obtain ⟨ce8, hcl8, hM8, hcc8, hfr8⟩ := Kd.R_elem HX8.out z29 (x5_1 : Int) (of_decide_eq_true (by first | (with_reducible assumption) | assumption)) (by have h_ : (x5_1 : Int) < ((x0_1.length : Int) : Int) := of_decide_eq_true (by first | (with_reducible assumption) | assumption); first | exact h_ | (have e_ := (Kd.R_reads' HO_0.out).1; omega) | simpa using h_)
   obtain rfl := k29_openM hM8
   have HP8 := Kd.R_seg HX8.out (x5_1 : Int) (of_decide_eq_true (by first | (with_reducible assumption) | assumption)) (by have h_ : (x5_1 : Int) < ((x0_1.length : Int) : Int) := of_decide_eq_true (by first | (with_reducible assumption) | assumption); first | exact h_ | (have e_ := (Kd.R_reads' HO_0.out).1; omega) | simpa using h_) (seg := [.int .i64 x1_1]) (j := 0) hcl8 hcc8 (show 1 ≤ 2 from by decide) (x' := (⟨x1_1, (rd_T29 x0_1 x5_1).f1⟩ : S29)) (k29_mkM _ _ _ (⟨x1_1, (rd_T29 x0_1 x5_1).f1⟩ : S29) ) (fun _ hk => hk)
   have hx8_0 := hcc8 0 _ rfl
   (try simp only [show (k29).sz = 2 from rfl, Nat.mul_one, Nat.add_zero] at hx8_0)
   have hf8_0 := hfr8 0
   (try simp only [show (k29).sz = 2 from rfl, Nat.mul_one, Nat.add_zero] at hf8_0)
   clear hcl8 hcc8 hfr8; (try clear hM8)
   go_wp2_with (first | ((with_reducible refine gate_store (t := 3) (p := 16) rfl ?_); refine store_event (t := 3) (p := 16) (v := ?vo_w9) (w1 := (wr.setCell ⟨go5, (x5_1 : Int).toNat * 2, none⟩ (.int .i64 x1_1))) ?hg ?ho ?hn ?hr ?_; (case ho => rfl); (case hg => rfl); (case hn => rfl); (case hr => first | (go_simp; done) | (go_simp; rfl) | (obtain ⟨Aq_, cq_, eq_⟩ := Kd.R_slice HO_0.out; subst eq_; first | (go_simp; done) | (go_simp; rfl))); intro w9 hw; have hg : wr.grownBy w9 (some go5) := (by rw [hw]; exact HP8.2); have hp_ : Kd.R k29 29 w9 w0.heap.size (fun k_ => (P0_ k_ ∨ w.heap.size ≤ k_)) (.slice (some ⟨go5, 0, none⟩) x0_1.length co7) y281 := (by rw [hw, Ny281.out]; exact HP8.1); clear HP8; have n0_ := mk0 (hp_); have n1_ := mk0 ((by rw [hw]; exact below_set (HB.out) GB5.out : Below w0.heap.size w0 w9)); have n2_ := mk0 (Kept.of_grown (S := (fun k_ => P0_ k_)) hg z5_4 (fun k_ e_ => (HO_0.out.1 k_ e_))); clear HO_0 HB HK; have HO_0 := n0_; have HB := n1_; have HK := n2_; clear n0_ n1_ n2_ hg hw hp_; have p6 : 0 ≤ (x5_1 : Int) := of_decide_eq_true (by first | (with_reducible assumption) | assumption); have q6 : (x5_1 : Int) < ((x0_1.length : Int) : Int) := of_decide_eq_true (by first | (with_reducible assumption) | assumption); obtain ⟨ce6, hcl6, hM6, hcc6, hfr6⟩ := Kd.R_elem HO_0.out z29 (x5_1 : Int) p6 q6; obtain rfl := k29_openM hM6; have hx6_0 : w9.cell? ⟨go5, (x5_1 : Int).toNat * 2, none⟩ = some (.int .i64 ((rd_T29 y281 x5_1).f0)) := hcc6 0 _ rfl; have hx6_1 : w9.cell? ⟨go5, (x5_1 : Int).toNat * 2 + 1, none⟩ = some (.int .i64 ((rd_T29 y281 x5_1).f1)) := hcc6 1 _ rfl; have hf6_0 : w9.frozen? ⟨go5, (x5_1 : Int).toNat * 2, none⟩ = false := hfr6 0; have hf6_1 : w9.frozen? ⟨go5, (x5_1 : Int).toNat * 2 + 1, none⟩ = false := hfr6 1; clear hcl6 hcc6 hfr6; (try clear hM6); replace p6 := eq_true p6; replace q6 := eq_true q6; have HX10 := mk0 (show Kd.R k29 29 w9 w0.heap.size (fun k_ => (P0_ k_ ∨ w.heap.size ≤ k_)) (.slice (some ⟨go5, 0, none⟩) x0_1.length co7) y281 from (pkR HO_0)); obtain ⟨ce10, hcl10, hM10, hcc10, hfr10⟩ := Kd.R_elem HX10.out z29 (x5_1 : Int) (of_decide_eq_true (by first | (with_reducible assumption) | assumption)) (by have h_ : (x5_1 : Int) < ((x0_1.length : Int) : Int) := of_decide_eq_true (by first | (with_reducible assumption) | assumption); first | exact h_ | (have e_ := (Kd.R_reads' HO_0.out).1; omega) | simpa using h_); obtain rfl := k29_openM hM10; have HP10 := Kd.R_seg HX10.out (x5_1 : Int) (of_decide_eq_true (by first | (with_reducible assumption) | assumption)) (by have h_ : (x5_1 : Int) < ((x0_1.length : Int) : Int) := of_decide_eq_true (by first | (with_reducible assumption) | assumption); first | exact h_ | (have e_ := (Kd.R_reads' HO_0.out).1; omega) | simpa using h_) (seg := [.int .i64 (wrap64 (x1_1 + 1))]) (j := 1) hcl10 hcc10 (show 2 ≤ 2 from by decide) (x' := (⟨(rd_T29 y281 x5_1).f0, wrap64 (x1_1 + 1)⟩ : S29)) (k29_mkM _ _ _ (⟨(rd_T29 y281 x5_1).f0, wrap64 (x1_1 + 1)⟩ : S29) ) (fun _ hk => hk); have hx10_1 := hcc10 1 _ rfl; (try simp only [show (k29).sz = 2 from rfl, Nat.mul_one, Nat.add_zero] at hx10_1); have hf10_1 := hfr10 1; (try simp only [show (k29).sz = 2 from rfl, Nat.mul_one, Nat.add_zero] at hf10_1); clear hcl10 hcc10 hfr10; (try clear hM10)) | ((with_reducible refine gate_store (t := 3) (p := 23) rfl ?_); refine store_event (t := 3) (p := 23) (v := ?vo_w11) (w1 := (w9.setCell ⟨go5, (x5_1 : Int).toNat * 2 + 1, none⟩ (.int .i64 (wrap64 (x1_1 + 1))))) ?hg ?ho ?hn ?hr ?_; (case ho => rfl); (case hg => rfl); (case hn => rfl); (case hr => first | (go_simp; done) | (go_simp; rfl) | (obtain ⟨Aq_, cq_, eq_⟩ := Kd.R_slice HO_0.out; subst eq_; first | (go_simp; done) | (go_simp; rfl))); intro w11 hw; have hg : w9.grownBy w11 (some go5) := (by rw [hw]; exact HP10.2); have hp_ : Kd.R k29 29 w11 w0.heap.size (fun k_ => (P0_ k_ ∨ w.heap.size ≤ k_)) (.slice (some ⟨go5, 0, none⟩) x0_1.length co7) y282 := (by rw [hw, Ny282.out]; exact HP10.1); clear HP10; have n0_ := mk0 (hp_); have n1_ := mk0 ((by rw [hw]; exact below_set (HB.out) GB5.out : Below w0.heap.size w0 w11)); have n2_ := mk0 (Kept.of_grown (S := (fun k_ => P0_ k_)) hg z5_4 (fun k_ e_ => (HO_0.out.1 k_ e_))); clear HO_0 HB HK; have HO_0 := n0_; have HB := n1_; have HK := n2_; clear n0_ n1_ n2_ hg hw hp_))
   go_roundg k1
   case measure => have := HK1.out; omega
   case rel => exact ⟨(y282), (wrap64 ((wrap64 (x1_1 + 1)) + 1)), (wrap64 (x5_1 + 1)), rs0, rs0, H', ⟨(by have := HK1.out; omega)⟩, ⟨pkR HO_0⟩, ⟨z5_4⟩, ⟨z5_1⟩⟩

end Go.Proofs.Ytjfienkbcacijaa.MFnExactUnderOf
