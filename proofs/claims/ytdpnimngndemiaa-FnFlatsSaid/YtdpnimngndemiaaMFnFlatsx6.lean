/- Functions of the program as Lean functions, and the proof that a call comes to just these: machine text of this session's own program (myprint.py). -/
import Derived.Test.YtdpnimngndemiaaMFnFlatsx0
namespace Go.Proofs.Ytdpnimngndemiaa.MFnFlats
open Go.RowKit Go.Proofs.YtdpnimngndemiaaW.PrintWords Go.Proofs.YtdpnimngndemiaaW.PrintLast Go.Proofs.YtdpnimngndemiaaW.PrintMore
attribute [local go_sem] max2_int min2_int max_two min_two max_three min_three max_four min_four   -- for this text's walks alone
set_option linter.unusedVariables false
set_option linter.unusedSimpArgs false

theorem z6_0 {P : Prop} (h : P := by repeat (first | (with_reducible first | exact HB.out | apply below_alloc | apply pw_below_drewN | apply below_drew1 | refine below_set ?_ GE215.out) | exact HB.out)) : P := h
theorem z6_1 {P : Prop} (h : P := by repeat (first | (with_reducible first | exact HB.out | apply below_alloc | apply pw_below_drewN | apply below_drew1) | exact HB.out)) : P := h
theorem z6_2 {P : Prop} (h : P := by (try simp only [List.map_toArray, List.map_cons, List.map_nil]); first | done | rfl | (simp only [List.length_drop, List.length_take]; rfl)) : P := h
theorem z6_3 {P : Prop} (h : P := by repeat (first | exact Drawn0.refl _ | apply Drawn0.step)) : P := h
theorem z6_4 {P : Prop} (h : P := by first | rfl | (simp [errW_none, errW_some] <;> rfl) | (simp [*, errW_none, errW_some] <;> rfl)) : P := h
theorem z6_5 {P : Prop} (h : P := by repeat (first | (with_reducible first | exact HB.out | apply below_alloc | apply pw_below_drewN | apply below_drew1 | refine below_set ?_ GE213.out) | exact HB.out)) : P := h
theorem z6_6 {P : Prop} (h : P := by apply blk_fin; (focus ((with_reducible repeat (first | apply blk_putQ | refine blk_drewN ?_ _ | refine blk_drew ?_ | refine blk_alloc ?_ _)); exact BK213.out)); first | (simp only [List.setIfInBounds_toArray, List.set_cons_zero, List.set_cons_succ]; done) | rfl) : P := h
theorem z6_7 {P : Prop} (h : P := by first | rfl | (simp [errW_none, errW_some] <;> rfl) | (simp only [← hji20]; first | rfl | (simp [errW_none, errW_some] <;> rfl)) | (simp [*, errW_none, errW_some] <;> rfl)) : P := h
theorem z6_8 {P : Prop} (h : P := by repeat (first | (with_reducible first | exact HB.out | apply below_alloc | apply pw_below_drewN | apply below_drew1 | refine below_set ?_ GE209.out) | exact HB.out)) : P := h
/-! ### impl_NeedOf: function 28 -/
def impl_NeedOf.j0 : Nat → Int → Bool → Option (Int)
 | 0, _, _ => none
 | k + 1, x3, x4 => if x4 = true then (some 1) else (if x3 = 3 then (some 2) else (if x3 = 4 then (some 3) else (if x3 = 5 then (some 0) else (some (-1)))))
def impl_NeedOf.f (k : Nat) (a0 : Int) : Option (Int) := if a0 = 1 then (impl_NeedOf.j0 k a0 (a0 == 1)) else (impl_NeedOf.j0 k a0 (a0 == 2))
theorem impl_NeedOf.mono_l : ∀ k, (∀ y0 y1, LeO (impl_NeedOf.j0 k y0 y1) (impl_NeedOf.j0 (k + 1) y0 y1))
 | 0 => fun _ _ r h => by simp [impl_NeedOf.j0] at h
 | k + 1 => by
  have ih0 := impl_NeedOf.mono_l k
  ·intro y0 y1
   unfold impl_NeedOf.j0
   repeat' first
   | (with_reducible exact ih0 _ _)
   | (with_reducible exact LeO.refl _)
   | (with_reducible exact LeO.none _)
   | (with_reducible refine LeO.ite ?_ ?_)
   | (with_reducible refine LeO.bind ?_ (fun _ => ?_))
theorem impl_NeedOf.mono : ∀ a0 k, LeO (impl_NeedOf.f k a0) (impl_NeedOf.f (k + 1) a0) := by
 intro a0 k
 have ih0 := impl_NeedOf.mono_l k
 unfold impl_NeedOf.f
 repeat' first
   | (with_reducible exact ih0 _ _)
   | (with_reducible exact LeO.refl _)
   | (with_reducible exact LeO.none _)
   | (with_reducible refine LeO.ite ?_ ?_)
   | (with_reducible refine LeO.bind ?_ (fun _ => ?_))
set_option maxHeartbeats 8000000 in
set_option maxRecDepth 100000 in
theorem impl_NeedOf.calls (k : Nat) (a0 : Int) (r : Int) (w : World) (h : impl_NeedOf.f k a0 = some r) :
  Calls Try.prog 28 #[.int .i64 a0] w fun e w' => e = .returned (.int .i64 r) ∧ Drawn0 w w' := by
 have H : (if a0 = 1 then (impl_NeedOf.j0 k a0 (a0 == 1)) else (impl_NeedOf.j0 k a0 (a0 == 2))) = some r := h
 clear h
 have HC2 := mk0 H
 clear H
 go_enter Try.func28, Try.ntmps28
 go_upto_if 4 with (fail)
 go_cut [4] (fun v4 wc => ∃ (kq : Nat) (x4_1 : Bool), v4 = .bool x4_1 ∧ Aside0 (impl_NeedOf.j0 kq a0 x4_1 = some r) ∧ Aside0 (kq ≤ k) ∧ Drawn0 w wc)
 case first =>
  have H := HC2.out; clear HC2
  by_cases c3 : a0 = 1
  rotate_left
  ·rw [if_neg c3] at H
   have c3b0 : (a0 == 1) = false := beq_eq_false_iff_ne.mpr c3
   have c3b1 : (a0 != 1) = true := bne_iff_ne.mpr c3
   (first | rw [c3b0] | (simp only [i64_w, i32_w]; rw [c3b0]) | skip)
   have H' := mk0 H
   clear H
   go_wp2
   go_meet
   case rel => exact ⟨_, ((a0 == 2)), rs0, H', ⟨(by first | omega | exact Nat.le_refl _)⟩, z6_3⟩
  rw [if_pos c3] at H
  have c3b0 : (a0 == 1) = true := beq_iff_eq.mpr c3
  have c3b1 : (a0 != 1) = false := bne_eq_false_iff_eq.mpr c3
  clear c3
  (first | rw [c3b0] | (simp only [i64_w, i32_w]; rw [c3b0]) | skip)
  have H' := mk0 H
  clear H
  go_wp2
  go_meet
  case rel => exact ⟨_, ((a0 == 1)), rs0, H', ⟨(by first | omega | exact Nat.le_refl _)⟩, z6_3⟩
 case rest =>
  clear HC2; try clear c2
  try clear p2
  try clear c3
  try clear c3b0
  try clear c3b1
  obtain ⟨kq, x4_1, rfl, HA, HJ1, ⟨mc1, rfl⟩⟩ := hcut
  cases kq with
  | zero => exact absurd HA.out (by simp [impl_NeedOf.j0])
  | succ kj1 =>
   have H := HA.out; clear HA
   simp only [impl_NeedOf.j0] at H
   by_cases c4 : x4_1 = true
   ·subst c4
    rw [if_pos rfl] at H
    obtain rfl := Option.some.inj H
    simp only [Option.some.injEq, Prod.mk.injEq] at H
    obtain ⟨rfl⟩ := H
    go_wp2
    go_ret
    exact ⟨rs0, z6_3⟩
   replace c4 := Bool.eq_false_iff.mpr c4
   subst c4
   rw [if_neg (show ¬ (false = true) by decide)] at H
   by_cases c5 : a0 = 3
   ·rw [if_pos c5] at H
    have c5b0 : (a0 == 3) = true := beq_iff_eq.mpr c5
    have c5b1 : (a0 != 3) = false := bne_eq_false_iff_eq.mpr c5
    clear c5
    obtain rfl := Option.some.inj H
    simp only [Option.some.injEq, Prod.mk.injEq] at H
    obtain ⟨rfl⟩ := H
    go_wp2
    go_ret
    exact ⟨rs0, z6_3⟩
   rw [if_neg c5] at H
   have c5b0 : (a0 == 3) = false := beq_eq_false_iff_ne.mpr c5
   have c5b1 : (a0 != 3) = true := bne_iff_ne.mpr c5
   by_cases c6 : a0 = 4
   ·rw [if_pos c6] at H
    have c6b0 : (a0 == 4) = true := beq_iff_eq.mpr c6
    have c6b1 : (a0 != 4) = false := bne_eq_false_iff_eq.mpr c6
    clear c6
    obtain rfl := Option.some.inj H
    simp only [Option.some.injEq, Prod.mk.injEq] at H
    obtain ⟨rfl⟩ := H
    go_wp2
    go_ret
    exact ⟨rs0, z6_3⟩
   rw [if_neg c6] at H
   have c6b0 : (a0 == 4) = false := beq_eq_false_iff_ne.mpr c6
   have c6b1 : (a0 != 4) = true := bne_iff_ne.mpr c6
   by_cases c7 : a0 = 5
   rotate_left
   ·rw [if_neg c7] at H
    have c7b0 : (a0 == 5) = false := beq_eq_false_iff_ne.mpr c7
    have c7b1 : (a0 != 5) = true := bne_iff_ne.mpr c7
    obtain rfl := Option.some.inj H
    simp only [Option.some.injEq, Prod.mk.injEq] at H
    obtain ⟨rfl⟩ := H
    go_wp2
    go_ret
    exact ⟨rs0, z6_3⟩
   rw [if_pos c7] at H
   have c7b0 : (a0 == 5) = true := beq_iff_eq.mpr c7
   have c7b1 : (a0 != 5) = false := bne_eq_false_iff_eq.mpr c7
   clear c7
   obtain rfl := Option.some.inj H
   simp only [Option.some.injEq, Prod.mk.injEq] at H
   obtain ⟨rfl⟩ := H
   go_wp2
   go_ret
   exact ⟨rs0, z6_3⟩

/-! ### impl_inRange: function 64 -/
def impl_inRange.f (a0 : Int) (a1 : Int) (a2 : Int) : Option (Bool) := if a0 ≥ a1 then (some (decide (a0 ≤ a2))) else (some false)
set_option maxHeartbeats 8000000 in
set_option maxRecDepth 100000 in
theorem impl_inRange.calls (a0 : Int) (a1 : Int) (a2 : Int) (r : Bool) (w : World) (h : impl_inRange.f a0 a1 a2 = some r) :
  Calls Try.prog 64 #[.int .i64 a0, .int .i64 a1, .int .i64 a2] w fun e w' => e = .returned (.bool r) ∧ Drawn0 w w' := by
 have H : (if a0 ≥ a1 then (some (decide (a0 ≤ a2))) else (some false)) = some r := h
 clear h
 by_cases c4 : a0 ≥ a1
 ·rw [if_pos c4] at H
  have c4b0 := decide_eq_true c4
  clear c4
  obtain rfl := Option.some.inj H
  simp only [Option.some.injEq, Prod.mk.injEq] at H
  obtain ⟨rfl⟩ := H
  go_enter Try.func64, Try.ntmps64
  go_wp2
  go_ret
  exact ⟨rs0, z6_3⟩
 ·rw [if_neg c4] at H
  have c4b0 := decide_eq_false c4
  clear c4
  obtain rfl := Option.some.inj H
  simp only [Option.some.injEq, Prod.mk.injEq] at H
  obtain ⟨rfl⟩ := H
  go_enter Try.func64, Try.ntmps64
  go_wp2
  go_ret
  exact ⟨rs0, z6_3⟩

/-! ### impl_isFar: function 62 -/
def impl_isFar.f (a0 : Int) : Option (Bool) := (impl_inRange.f a0 (-8388608) 8388608).bind fun t208 => (some t208)
set_option maxHeartbeats 8000000 in
set_option maxRecDepth 100000 in
theorem impl_isFar.calls (a0 : Int) (r : Bool) (w : World) (h : impl_isFar.f a0 = some r) :
  Calls Try.prog 62 #[.int .i64 a0] w fun e w' => e = .returned (.bool r) ∧ Drawn0 w w' := by
 have H : ((impl_inRange.f a0 (-8388608) 8388608).bind fun t208 => (some t208)) = some r := h
 clear h
 replace H := Option.bind_eq_some_iff.mp H
 obtain ⟨t208, A20, H⟩ := H
 try dsimp only at H
 have A2 := mk0 A20
 clear A20
 obtain rfl := Option.some.inj H
 simp only [Option.some.injEq, Prod.mk.injEq] at H
 obtain ⟨rfl⟩ := H
 go_enter Try.func62, Try.ntmps62
 go_wp2_with (first | ((with_reducible refine gate_callee (f := 64) rfl ?_); refine goesL_ (some 4) rfl rfl Try.func64 (by kernel_rfl) rfl #[.int .i64 a0, .int .i64 (-8388608), .int .i64 8388608] rfl z6_2 ?_; (with_reducible refine (impl_inRange.calls a0 (-8388608) 8388608 t208 _ A2.out).mono ?_); rintro e w' ⟨rfl, ⟨nd, rfl⟩⟩; refine ⟨_, rfl, ?_⟩))
 go_ret
 exact ⟨rs0, z6_3⟩

/-! ### impl_PointOk: function 56 -/
def impl_PointOk.f (a0_0 : Int) (a0_1 : Int) : Option (Bool) := (impl_isFar.f a0_0).bind fun t210 => (if t210 = true then ((impl_isFar.f a0_1).bind fun t211 => (some t211)) else (some false))
set_option maxHeartbeats 8000000 in
set_option maxRecDepth 100000 in
theorem impl_PointOk.calls (a0_0 : Int) (a0_1 : Int) (r : Bool) (w : World) (h : impl_PointOk.f a0_0 a0_1 = some r) :
  Calls Try.prog 56 #[.agg #[.int .i64 a0_0, .int .i64 a0_1]] w fun e w' => e = .returned (.bool r) ∧ Below w.heap.size w w' := by
 have hu46 := Try.underlying46
 have HB := mk0 (Below.refl w.heap.size w)
 have H : ((impl_isFar.f a0_0).bind fun t210 => (if t210 = true then ((impl_isFar.f a0_1).bind fun t211 => (some t211)) else (some false))) = some r := h
 clear h
 replace H := Option.bind_eq_some_iff.mp H
 obtain ⟨t210, A20, H⟩ := H
 try dsimp only at H
 have A2 := mk0 A20
 clear A20
 by_cases c3 : t210 = true
 rotate_left
 ·replace c3 := Bool.eq_false_iff.mpr c3
  subst c3
  rw [if_neg (show ¬ (false = true) by decide)] at H
  obtain rfl := Option.some.inj H
  simp only [Option.some.injEq, Prod.mk.injEq] at H
  obtain ⟨rfl⟩ := H
  go_enter Try.func56, Try.ntmps56
  go_wp2_with (first | ((with_reducible refine gate_dst (N := 1) rfl ?_); refine boxz (cs := #[.int .i64 a0_0, .int .i64 a0_1]) (t := 46) rfl ?_; intro gb209 hg w7 hbox hb; have n0_ := mk0 (below_step z6_1 hb); have n1_ := mk0 (hbox); have GW209 := mk0 (ge_go (a := w.heap.size) hg (below_size z6_1)); have GE209 := GW209; clear HB; have HB := n0_; have BK209 := n1_; clear n0_ n1_ ; clear hb hbox hg; obtain ⟨_, _, _, _⟩ := be_2 BK209.out) | ((with_reducible refine gate_callee (f := 62) rfl ?_); refine goesL_ (some 5) rfl rfl Try.func62 (by kernel_rfl) rfl #[.int .i64 a0_0] rfl z6_2 ?_; (with_reducible refine (impl_isFar.calls a0_0 false _ A2.out).mono ?_); rintro e w' ⟨rfl, ⟨nd, rfl⟩⟩; refine ⟨_, rfl, ?_⟩))
  go_ret
  exact ⟨z6_4, z6_8⟩
 subst c3
 rw [if_pos rfl] at H
 replace H := Option.bind_eq_some_iff.mp H
 obtain ⟨t211, A40, H⟩ := H
 try dsimp only at H
 have A4 := mk0 A40
 clear A40
 obtain rfl := Option.some.inj H
 simp only [Option.some.injEq, Prod.mk.injEq] at H
 obtain ⟨rfl⟩ := H
 go_enter Try.func56, Try.ntmps56
 go_wp2_with (first | ((with_reducible refine gate_dst (N := 1) rfl ?_); refine boxz (cs := #[.int .i64 a0_0, .int .i64 a0_1]) (t := 46) rfl ?_; intro gb209 hg w5 hbox hb; have n0_ := mk0 (below_step z6_1 hb); have n1_ := mk0 (hbox); have GW209 := mk0 (ge_go (a := w.heap.size) hg (below_size z6_1)); have GE209 := GW209; clear HB; have HB := n0_; have BK209 := n1_; clear n0_ n1_ ; clear hb hbox hg; obtain ⟨_, _, _, _⟩ := be_2 BK209.out) | ((with_reducible refine gate_callee (f := 62) rfl ?_); refine goesL_ (some 5) rfl rfl Try.func62 (by kernel_rfl) rfl #[.int .i64 a0_0] rfl z6_2 ?_; (with_reducible refine (impl_isFar.calls a0_0 true _ A2.out).mono ?_); rintro e w' ⟨rfl, ⟨nd, rfl⟩⟩; refine ⟨_, rfl, ?_⟩) | (go_at_call 62; (with_reducible refine (impl_isFar.calls a0_1 t211 _ A4.out).mono ?_); rintro e w' ⟨rfl, ⟨nd, rfl⟩⟩))
 go_ret
 exact ⟨z6_4, z6_8⟩

/-! ### impl_pointsOk: function 44 -/
def impl_pointsOk.l0 : Nat → List (S46) → Int → Int → Option (Bool)
 | 0, _, _, _ => none
 | k + 1, x5, x6, x7 => if x7 < x6 then (if 0 ≤ x7 then (if x7 < (x5.length : Int) then ((impl_PointOk.f ((rd_T46 x5 x7).f0) ((rd_T46 x5 x7).f1)).bind fun t214 => (if t214 = true then (impl_pointsOk.l0 k x5 x6 (wrap64 (x7 + 1))) else (some false))) else (none)) else (none)) else (some true)
def impl_pointsOk.f (k : Nat) (l0 : List (S46)) : Option (Bool) := impl_pointsOk.l0 k l0 (l0.length : Int) 0
theorem impl_pointsOk.mono_l : ∀ k, (∀ y0 y1 y2, LeO (impl_pointsOk.l0 k y0 y1 y2) (impl_pointsOk.l0 (k + 1) y0 y1 y2))
 | 0 => fun _ _ _ r h => by simp [impl_pointsOk.l0] at h
 | k + 1 => by
  have ih0 := impl_pointsOk.mono_l k
  ·intro y0 y1 y2
   unfold impl_pointsOk.l0
   repeat' first
   | (with_reducible exact ih0 _ _ _)
   | (with_reducible exact LeO.refl _)
   | (with_reducible exact LeO.none _)
   | (with_reducible refine LeO.ite ?_ ?_)
   | (with_reducible refine LeO.bind ?_ (fun _ => ?_))
theorem impl_pointsOk.mono : ∀ a0 k, LeO (impl_pointsOk.f k a0) (impl_pointsOk.f (k + 1) a0) := by
 intro a0 k
 have ih0 := impl_pointsOk.mono_l k
 unfold impl_pointsOk.f
 repeat' first
   | (with_reducible exact ih0 _ _ _)
   | (with_reducible exact LeO.refl _)
   | (with_reducible exact LeO.none _)
   | (with_reducible refine LeO.ite ?_ ?_)
   | (with_reducible refine LeO.bind ?_ (fun _ => ?_))
set_option maxHeartbeats 8000000 in
set_option maxRecDepth 100000 in
theorem impl_pointsOk.calls (k : Nat) (A0 : Option Addr) (c0 : Nat) (l0 : List (S46)) (r : Bool) (w : World) (hr0 : Kd.C k46 w A0 l0.length l0) (hc0 : l0.length ≤ c0) (h : impl_pointsOk.f k l0 = some r) :
  Calls Try.prog 44 #[.slice A0 l0.length c0] w fun e w' => e = .returned (.bool r) ∧ Below w.heap.size w w' := by
 have hu46 := Try.underlying46
 have HR0 := mk0 hr0
 have HC0 := mk0 hc0
 clear hr0 hc0
 have HB := mk0 (Below.refl w.heap.size w)
 have H : (impl_pointsOk.l0 k l0 (l0.length : Int) 0) = some r := h
 clear h
 have H' := mk0 H
 clear H
 go_enter Try.func44, Try.ntmps44
 go_wp2
 go_loopg [7] k (fun kq v7 w' => ∃ (x7_1 : Int), v7 = .int .i64 x7_1 ∧ Aside0 (impl_pointsOk.l0 kq l0 (l0.length : Int) x7_1 = some r) ∧ Aside0 (kq ≤ k) ∧ Aside0 (Below w.heap.size w w'))
 case atStart => exact ⟨(0), rs0, H', ⟨Nat.le_refl _⟩, ⟨z6_1⟩⟩
 case round =>
  clear H'
  obtain ⟨x7_1, rfl, HA, HK1, HB⟩ := hrel
  cases gk with
  | zero => exact absurd HA.out (by simp [impl_pointsOk.l0])
  | succ k1 =>
   have H := HA.out; clear HA
   simp only [impl_pointsOk.l0] at H
   by_cases c2 : x7_1 < (l0.length : Int)
   rotate_left
   ·rw [if_neg c2] at H
    have c2b0 := decide_eq_false c2
    clear c2
    obtain rfl := Option.some.inj H
    simp only [Option.some.injEq, Prod.mk.injEq] at H
    obtain ⟨rfl⟩ := H
    go_wp2
    go_ret
    exact ⟨z6_4, z6_1⟩
   rw [if_pos c2] at H
   have c2b0 := decide_eq_true c2
   clear c2
   by_cases c3 : 0 ≤ x7_1
   rotate_left
   ·rw [if_neg c3] at H
    exact absurd H (by simp)
   rw [if_pos c3] at H
   have c3b0 := decide_eq_true c3
   clear c3
   by_cases c4 : x7_1 < (l0.length : Int)
   rotate_left
   ·rw [if_neg c4] at H
    exact absurd H (by simp)
   rw [if_pos c4] at H
   have c4b0 := decide_eq_true c4
   clear c4
   replace H := Option.bind_eq_some_iff.mp H
   obtain ⟨t214, A50, H⟩ := H
   try dsimp only at H
   have A5 := mk0 A50
   clear A50
   by_cases c6 : t214 = true
   ·subst c6
    rw [if_pos rfl] at H
    have H' := mk0 H
    clear H
    have p212 : 0 ≤ (x7_1 : Int) := of_decide_eq_true (by first | (with_reducible assumption) | assumption)
    have q212 : x7_1 < (l0.length : Int) := of_decide_eq_true (by first | (with_reducible assumption) | assumption)
    obtain ⟨ad212, e212, hx212_0, hx212_1⟩ := at_T46 HR0.out x7_1 p212 q212
    cases e212
    replace hx212_0 := cell_go HB hx212_0
    replace hx212_1 := cell_go HB hx212_1
    replace p212 := eq_true p212
    replace q212 := eq_true q212
    go_wp2_with (first | ((with_reducible refine gate_dst (N := 4) rfl ?_); refine boxz (cs := #[.int .i64 0, .int .i64 0]) (t := 46) rfl ?_; intro gb213 hg w7 hbox hb; have n0_ := mk0 (below_step z6_1 hb); have n1_ := mk0 (hbox); have GW213 := mk0 (ge_go (a := w.heap.size) hg (below_size z6_1)); have GE213 := GW213; clear HB; have HB := n0_; have BK213 := n1_; clear n0_ n1_ ; clear hb hbox hg; obtain ⟨_, _, _, _⟩ := be_2 BK213.out) | ((with_reducible refine gate_callee (f := 56) rfl ?_); refine goesL_ (some 12) rfl rfl Try.func56 (by kernel_rfl) rfl #[.agg #[.int .i64 ((rd_T46 l0 x7_1).f0), .int .i64 ((rd_T46 l0 x7_1).f1)]] rfl z6_2 ?_; (with_reducible refine (impl_PointOk.calls ((rd_T46 l0 x7_1).f0) ((rd_T46 l0 x7_1).f1) true _ A5.out).mono ?_); rintro e w9 ⟨rfl, hb⟩; refine ⟨_, rfl, ?_⟩; have n0_ := mk0 (blk_below (g := gb213) (o := .cells #[.int .i64 ((rd_T46 l0 x7_1).f0), .int .i64 ((rd_T46 l0 x7_1).f1)] 46 (0, 0)) z6_6 hb); have n1_ := mk0 (below_step z6_5 hb); clear BK213 HB; have BK213 := n0_; have HB := n1_; clear n0_ n1_; (try clear hb)))
    go_roundg k1
    case measure => have := HK1.out; omega
    case rel => exact ⟨(wrap64 (x7_1 + 1)), rs0, H', ⟨(by have := HK1.out; omega)⟩, ⟨z6_5⟩⟩
   replace c6 := Bool.eq_false_iff.mpr c6
   subst c6
   rw [if_neg (show ¬ (false = true) by decide)] at H
   obtain rfl := Option.some.inj H
   simp only [Option.some.injEq, Prod.mk.injEq] at H
   obtain ⟨rfl⟩ := H
   have p212 : 0 ≤ (x7_1 : Int) := of_decide_eq_true (by first | (with_reducible assumption) | assumption)
   have q212 : x7_1 < (l0.length : Int) := of_decide_eq_true (by first | (with_reducible assumption) | assumption)
   obtain ⟨ad212, e212, hx212_0, hx212_1⟩ := at_T46 HR0.out x7_1 p212 q212
   cases e212
   replace hx212_0 := cell_go HB hx212_0
   replace hx212_1 := cell_go HB hx212_1
   replace p212 := eq_true p212
   replace q212 := eq_true q212
   go_wp2_with (first | ((with_reducible refine gate_dst (N := 4) rfl ?_); refine boxz (cs := #[.int .i64 0, .int .i64 0]) (t := 46) rfl ?_; intro gb213 hg w10 hbox hb; have n0_ := mk0 (below_step z6_1 hb); have n1_ := mk0 (hbox); have GW213 := mk0 (ge_go (a := w.heap.size) hg (below_size z6_1)); have GE213 := GW213; clear HB; have HB := n0_; have BK213 := n1_; clear n0_ n1_ ; clear hb hbox hg; obtain ⟨_, _, _, _⟩ := be_2 BK213.out) | ((with_reducible refine gate_callee (f := 56) rfl ?_); refine goesL_ (some 12) rfl rfl Try.func56 (by kernel_rfl) rfl #[.agg #[.int .i64 ((rd_T46 l0 x7_1).f0), .int .i64 ((rd_T46 l0 x7_1).f1)]] rfl z6_2 ?_; (with_reducible refine (impl_PointOk.calls ((rd_T46 l0 x7_1).f0) ((rd_T46 l0 x7_1).f1) false _ A5.out).mono ?_); rintro e w12 ⟨rfl, hb⟩; refine ⟨_, rfl, ?_⟩; have n0_ := mk0 (blk_below (g := gb213) (o := .cells #[.int .i64 ((rd_T46 l0 x7_1).f0), .int .i64 ((rd_T46 l0 x7_1).f1)] 46 (0, 0)) z6_6 hb); have n1_ := mk0 (below_step z6_5 hb); clear BK213 HB; have BK213 := n0_; have HB := n1_; clear n0_ n1_; (try clear hb)))
   go_ret
   exact ⟨z6_4, z6_5⟩

/-! ### impl_PathOk: function 27 -/
mutual
def impl_PathOk.j0 : Nat → Bool → List Int → List (S46) → Option (Bool)
 | 0, _, _, _ => none
 | k + 1, x23, x216000, x216001 => if x23 = true then (some false) else (impl_PathOk.l0 k 0 x216000 (x216000.length : Int) 0 x216000 x216001)
def impl_PathOk.l0 : Nat → Int → List Int → Int → Int → List Int → List (S46) → Option (Bool)
 | 0, _, _, _, _, _, _ => none
 | k + 1, x3, x25, x26, x27, x216000, x216001 => if x27 < x26 then (if 0 ≤ x27 then (if x27 < (x25.length : Int) then ((impl_NeedOf.f k (rd x25 x27)).bind fun t218 => (if x27 = 0 then (if t218 < 0 then (some false) else (if (rd x25 x27) = 1 then (impl_PathOk.l0 k (wrap64 (x3 + t218)) x25 x26 (wrap64 (x27 + 1)) x216000 x216001) else (some false))) else (if 0 ≤ (wrap64 (x27 - 1)) then (if (wrap64 (x27 - 1)) < (x216000.length : Int) then (if t218 < 0 then (some false) else (if (rd x216000 (wrap64 (x27 - 1))) = 5 then (if (rd x25 x27) = 1 then (impl_PathOk.l0 k (wrap64 (x3 + t218)) x25 x26 (wrap64 (x27 + 1)) x216000 x216001) else (some false)) else (impl_PathOk.l0 k (wrap64 (x3 + t218)) x25 x26 (wrap64 (x27 + 1)) x216000 x216001))) else (none)) else (none)))) else (none)) else (none)) else (some (x3 == (x216001.length : Int)))
end
def impl_PathOk.f (k : Nat) (l0_0 : List Int) (l0_1 : List (S46)) : Option (Bool) := if (l0_1.length : Int) > 24 then (impl_PathOk.j0 k true l0_0 l0_1) else (if (l0_0.length : Int) > 24 then (impl_PathOk.j0 k true l0_0 l0_1) else ((impl_pointsOk.f k l0_1).bind fun t216 => (impl_PathOk.j0 k (!t216) l0_0 l0_1)))
theorem impl_PathOk.mono_l : ∀ k, (∀ y0 y1 y2, LeO (impl_PathOk.j0 k y0 y1 y2) (impl_PathOk.j0 (k + 1) y0 y1 y2)) ∧ (∀ y0 y1 y2 y3 y4 y5, LeO (impl_PathOk.l0 k y0 y1 y2 y3 y4 y5) (impl_PathOk.l0 (k + 1) y0 y1 y2 y3 y4 y5))
 | 0 => ⟨fun _ _ _ r h => by simp [impl_PathOk.j0] at h, fun _ _ _ _ _ _ r h => by simp [impl_PathOk.l0] at h⟩
 | k + 1 => by
  obtain ⟨ih0, ih1⟩ := impl_PathOk.mono_l k
  refine ⟨?_, ?_⟩
  ·intro y0 y1 y2
   unfold impl_PathOk.j0
   repeat' first
   | (with_reducible exact ih0 _ _ _)
   | (with_reducible exact ih1 _ _ _ _ _ _)
   | (with_reducible exact impl_NeedOf.mono _ _)
   | (with_reducible exact impl_pointsOk.mono _ _)
   | (with_reducible exact LeO.refl _)
   | (with_reducible exact LeO.none _)
   | (with_reducible refine LeO.ite ?_ ?_)
   | (with_reducible refine LeO.bind ?_ (fun _ => ?_))
  ·intro y0 y1 y2 y3 y4 y5
   unfold impl_PathOk.l0
   repeat' first
   | (with_reducible exact ih0 _ _ _)
   | (with_reducible exact ih1 _ _ _ _ _ _)
   | (with_reducible exact impl_NeedOf.mono _ _)
   | (with_reducible exact impl_pointsOk.mono _ _)
   | (with_reducible exact LeO.refl _)
   | (with_reducible exact LeO.none _)
   | (with_reducible refine LeO.ite ?_ ?_)
   | (with_reducible refine LeO.bind ?_ (fun _ => ?_))
theorem impl_PathOk.mono : ∀ a0 a1 k, LeO (impl_PathOk.f k a0 a1) (impl_PathOk.f (k + 1) a0 a1) := by
 intro a0 a1 k
 obtain ⟨ih0, ih1⟩ := impl_PathOk.mono_l k
 unfold impl_PathOk.f
 repeat' first
   | (with_reducible exact ih0 _ _ _)
   | (with_reducible exact ih1 _ _ _ _ _ _)
   | (with_reducible exact impl_NeedOf.mono _ _)
   | (with_reducible exact impl_pointsOk.mono _ _)
   | (with_reducible exact LeO.refl _)
   | (with_reducible exact LeO.none _)
   | (with_reducible refine LeO.ite ?_ ?_)
   | (with_reducible refine LeO.bind ?_ (fun _ => ?_))
set_option maxHeartbeats 8000000 in
set_option maxRecDepth 100000 in
theorem impl_PathOk.calls (k : Nat) (A0_0 : Option Addr) (c0_0 : Nat) (l0_0 : List Int) (A0_1 : Option Addr) (c0_1 : Nat) (l0_1 : List (S46)) (r : Bool) (w : World) (hr0_0 : Kd.C (Kd.int .i64) w A0_0 l0_0.length l0_0) (hc0_0 : l0_0.length ≤ c0_0) (hr0_1 : Kd.C k46 w A0_1 l0_1.length l0_1) (hc0_1 : l0_1.length ≤ c0_1) (h : impl_PathOk.f k l0_0 l0_1 = some r) :
  Calls Try.prog 27 #[.agg #[.slice A0_0 l0_0.length c0_0, .slice A0_1 l0_1.length c0_1]] w fun e w' => e = .returned (.bool r) ∧ Below w.heap.size w w' := by
 have hu31 := Try.underlying31
 have HR0_0 := mk0 hr0_0
 have HC0_0 := mk0 hc0_0
 clear hr0_0 hc0_0
 have HR0_1 := mk0 hr0_1
 have HC0_1 := mk0 hc0_1
 clear hr0_1 hc0_1
 have HB := mk0 (Below.refl w.heap.size w)
 have H : (if (l0_1.length : Int) > 24 then (impl_PathOk.j0 k true l0_0 l0_1) else (if (l0_0.length : Int) > 24 then (impl_PathOk.j0 k true l0_0 l0_1) else ((impl_pointsOk.f k l0_1).bind fun t216 => (impl_PathOk.j0 k (!t216) l0_0 l0_1)))) = some r := h
 clear h
 have HC2 := mk0 H
 clear H
 go_enter Try.func27, Try.ntmps27
 go_upto_region 1 with (first | ((with_reducible refine gate_dst (N := 1) rfl ?_); (try (refine gate_guard (by rfl) ?_; dsimp only)); refine boxz (cs := #[.slice A0_0 l0_0.length c0_0, .slice A0_1 l0_1.length c0_1]) (t := 31) rfl ?_; intro gb215 hg w3 hbox hb; have n0_ := mk0 (below_step z6_1 hb); have n1_ := mk0 (hbox); have GW215 := mk0 (ge_go (a := w.heap.size) hg (below_size z6_1)); have GE215 := GW215; clear HB; have HB := n0_; have BK215 := n1_; clear n0_ n1_ ; clear hb hbox hg))
 (try simp only [Act.put, List.setIfInBounds_toArray, List.set_cons_zero, List.set_cons_succ])
 go_cut [23] (fun v23 wc => ∃ (kq : Nat) (x23_1 : Bool), v23 = .bool x23_1 ∧ Aside0 (impl_PathOk.j0 kq x23_1 l0_0 l0_1 = some r) ∧ Aside0 (kq ≤ k) ∧ Aside0 (wc.heap[gb215]? = some (.cells #[(.slice A0_0 l0_0.length c0_0), (.slice A0_1 l0_1.length c0_1)] 31 (0, 0))) ∧ Aside0 (Below w.heap.size w wc))
 case first =>
  have H := HC2.out; clear HC2
  by_cases c4 : (l0_1.length : Int) > 24
  ·rw [if_pos c4] at H
   have c4b0 := decide_eq_true c4
   have c4b1 : decide (24 < l0_1.length) = true := decide_eq_true (by omega)
   clear c4
   (first | rw [c4b0] | (simp only [i64_w, i32_w]; rw [c4b0]) | skip)
   have H' := mk0 H
   clear H
   obtain ⟨_, _, _, _⟩ := be_2 BK215.out
   go_wp2
   go_meet
   case rel => exact ⟨_, (true), rs0, H', ⟨(by first | omega | exact Nat.le_refl _)⟩, ⟨pkb BK215⟩, ⟨z6_0⟩⟩
  rw [if_neg c4] at H
  have c4b0 := decide_eq_false c4
  have c4b1 : decide (24 < l0_1.length) = false := decide_eq_false (by omega)
  clear c4
  (first | rw [c4b0] | (simp only [i64_w, i32_w]; rw [c4b0]) | skip)
  by_cases c6 : (l0_0.length : Int) > 24
  ·rw [if_pos c6] at H
   have c6b0 := decide_eq_true c6
   have c6b1 : decide (24 < l0_0.length) = true := decide_eq_true (by omega)
   clear c6
   have H' := mk0 H
   clear H
   obtain ⟨_, _, _, _⟩ := be_2 BK215.out
   go_wp2
   go_meet
   case rel => exact ⟨_, (true), rs0, H', ⟨(by first | omega | exact Nat.le_refl _)⟩, ⟨pkb BK215⟩, ⟨z6_0⟩⟩
  rw [if_neg c6] at H
  have c6b0 := decide_eq_false c6
  have c6b1 : decide (24 < l0_0.length) = false := decide_eq_false (by omega)
  clear c6
  replace H := Option.bind_eq_some_iff.mp H
  obtain ⟨t216, A80, H⟩ := H
  try dsimp only at H
  have A8 := mk0 A80
  clear A80
  have H' := mk0 H
  clear H
  obtain ⟨_, _, _, _⟩ := be_2 BK215.out
  go_wp2_with (first | (go_at_call 44; (with_reducible refine (impl_pointsOk.calls k _ _ l0_1 t216 _ ?side1 ?side2 A8.out).mono ?_); (case side1 => repeat (first | exact (Kd.C_below HR0_1.out HB.out) | (with_reducible refine Kd.C_alloc ?_ _) | (with_reducible refine Kd.C_drewN ?_ _) | (with_reducible refine Kd.C_drew ?_))); (case side2 => exact HC0_1.out); rintro e w10 ⟨rfl, hb⟩; have n0_ := mk0 (blk_belowB BK215 (pkb BK215) hb); have n1_ := mk0 (below_step z6_0 hb); clear BK215 HB; have BK215 := n0_; have HB := n1_; clear n0_ n1_; (try clear hb)))
  go_meet
  case rel => exact ⟨_, (!t216), rs0, H', ⟨(by first | omega | exact Nat.le_refl _)⟩, ⟨pkb BK215⟩, ⟨z6_0⟩⟩
 case rest =>
  clear HC2; try clear c2
  try clear p2
  try clear c4
  try clear c4b0
  try clear c4b1
  try clear c6
  try clear c6b0
  try clear c6b1
  try clear hcz5_0
  try clear hcz5_1
  try clear hcz7_0
  try clear hcz7_1
  try clear hcz9_0
  try clear hcz9_1
  try clear hfz5_0
  try clear hfz5_1
  try clear hfz7_0
  try clear hfz7_1
  try clear hfz9_0
  try clear hfz9_1
  obtain ⟨kq, x23_1, rfl, HA, HJ1, BK215, HB⟩ := hcut
  cases kq with
  | zero => exact absurd HA.out (by simp [impl_PathOk.j0])
  | succ kj1 =>
   have H := HA.out; clear HA
   simp only [impl_PathOk.j0] at H
   by_cases c11 : x23_1 = true
   ·subst c11
    rw [if_pos rfl] at H
    obtain rfl := Option.some.inj H
    simp only [Option.some.injEq, Prod.mk.injEq] at H
    obtain ⟨rfl⟩ := H
    go_wp2
    go_ret
    exact ⟨z6_4, z6_0⟩
   replace c11 := Bool.eq_false_iff.mpr c11
   subst c11
   rw [if_neg (show ¬ (false = true) by decide)] at H
   have H' := mk0 H
   clear H
   obtain ⟨_, _, _, _⟩ := be_2 BK215.out
   go_wp2
   go_loopg [3, 27] kj1 (fun kq v3 v27 w' => ∃ (x3_2 : Int) (x27_2 : Int), v3 = .int .i64 x3_2 ∧ v27 = .int .i64 x27_2 ∧ Aside0 (impl_PathOk.l0 kq x3_2 l0_0 (l0_0.length : Int) x27_2 l0_0 l0_1 = some r) ∧ Aside0 (kq ≤ kj1) ∧ Aside0 (w'.heap[gb215]? = some (.cells #[(.slice A0_0 l0_0.length c0_0), (.slice A0_1 l0_1.length c0_1)] 31 (0, 0))) ∧ Aside0 (Below w.heap.size w w'))
   case atStart => exact ⟨(0), (0), rs0, rs0, H', ⟨Nat.le_refl _⟩, ⟨pkb BK215⟩, ⟨z6_0⟩⟩
   case round =>
    clear H'
    try clear c1
    try clear c2
    try clear p2
    try clear c4
    try clear c4b0
    try clear c4b1
    try clear c6
    try clear c6b0
    try clear c6b1
    try clear c11
    try clear hcz12_0
    try clear hcz12_1
    try clear hcz5_0
    try clear hcz5_1
    try clear hcz7_0
    try clear hcz7_1
    try clear hcz9_0
    try clear hcz9_1
    try clear hfz12_0
    try clear hfz12_1
    try clear hfz5_0
    try clear hfz5_1
    try clear hfz7_0
    try clear hfz7_1
    try clear hfz9_0
    try clear hfz9_1
    try clear p2
    obtain ⟨x3_2, x27_2, rfl, rfl, HA, HK2, BK215, HB⟩ := hrel
    cases gk with
    | zero => exact absurd HA.out (by simp [impl_PathOk.l0])
    | succ k2 =>
     have H := HA.out; clear HA
     simp only [impl_PathOk.l0] at H
     by_cases c13 : x27_2 < (l0_0.length : Int)
     rotate_left
     ·rw [if_neg c13] at H
      have c13b0 := decide_eq_false c13
      clear c13
      obtain rfl := Option.some.inj H
      simp only [Option.some.injEq, Prod.mk.injEq] at H
      obtain ⟨rfl⟩ := H
      obtain ⟨_, _, _, _⟩ := be_2 BK215.out
      go_wp2
      go_ret
      exact ⟨z6_4, z6_0⟩
     rw [if_pos c13] at H
     have c13b0 := decide_eq_true c13
     clear c13
     by_cases c14 : 0 ≤ x27_2
     rotate_left
     ·rw [if_neg c14] at H
      exact absurd H (by simp)
     rw [if_pos c14] at H
     have c14b0 := decide_eq_true c14
     clear c14
     by_cases c15 : x27_2 < (l0_0.length : Int)
     rotate_left
     ·rw [if_neg c15] at H
      exact absurd H (by simp)
     rw [if_pos c15] at H
     have c15b0 := decide_eq_true c15
     clear c15
     replace H := Option.bind_eq_some_iff.mp H
     obtain ⟨t218, A160, H⟩ := H
     try dsimp only at H
     have A16 := mk0 A160
     clear A160
     by_cases c17 : x27_2 = 0
     ·rw [if_pos c17] at H
      have c17b0 : (x27_2 == 0) = true := beq_iff_eq.mpr c17
      have c17b1 : (x27_2 != 0) = false := bne_eq_false_iff_eq.mpr c17
      clear c17
      by_cases c18 : t218 < 0
      ·rw [if_pos c18] at H
       have c18b0 := decide_eq_true c18
       clear c18
       obtain rfl := Option.some.inj H
       simp only [Option.some.injEq, Prod.mk.injEq] at H
       obtain ⟨rfl⟩ := H
       have p217 : 0 ≤ (x27_2 : Int) := of_decide_eq_true (by first | (with_reducible assumption) | assumption)
       have q217 : x27_2 < (l0_0.length : Int) := of_decide_eq_true (by first | (with_reducible assumption) | assumption)
       obtain ⟨ad217, e217, hx217_0⟩ := Kd.at_int HR0_0.out x27_2 p217 q217
       cases e217
       replace hx217_0 := cell_go HB hx217_0
       replace p217 := eq_true p217
       replace q217 := eq_true q217
       go_wp2_with (first | ((with_reducible refine gate_callee (f := 28) rfl ?_); refine goesL_ (some 33) rfl rfl Try.func28 (by kernel_rfl) rfl #[.int .i64 (rd l0_0 x27_2)] rfl z6_2 ?_; (with_reducible refine (impl_NeedOf.calls k2 (rd l0_0 x27_2) t218 _ A16.out).mono ?_); rintro e w' ⟨rfl, ⟨nd, rfl⟩⟩; refine ⟨_, rfl, ?_⟩))
       go_ret
       exact ⟨z6_4, z6_0⟩
      rw [if_neg c18] at H
      have c18b0 := decide_eq_false c18
      clear c18
      by_cases c19 : (rd l0_0 x27_2) = 1
      rotate_left
      ·rw [if_neg c19] at H
       have c19b0 : ((rd l0_0 x27_2) == 1) = false := beq_eq_false_iff_ne.mpr c19
       have c19b1 : ((rd l0_0 x27_2) != 1) = true := bne_iff_ne.mpr c19
       obtain rfl := Option.some.inj H
       simp only [Option.some.injEq, Prod.mk.injEq] at H
       obtain ⟨rfl⟩ := H
       have p217 : 0 ≤ (x27_2 : Int) := of_decide_eq_true (by first | (with_reducible assumption) | assumption)
       have q217 : x27_2 < (l0_0.length : Int) := of_decide_eq_true (by first | (with_reducible assumption) | assumption)
       obtain ⟨ad217, e217, hx217_0⟩ := Kd.at_int HR0_0.out x27_2 p217 q217
       cases e217
       replace hx217_0 := cell_go HB hx217_0
       replace p217 := eq_true p217
       replace q217 := eq_true q217
       go_wp2_with (first | ((with_reducible refine gate_callee (f := 28) rfl ?_); refine goesL_ (some 33) rfl rfl Try.func28 (by kernel_rfl) rfl #[.int .i64 (rd l0_0 x27_2)] rfl z6_2 ?_; (with_reducible refine (impl_NeedOf.calls k2 (rd l0_0 x27_2) t218 _ A16.out).mono ?_); rintro e w' ⟨rfl, ⟨nd, rfl⟩⟩; refine ⟨_, rfl, ?_⟩))
       go_ret
       exact ⟨z6_4, z6_0⟩
      rw [if_pos c19] at H
      have c19b0 : ((rd l0_0 x27_2) == 1) = true := beq_iff_eq.mpr c19
      have c19b1 : ((rd l0_0 x27_2) != 1) = false := bne_eq_false_iff_eq.mpr c19
      clear c19
      have H' := mk0 H
      clear H
      have p217 : 0 ≤ (x27_2 : Int) := of_decide_eq_true (by first | (with_reducible assumption) | assumption)
      have q217 : x27_2 < (l0_0.length : Int) := of_decide_eq_true (by first | (with_reducible assumption) | assumption)
      obtain ⟨ad217, e217, hx217_0⟩ := Kd.at_int HR0_0.out x27_2 p217 q217
      cases e217
      replace hx217_0 := cell_go HB hx217_0
      replace p217 := eq_true p217
      replace q217 := eq_true q217
      go_wp2_with (first | ((with_reducible refine gate_callee (f := 28) rfl ?_); refine goesL_ (some 33) rfl rfl Try.func28 (by kernel_rfl) rfl #[.int .i64 (rd l0_0 x27_2)] rfl z6_2 ?_; (with_reducible refine (impl_NeedOf.calls k2 (rd l0_0 x27_2) t218 _ A16.out).mono ?_); rintro e w' ⟨rfl, ⟨nd, rfl⟩⟩; refine ⟨_, rfl, ?_⟩))
      go_roundg k2
      case measure => have := HJ1.out; have := HK2.out; omega
      case rel => exact ⟨(wrap64 (x3_2 + t218)), (wrap64 (x27_2 + 1)), rs0, rs0, H', ⟨(by have := HJ1.out; have := HK2.out; omega)⟩, ⟨pkb BK215⟩, ⟨z6_0⟩⟩
     rw [if_neg c17] at H
     have c17b0 : (x27_2 == 0) = false := beq_eq_false_iff_ne.mpr c17
     have c17b1 : (x27_2 != 0) = true := bne_iff_ne.mpr c17
     obtain ⟨ji20, hji20⟩ : ∃ j_ : Int, (wrap64 (x27_2 - 1)) = j_ := ⟨_, rfl⟩
     replace H : (if 0 ≤ (ji20) then (if (ji20) < (l0_0.length : Int) then (if t218 < 0 then (some false) else (if (rd l0_0 (ji20)) = 5 then (if (rd l0_0 x27_2) = 1 then (impl_PathOk.l0 k2 (wrap64 (x3_2 + t218)) l0_0 (l0_0.length : Int) (wrap64 (x27_2 + 1)) l0_0 l0_1) else (some false)) else (impl_PathOk.l0 k2 (wrap64 (x3_2 + t218)) l0_0 (l0_0.length : Int) (wrap64 (x27_2 + 1)) l0_0 l0_1))) else (none)) else (none)) = some r := by first | (rw [hji20] at H; exact H) | (simp only [hji20] at H ⊢; exact H)
     (try rw [hji20] at A16)
     have hji20w : (IntKind.i64.wrap (x27_2 - 1)) = ji20 := (i64_w _).trans hji20
     by_cases c21 : 0 ≤ (ji20)
     rotate_left
     ·rw [if_neg c21] at H
      exact absurd H (by simp)
     rw [if_pos c21] at H
     have c21b0 := decide_eq_true c21
     clear c21
     by_cases c22 : (ji20) < (l0_0.length : Int)
     rotate_left
     ·rw [if_neg c22] at H
      exact absurd H (by simp)
     rw [if_pos c22] at H
     have c22b0 := decide_eq_true c22
     clear c22
     by_cases c23 : t218 < 0
     ·rw [if_pos c23] at H
      have c23b0 := decide_eq_true c23
      clear c23
      obtain rfl := Option.some.inj H
      simp only [Option.some.injEq, Prod.mk.injEq] at H
      obtain ⟨rfl⟩ := H
      have p217 : 0 ≤ (x27_2 : Int) := of_decide_eq_true (by first | (with_reducible assumption) | assumption)
      have q217 : x27_2 < (l0_0.length : Int) := of_decide_eq_true (by first | (with_reducible assumption) | assumption)
      obtain ⟨ad217, e217, hx217_0⟩ := Kd.at_int HR0_0.out x27_2 p217 q217
      cases e217
      replace hx217_0 := cell_go HB hx217_0
      replace p217 := eq_true p217
      replace q217 := eq_true q217
      go_wp2_with (first | ((with_reducible refine gate_callee (f := 28) rfl ?_); refine goesL_ (some 33) rfl rfl Try.func28 (by kernel_rfl) rfl #[.int .i64 (rd l0_0 x27_2)] rfl z6_2 ?_; (with_reducible refine (impl_NeedOf.calls k2 (rd l0_0 x27_2) t218 _ A16.out).mono ?_); rintro e w' ⟨rfl, ⟨nd, rfl⟩⟩; refine ⟨_, rfl, ?_⟩; obtain ⟨_, _, _, _⟩ := be_2 BK215.out; have p219 : 0 ≤ ((ji20) : Int) := of_decide_eq_true (by first | (with_reducible assumption) | assumption); have q219 : (ji20) < (l0_0.length : Int) := of_decide_eq_true (by first | (with_reducible assumption) | assumption); obtain ⟨ad219, e219, hx219_0⟩ := Kd.at_int HR0_0.out (ji20) p219 q219; obtain rfl : ad217 = ad219 := (by injection e219); replace hx219_0 := cell_go HB hx219_0; replace p219 := eq_true p219; replace q219 := eq_true q219))
      go_ret
      exact ⟨z6_7, z6_0⟩
     rw [if_neg c23] at H
     have c23b0 := decide_eq_false c23
     clear c23
     by_cases c25 : (rd l0_0 (ji20)) = 5
     rotate_left
     ·rw [if_neg c25] at H
      have c25b0 : ((rd l0_0 (ji20)) == 5) = false := beq_eq_false_iff_ne.mpr c25
      have c25b1 : ((rd l0_0 (ji20)) != 5) = true := bne_iff_ne.mpr c25
      have H' := mk0 H
      clear H
      have p217 : 0 ≤ (x27_2 : Int) := of_decide_eq_true (by first | (with_reducible assumption) | assumption)
      have q217 : x27_2 < (l0_0.length : Int) := of_decide_eq_true (by first | (with_reducible assumption) | assumption)
      obtain ⟨ad217, e217, hx217_0⟩ := Kd.at_int HR0_0.out x27_2 p217 q217
      cases e217
      replace hx217_0 := cell_go HB hx217_0
      replace p217 := eq_true p217
      replace q217 := eq_true q217
      go_wp2_with (first | ((with_reducible refine gate_callee (f := 28) rfl ?_); refine goesL_ (some 33) rfl rfl Try.func28 (by kernel_rfl) rfl #[.int .i64 (rd l0_0 x27_2)] rfl z6_2 ?_; (with_reducible refine (impl_NeedOf.calls k2 (rd l0_0 x27_2) t218 _ A16.out).mono ?_); rintro e w' ⟨rfl, ⟨nd, rfl⟩⟩; refine ⟨_, rfl, ?_⟩; obtain ⟨_, _, _, _⟩ := be_2 BK215.out; have p219 : 0 ≤ ((ji20) : Int) := of_decide_eq_true (by first | (with_reducible assumption) | assumption); have q219 : (ji20) < (l0_0.length : Int) := of_decide_eq_true (by first | (with_reducible assumption) | assumption); obtain ⟨ad219, e219, hx219_0⟩ := Kd.at_int HR0_0.out (ji20) p219 q219; obtain rfl : ad217 = ad219 := (by injection e219); replace hx219_0 := cell_go HB hx219_0; replace p219 := eq_true p219; replace q219 := eq_true q219))
      go_roundg k2
      case measure => have := HJ1.out; have := HK2.out; omega
      case rel => exact ⟨(wrap64 (x3_2 + t218)), (wrap64 (x27_2 + 1)), rs0, rs0, H', ⟨(by have := HJ1.out; have := HK2.out; omega)⟩, ⟨pkb BK215⟩, ⟨z6_0⟩⟩
     rw [if_pos c25] at H
     have c25b0 : ((rd l0_0 (ji20)) == 5) = true := beq_iff_eq.mpr c25
     have c25b1 : ((rd l0_0 (ji20)) != 5) = false := bne_eq_false_iff_eq.mpr c25
     clear c25
     by_cases c26 : (rd l0_0 x27_2) = 1
     rotate_left
     ·rw [if_neg c26] at H
      have c26b0 : ((rd l0_0 x27_2) == 1) = false := beq_eq_false_iff_ne.mpr c26
      have c26b1 : ((rd l0_0 x27_2) != 1) = true := bne_iff_ne.mpr c26
      obtain rfl := Option.some.inj H
      simp only [Option.some.injEq, Prod.mk.injEq] at H
      obtain ⟨rfl⟩ := H
      have p217 : 0 ≤ (x27_2 : Int) := of_decide_eq_true (by first | (with_reducible assumption) | assumption)
      have q217 : x27_2 < (l0_0.length : Int) := of_decide_eq_true (by first | (with_reducible assumption) | assumption)
      obtain ⟨ad217, e217, hx217_0⟩ := Kd.at_int HR0_0.out x27_2 p217 q217
      cases e217
      replace hx217_0 := cell_go HB hx217_0
      replace p217 := eq_true p217
      replace q217 := eq_true q217
      go_wp2_with (first | ((with_reducible refine gate_callee (f := 28) rfl ?_); refine goesL_ (some 33) rfl rfl Try.func28 (by kernel_rfl) rfl #[.int .i64 (rd l0_0 x27_2)] rfl z6_2 ?_; (with_reducible refine (impl_NeedOf.calls k2 (rd l0_0 x27_2) t218 _ A16.out).mono ?_); rintro e w' ⟨rfl, ⟨nd, rfl⟩⟩; refine ⟨_, rfl, ?_⟩; obtain ⟨_, _, _, _⟩ := be_2 BK215.out; have p219 : 0 ≤ ((ji20) : Int) := of_decide_eq_true (by first | (with_reducible assumption) | assumption); have q219 : (ji20) < (l0_0.length : Int) := of_decide_eq_true (by first | (with_reducible assumption) | assumption); obtain ⟨ad219, e219, hx219_0⟩ := Kd.at_int HR0_0.out (ji20) p219 q219; obtain rfl : ad217 = ad219 := (by injection e219); replace hx219_0 := cell_go HB hx219_0; replace p219 := eq_true p219; replace q219 := eq_true q219))
      go_ret
      exact ⟨z6_7, z6_0⟩
     rw [if_pos c26] at H
     have c26b0 : ((rd l0_0 x27_2) == 1) = true := beq_iff_eq.mpr c26
     have c26b1 : ((rd l0_0 x27_2) != 1) = false := bne_eq_false_iff_eq.mpr c26
     clear c26
     have H' := mk0 H
     clear H
     have p217 : 0 ≤ (x27_2 : Int) := of_decide_eq_true (by first | (with_reducible assumption) | assumption)
     have q217 : x27_2 < (l0_0.length : Int) := of_decide_eq_true (by first | (with_reducible assumption) | assumption)
     obtain ⟨ad217, e217, hx217_0⟩ := Kd.at_int HR0_0.out x27_2 p217 q217
     cases e217
     replace hx217_0 := cell_go HB hx217_0
     replace p217 := eq_true p217
     replace q217 := eq_true q217
     go_wp2_with (first | ((with_reducible refine gate_callee (f := 28) rfl ?_); refine goesL_ (some 33) rfl rfl Try.func28 (by kernel_rfl) rfl #[.int .i64 (rd l0_0 x27_2)] rfl z6_2 ?_; (with_reducible refine (impl_NeedOf.calls k2 (rd l0_0 x27_2) t218 _ A16.out).mono ?_); rintro e w' ⟨rfl, ⟨nd, rfl⟩⟩; refine ⟨_, rfl, ?_⟩; obtain ⟨_, _, _, _⟩ := be_2 BK215.out; have p219 : 0 ≤ ((ji20) : Int) := of_decide_eq_true (by first | (with_reducible assumption) | assumption); have q219 : (ji20) < (l0_0.length : Int) := of_decide_eq_true (by first | (with_reducible assumption) | assumption); obtain ⟨ad219, e219, hx219_0⟩ := Kd.at_int HR0_0.out (ji20) p219 q219; obtain rfl : ad217 = ad219 := (by injection e219); replace hx219_0 := cell_go HB hx219_0; replace p219 := eq_true p219; replace q219 := eq_true q219))
     go_roundg k2
     case measure => have := HJ1.out; have := HK2.out; omega
     case rel => exact ⟨(wrap64 (x3_2 + t218)), (wrap64 (x27_2 + 1)), rs0, rs0, H', ⟨(by have := HJ1.out; have := HK2.out; omega)⟩, ⟨pkb BK215⟩, ⟨z6_0⟩⟩

/-! ### impl_Clamp: function 57 -/
def impl_Clamp.f (a0 : Int) (a1 : Int) (a2 : Int) : Option (Int) := if a0 < a1 then (some a1) else (if a0 > a2 then (some a2) else (some a0))
set_option maxHeartbeats 8000000 in
set_option maxRecDepth 100000 in
theorem impl_Clamp.calls (a0 : Int) (a1 : Int) (a2 : Int) (r : Int) (w : World) (h : impl_Clamp.f a0 a1 a2 = some r) :
  Calls Try.prog 57 #[.int .i64 a0, .int .i64 a1, .int .i64 a2] w fun e w' => e = .returned (.int .i64 r) ∧ Drawn0 w w' := by
 have H : (if a0 < a1 then (some a1) else (if a0 > a2 then (some a2) else (some a0))) = some r := h
 clear h
 by_cases c4 : a0 < a1
 ·rw [if_pos c4] at H
  have c4b0 := decide_eq_true c4
  clear c4
  obtain rfl := Option.some.inj H
  simp only [Option.some.injEq, Prod.mk.injEq] at H
  obtain ⟨rfl⟩ := H
  go_enter Try.func57, Try.ntmps57
  go_wp2
  go_ret
  exact ⟨rs0, z6_3⟩
 rw [if_neg c4] at H
 have c4b0 := decide_eq_false c4
 clear c4
 by_cases c5 : a0 > a2
 ·rw [if_pos c5] at H
  have c5b0 := decide_eq_true c5
  clear c5
  obtain rfl := Option.some.inj H
  simp only [Option.some.injEq, Prod.mk.injEq] at H
  obtain ⟨rfl⟩ := H
  go_enter Try.func57, Try.ntmps57
  go_wp2
  go_ret
  exact ⟨rs0, z6_3⟩
 rw [if_neg c5] at H
 have c5b0 := decide_eq_false c5
 clear c5
 obtain rfl := Option.some.inj H
 simp only [Option.some.injEq, Prod.mk.injEq] at H
 obtain ⟨rfl⟩ := H
 go_enter Try.func57, Try.ntmps57
 go_wp2
 go_ret
 exact ⟨rs0, z6_3⟩

/-! ### impl_FloorDiv: function 65 -/
def impl_FloorDiv.f (a0 : Int) (a1 : Int) : Option (Int) := if a1 < 1 then (some 0) else (if a1 = 0 then (none) else (if (Int.tmod a0 a1) < 0 then (some (wrap64 ((wrap64 (Int.tdiv a0 a1)) - 1))) else (some (wrap64 (Int.tdiv a0 a1)))))
set_option maxHeartbeats 8000000 in
set_option maxRecDepth 100000 in
theorem impl_FloorDiv.calls (a0 : Int) (a1 : Int) (r : Int) (w : World) (h : impl_FloorDiv.f a0 a1 = some r) :
  Calls Try.prog 65 #[.int .i64 a0, .int .i64 a1] w fun e w' => e = .returned (.int .i64 r) ∧ Drawn0 w w' := by
 have H : (if a1 < 1 then (some 0) else (if a1 = 0 then (none) else (if (Int.tmod a0 a1) < 0 then (some (wrap64 ((wrap64 (Int.tdiv a0 a1)) - 1))) else (some (wrap64 (Int.tdiv a0 a1)))))) = some r := h
 clear h
 by_cases c3 : a1 < 1
 ·rw [if_pos c3] at H
  have c3b0 := decide_eq_true c3
  clear c3
  obtain rfl := Option.some.inj H
  simp only [Option.some.injEq, Prod.mk.injEq] at H
  obtain ⟨rfl⟩ := H
  go_enter Try.func65, Try.ntmps65
  go_wp2
  go_ret
  exact ⟨rs0, z6_3⟩
 rw [if_neg c3] at H
 have c3b0 := decide_eq_false c3
 clear c3
 by_cases c4 : a1 = 0
 ·rw [if_pos c4] at H
  exact absurd H (by simp)
 rw [if_neg c4] at H
 have c4b0 : (a1 == 0) = false := beq_eq_false_iff_ne.mpr c4
 have c4b1 : (a1 != 0) = true := bne_iff_ne.mpr c4
 by_cases c5 : (Int.tmod a0 a1) < 0
 ·rw [if_pos c5] at H
  have c5b0 := decide_eq_true c5
  clear c5
  obtain rfl := Option.some.inj H
  simp only [Option.some.injEq, Prod.mk.injEq] at H
  obtain ⟨rfl⟩ := H
  go_enter Try.func65, Try.ntmps65
  go_wp2
  go_ret
  exact ⟨rs0, z6_3⟩
 rw [if_neg c5] at H
 have c5b0 := decide_eq_false c5
 clear c5
 obtain rfl := Option.some.inj H
 simp only [Option.some.injEq, Prod.mk.injEq] at H
 obtain ⟨rfl⟩ := H
 go_enter Try.func65, Try.ntmps65
 go_wp2
 go_ret
 exact ⟨rs0, z6_3⟩

end Go.Proofs.Ytdpnimngndemiaa.MFnFlats
