/- Functions of the program as Lean functions, and the proof that a call comes to just these: machine text of this session's own program (myprint.py). -/
import Derived.Test.YtdpnimngndemiaaMFnFlatsx0
import Derived.Test.YtdpnimngndemiaaMFnFlatsx12
namespace Go.Proofs.Ytdpnimngndemiaa.MFnFlats
open Go.RowKit Go.Proofs.YtdpnimngndemiaaW.PrintWords Go.Proofs.YtdpnimngndemiaaW.PrintLast Go.Proofs.YtdpnimngndemiaaW.PrintMore
attribute [local go_sem] max2_int min2_int max_two min_two max_three min_three max_four min_four   -- for this text's walks alone
set_option linter.unusedVariables false
set_option linter.unusedSimpArgs false

theorem z13_0 {P : Prop} (h : P := by repeat (first | (with_reducible first | exact HB.out | apply below_alloc | apply pw_below_drewN | apply below_drew1 | refine below_set ?_ GE473.out) | exact HB.out)) : P := h
theorem z13_1 {P : Prop} (h : P := by repeat (first | (with_reducible first | exact HB.out | apply below_alloc | apply pw_below_drewN | apply below_drew1) | exact HB.out)) : P := h
theorem z13_2 {P : Prop} (h : P := by repeat (first | exact HR470_0.out | (with_reducible refine Kd.C_alloc ?_ _) | (with_reducible refine Kd.C_drewN ?_ _) | (with_reducible refine Kd.C_drew ?_))) : P := h
theorem z13_3 {P : Prop} (h : P := by repeat (first | exact HR471_0.out | (with_reducible refine Kd.C_alloc ?_ _) | (with_reducible refine Kd.C_drewN ?_ _) | (with_reducible refine Kd.C_drew ?_))) : P := h
theorem z13_4 {P : Prop} (h : P := by repeat (first | (with_reducible first | exact HB.out | apply below_alloc | apply pw_below_drewN | apply below_drew1 | refine below_set ?_ GE473.out | refine below_set ?_ GE474.out) | exact HB.out)) : P := h
theorem z13_5 {P : Prop} (h : P := by first | rfl | (simp [errW_none, errW_some] <;> rfl) | (simp [*, errW_none, errW_some] <;> rfl)) : P := h
theorem z13_6 {P : Prop} (h : P := by repeat (first | exact Drawn0.refl _ | apply Drawn0.step)) : P := h
/-! ### laws_sameLines: function 17 -/
def laws_sameLines.l0 : Nat → List (List (S46)) → List (List (S46)) → Int → Option (Bool)
 | 0, _, _, _ => none
 | k + 1, x0, x1, x5 => if x5 < (x0.length : Int) then (if 0 ≤ x5 then (if x5 < (x1.length : Int) then ((laws_samePoints.f k (rd_L2 x0 x5) (rd_L2 x1 x5)).bind fun t472 => (if t472 = true then (laws_sameLines.l0 k x0 x1 (wrap64 (x5 + 1))) else (some false))) else (none)) else (none)) else (some true)
def laws_sameLines.f (k : Nat) (l0 : List (List (S46))) (l1 : List (List (S46))) : Option (Bool) := if (l0.length : Int) = (l1.length : Int) then (laws_sameLines.l0 k l0 l1 0) else (some false)
theorem laws_sameLines.mono_l : ∀ k, (∀ y0 y1 y2, LeO (laws_sameLines.l0 k y0 y1 y2) (laws_sameLines.l0 (k + 1) y0 y1 y2))
 | 0 => fun _ _ _ r h => by simp [laws_sameLines.l0] at h
 | k + 1 => by
  have ih0 := laws_sameLines.mono_l k
  ·intro y0 y1 y2
   unfold laws_sameLines.l0
   repeat' first
   | (with_reducible exact ih0 _ _ _)
   | (with_reducible exact laws_samePoints.mono _ _ _)
   | (with_reducible exact LeO.refl _)
   | (with_reducible exact LeO.none _)
   | (with_reducible refine LeO.ite ?_ ?_)
   | (with_reducible refine LeO.bind ?_ (fun _ => ?_))
theorem laws_sameLines.mono : ∀ a0 a1 k, LeO (laws_sameLines.f k a0 a1) (laws_sameLines.f (k + 1) a0 a1) := by
 intro a0 a1 k
 have ih0 := laws_sameLines.mono_l k
 unfold laws_sameLines.f
 repeat' first
   | (with_reducible exact ih0 _ _ _)
   | (with_reducible exact laws_samePoints.mono _ _ _)
   | (with_reducible exact LeO.refl _)
   | (with_reducible exact LeO.none _)
   | (with_reducible refine LeO.ite ?_ ?_)
   | (with_reducible refine LeO.bind ?_ (fun _ => ?_))
set_option maxHeartbeats 8000000 in
set_option maxRecDepth 100000 in
theorem laws_sameLines.calls (k : Nat) (A0 : Option Addr) (c0 : Nat) (l0 : List (List (S46))) (A1 : Option Addr) (c1 : Nat) (l1 : List (List (S46))) (r : Bool) (w : World) (hr0 : Kd.C (Kd.slice 46 k46) w A0 l0.length l0) (hc0 : l0.length ≤ c0) (hr1 : Kd.C (Kd.slice 46 k46) w A1 l1.length l1) (hc1 : l1.length ≤ c1) (h : laws_sameLines.f k l0 l1 = some r) :
  Calls Try.prog 17 #[.slice A0 l0.length c0, .slice A1 l1.length c1] w fun e w' => e = .returned (.bool r) ∧ Drawn0 w w' := by
 have HR0 := mk0 hr0
 have HC0 := mk0 hc0
 clear hr0 hc0
 have HR1 := mk0 hr1
 have HC1 := mk0 hc1
 clear hr1 hc1
 have H : (if (l0.length : Int) = (l1.length : Int) then (laws_sameLines.l0 k l0 l1 0) else (some false)) = some r := h
 clear h
 by_cases c3 : (l0.length : Int) = (l1.length : Int)
 rotate_left
 ·rw [if_neg c3] at H
  have c3b0 : ((l0.length : Int) == (l1.length : Int)) = false := beq_eq_false_iff_ne.mpr c3
  have c3b1 : ((l0.length : Int) != (l1.length : Int)) = true := bne_iff_ne.mpr c3
  have c3b2 : (l0.length == l1.length) = false := by first | simpa using c3 | (simp at c3 ⊢; omega)
  obtain rfl := Option.some.inj H
  simp only [Option.some.injEq, Prod.mk.injEq] at H
  obtain ⟨rfl⟩ := H
  go_enter Try.func17, Try.ntmps17
  go_wp2
  repeat (go_quiet (fail); try go_wp2)
  go_ret
  exact ⟨rs0, z13_6⟩
 rw [if_pos c3] at H
 have c3b0 : ((l0.length : Int) == (l1.length : Int)) = true := beq_iff_eq.mpr c3
 have c3b1 : ((l0.length : Int) != (l1.length : Int)) = false := bne_eq_false_iff_eq.mpr c3
 have c3b2 : (l0.length == l1.length) = true := by first | simpa using c3 | (simp at c3 ⊢; omega)
 clear c3
 have H' := mk0 H
 clear H
 go_enter Try.func17, Try.ntmps17
 go_wp2
 repeat (go_quiet (fail); try go_wp2)
 go_loopg [5] k (fun kq v5 w' => ∃ (x5_1 : Int), v5 = .int .i64 x5_1 ∧ Aside0 (laws_sameLines.l0 kq l0 l1 x5_1 = some r) ∧ Aside0 (kq ≤ k) ∧ Drawn0 w w')
 case atStart => exact ⟨(0), rs0, H', ⟨Nat.le_refl _⟩, z13_6⟩
 case round =>
  clear H'
  try clear c1
  try clear p2
  try clear c3
  try clear c3b0
  try clear c3b1
  try clear c3b2
  obtain ⟨x5_1, rfl, HA, HK1, ⟨m1, rfl⟩⟩ := hrel
  cases gk with
  | zero => exact absurd HA.out (by simp [laws_sameLines.l0])
  | succ k1 =>
   have H := HA.out; clear HA
   simp only [laws_sameLines.l0] at H
   by_cases c4 : x5_1 < (l0.length : Int)
   rotate_left
   ·rw [if_neg c4] at H
    have c4b0 := decide_eq_false c4
    clear c4
    obtain rfl := Option.some.inj H
    simp only [Option.some.injEq, Prod.mk.injEq] at H
    obtain ⟨rfl⟩ := H
    go_wp2
    repeat (go_quiet (fail); try go_wp2)
    go_ret
    exact ⟨rs0, z13_6⟩
   rw [if_pos c4] at H
   have c4b0 := decide_eq_true c4
   clear c4
   by_cases c5 : 0 ≤ x5_1
   rotate_left
   ·rw [if_neg c5] at H
    exact absurd H (by simp)
   rw [if_pos c5] at H
   have c5b0 := decide_eq_true c5
   clear c5
   by_cases c6 : x5_1 < (l1.length : Int)
   rotate_left
   ·rw [if_neg c6] at H
    exact absurd H (by simp)
   rw [if_pos c6] at H
   have c6b0 := decide_eq_true c6
   clear c6
   replace H := Option.bind_eq_some_iff.mp H
   obtain ⟨t472, A70, H⟩ := H
   try dsimp only at H
   have A7 := mk0 A70
   clear A70
   by_cases c8 : t472 = true
   ·subst c8
    rw [if_pos rfl] at H
    have H' := mk0 H
    clear H
    have p470 : 0 ≤ (x5_1 : Int) := of_decide_eq_true (by first | (with_reducible assumption) | assumption)
    have q470 : x5_1 < (l0.length : Int) := of_decide_eq_true (by first | (with_reducible assumption) | assumption)
    obtain ⟨ad470, A470_0, c470_0, e470, hx470_0, hl470_0, hi470_0⟩ := at_L2 HR0.out x5_1 p470 q470
    cases e470
    have HR470_0 := mk0 hi470_0
    have HC470_0 := mk0 hl470_0
    clear hi470_0 hl470_0
    replace p470 := eq_true p470
    replace q470 := eq_true q470
    have p471 : 0 ≤ (x5_1 : Int) := of_decide_eq_true (by first | (with_reducible assumption) | assumption)
    have q471 : x5_1 < (l1.length : Int) := of_decide_eq_true (by first | (with_reducible assumption) | assumption)
    obtain ⟨ad471, A471_0, c471_0, e471, hx471_0, hl471_0, hi471_0⟩ := at_L2 HR1.out x5_1 p471 q471
    cases e471
    have HR471_0 := mk0 hi471_0
    have HC471_0 := mk0 hl471_0
    clear hi471_0 hl471_0
    replace p471 := eq_true p471
    replace q471 := eq_true q471
    go_wp2_with (first | (go_at_call 38; (with_reducible refine (laws_samePoints.calls k1 _ _ (rd_L2 l0 x5_1) _ _ (rd_L2 l1 x5_1) true _ ?side1 ?side2 ?side3 ?side4 A7.out).mono ?_); (case side1 => exact z13_2); (case side2 => exact HC470_0.out); (case side3 => exact z13_3); (case side4 => exact HC471_0.out); rintro e w' ⟨rfl, ⟨nd, rfl⟩⟩; (try first | exact ⟨rfl, _, World.drewN_drewN _ _ _⟩ | exact ⟨rfl, _, Eq.trans (World.drewN_drewN _ _ _) (congrArg (World.drewN _) (Nat.add_assoc _ _ _))⟩)))
    repeat (go_quiet (first | (go_at_call 38; (with_reducible refine (laws_samePoints.calls k1 _ _ (rd_L2 l0 x5_1) _ _ (rd_L2 l1 x5_1) true _ ?side1 ?side2 ?side3 ?side4 A7.out).mono ?_); (case side1 => exact z13_2); (case side2 => exact HC470_0.out); (case side3 => exact z13_3); (case side4 => exact HC471_0.out); rintro e w' ⟨rfl, ⟨nd, rfl⟩⟩; (try first | exact ⟨rfl, _, World.drewN_drewN _ _ _⟩ | exact ⟨rfl, _, Eq.trans (World.drewN_drewN _ _ _) (congrArg (World.drewN _) (Nat.add_assoc _ _ _))⟩))); try go_wp2_with (first | (go_at_call 38; (with_reducible refine (laws_samePoints.calls k1 _ _ (rd_L2 l0 x5_1) _ _ (rd_L2 l1 x5_1) true _ ?side1 ?side2 ?side3 ?side4 A7.out).mono ?_); (case side1 => exact z13_2); (case side2 => exact HC470_0.out); (case side3 => exact z13_3); (case side4 => exact HC471_0.out); rintro e w' ⟨rfl, ⟨nd, rfl⟩⟩; (try first | exact ⟨rfl, _, World.drewN_drewN _ _ _⟩ | exact ⟨rfl, _, Eq.trans (World.drewN_drewN _ _ _) (congrArg (World.drewN _) (Nat.add_assoc _ _ _))⟩))))
    go_roundg k1
    case measure => have := HK1.out; omega
    case rel => exact ⟨(wrap64 (x5_1 + 1)), rs0, H', ⟨(by have := HK1.out; omega)⟩, z13_6⟩
   replace c8 := Bool.eq_false_iff.mpr c8
   subst c8
   rw [if_neg (show ¬ (false = true) by decide)] at H
   obtain rfl := Option.some.inj H
   simp only [Option.some.injEq, Prod.mk.injEq] at H
   obtain ⟨rfl⟩ := H
   have p470 : 0 ≤ (x5_1 : Int) := of_decide_eq_true (by first | (with_reducible assumption) | assumption)
   have q470 : x5_1 < (l0.length : Int) := of_decide_eq_true (by first | (with_reducible assumption) | assumption)
   obtain ⟨ad470, A470_0, c470_0, e470, hx470_0, hl470_0, hi470_0⟩ := at_L2 HR0.out x5_1 p470 q470
   cases e470
   have HR470_0 := mk0 hi470_0
   have HC470_0 := mk0 hl470_0
   clear hi470_0 hl470_0
   replace p470 := eq_true p470
   replace q470 := eq_true q470
   have p471 : 0 ≤ (x5_1 : Int) := of_decide_eq_true (by first | (with_reducible assumption) | assumption)
   have q471 : x5_1 < (l1.length : Int) := of_decide_eq_true (by first | (with_reducible assumption) | assumption)
   obtain ⟨ad471, A471_0, c471_0, e471, hx471_0, hl471_0, hi471_0⟩ := at_L2 HR1.out x5_1 p471 q471
   cases e471
   have HR471_0 := mk0 hi471_0
   have HC471_0 := mk0 hl471_0
   clear hi471_0 hl471_0
   replace p471 := eq_true p471
   replace q471 := eq_true q471
   go_wp2_with (first | (go_at_call 38; (with_reducible refine (laws_samePoints.calls k1 _ _ (rd_L2 l0 x5_1) _ _ (rd_L2 l1 x5_1) false _ ?side1 ?side2 ?side3 ?side4 A7.out).mono ?_); (case side1 => exact z13_2); (case side2 => exact HC470_0.out); (case side3 => exact z13_3); (case side4 => exact HC471_0.out); rintro e w' ⟨rfl, ⟨nd, rfl⟩⟩; (try first | exact ⟨rfl, _, World.drewN_drewN _ _ _⟩ | exact ⟨rfl, _, Eq.trans (World.drewN_drewN _ _ _) (congrArg (World.drewN _) (Nat.add_assoc _ _ _))⟩)))
   repeat (go_quiet (first | (go_at_call 38; (with_reducible refine (laws_samePoints.calls k1 _ _ (rd_L2 l0 x5_1) _ _ (rd_L2 l1 x5_1) false _ ?side1 ?side2 ?side3 ?side4 A7.out).mono ?_); (case side1 => exact z13_2); (case side2 => exact HC470_0.out); (case side3 => exact z13_3); (case side4 => exact HC471_0.out); rintro e w' ⟨rfl, ⟨nd, rfl⟩⟩; (try first | exact ⟨rfl, _, World.drewN_drewN _ _ _⟩ | exact ⟨rfl, _, Eq.trans (World.drewN_drewN _ _ _) (congrArg (World.drewN _) (Nat.add_assoc _ _ _))⟩))); try go_wp2_with (first | (go_at_call 38; (with_reducible refine (laws_samePoints.calls k1 _ _ (rd_L2 l0 x5_1) _ _ (rd_L2 l1 x5_1) false _ ?side1 ?side2 ?side3 ?side4 A7.out).mono ?_); (case side1 => exact z13_2); (case side2 => exact HC470_0.out); (case side3 => exact z13_3); (case side4 => exact HC471_0.out); rintro e w' ⟨rfl, ⟨nd, rfl⟩⟩; (try first | exact ⟨rfl, _, World.drewN_drewN _ _ _⟩ | exact ⟨rfl, _, Eq.trans (World.drewN_drewN _ _ _) (congrArg (World.drewN _) (Nat.add_assoc _ _ _))⟩))))
   go_ret
   exact ⟨rs0, z13_6⟩

/-! ### spec_InBox: function 18 -/
def spec_InBox.f (a0_0 : Int) (a0_1 : Int) (a0_2 : Int) (a0_3 : Int) (a1_0 : Int) (a1_1 : Int) : Option (Bool) := if a0_0 ≤ a1_0 then (if a1_0 < a0_2 then (if a0_1 ≤ a1_1 then (some (decide (a1_1 < a0_3))) else (some false)) else (some false)) else (some false)
set_option maxHeartbeats 8000000 in
set_option maxRecDepth 100000 in
theorem spec_InBox.calls (a0_0 : Int) (a0_1 : Int) (a0_2 : Int) (a0_3 : Int) (a1_0 : Int) (a1_1 : Int) (r : Bool) (w : World) (h : spec_InBox.f a0_0 a0_1 a0_2 a0_3 a1_0 a1_1 = some r) :
  Calls Try.prog 18 #[.agg #[.int .i64 a0_0, .int .i64 a0_1, .int .i64 a0_2, .int .i64 a0_3], .agg #[.int .i64 a1_0, .int .i64 a1_1]] w fun e w' => e = .returned (.bool r) ∧ Below w.heap.size w w' := by
 have hu42 := Try.underlying42
 have hu46 := Try.underlying46
 have HB := mk0 (Below.refl w.heap.size w)
 have H : (if a0_0 ≤ a1_0 then (if a1_0 < a0_2 then (if a0_1 ≤ a1_1 then (some (decide (a1_1 < a0_3))) else (some false)) else (some false)) else (some false)) = some r := h
 clear h
 by_cases c3 : a0_0 ≤ a1_0
 rotate_left
 ·rw [if_neg c3] at H
  have c3b0 := decide_eq_false c3
  clear c3
  obtain rfl := Option.some.inj H
  simp only [Option.some.injEq, Prod.mk.injEq] at H
  obtain ⟨rfl⟩ := H
  go_enter Try.func18, Try.ntmps18
  go_wp2_with (first | ((with_reducible refine gate_dst (N := 2) rfl ?_); refine boxz (cs := #[.int .i64 a0_0, .int .i64 a0_1, .int .i64 a0_2, .int .i64 a0_3]) (t := 42) rfl ?_; intro gb473 hg w21 hbox hb; have n0_ := mk0 (below_step z13_1 hb); have n1_ := mk0 (hbox); have GW473 := mk0 (ge_go (a := w.heap.size) hg (below_size z13_1)); have GE473 := GW473; clear HB; have HB := n0_; have BK473 := n1_; clear n0_ n1_ ; clear hb hbox hg) | ((with_reducible refine gate_dst (N := 3) rfl ?_); refine boxz (cs := #[.int .i64 a1_0, .int .i64 a1_1]) (t := 46) rfl ?_; intro gb474 hg w22 hbox hb; have n0_ := mk0 (blk_belowB BK473 (pkb BK473) hb); have n1_ := mk0 (below_step z13_0 hb); have n2_ := mk0 (hbox); have GW474 := mk0 (ge_go (a := w.heap.size) hg (below_size z13_0)); have GE474 := GW474; have NB473_474 := mk0 (nb_lt hg (blk_ltB BK473 (pkb BK473))); have NB474_473 := mk0 (nb_gt hg (blk_ltB BK473 (pkb BK473))); clear BK473 HB; have BK473 := n0_; have HB := n1_; have BK474 := n2_; clear n0_ n1_ n2_ ; clear hb hbox hg; have hnb23 := NB473_474.out; have hnc23 := NB474_473.out; obtain ⟨_, _, _, _, _, _, _, _⟩ := be_4 BK473.out; obtain ⟨_, _, _, _⟩ := be_2 BK474.out))
  go_ret
  exact ⟨z13_5, z13_4⟩
 rw [if_pos c3] at H
 have c3b0 := decide_eq_true c3
 clear c3
 by_cases c4 : a1_0 < a0_2
 rotate_left
 ·rw [if_neg c4] at H
  have c4b0 := decide_eq_false c4
  clear c4
  obtain rfl := Option.some.inj H
  simp only [Option.some.injEq, Prod.mk.injEq] at H
  obtain ⟨rfl⟩ := H
  go_enter Try.func18, Try.ntmps18
  go_wp2_with (first | ((with_reducible refine gate_dst (N := 2) rfl ?_); refine boxz (cs := #[.int .i64 a0_0, .int .i64 a0_1, .int .i64 a0_2, .int .i64 a0_3]) (t := 42) rfl ?_; intro gb473 hg w16 hbox hb; have n0_ := mk0 (below_step z13_1 hb); have n1_ := mk0 (hbox); have GW473 := mk0 (ge_go (a := w.heap.size) hg (below_size z13_1)); have GE473 := GW473; clear HB; have HB := n0_; have BK473 := n1_; clear n0_ n1_ ; clear hb hbox hg) | ((with_reducible refine gate_dst (N := 3) rfl ?_); refine boxz (cs := #[.int .i64 a1_0, .int .i64 a1_1]) (t := 46) rfl ?_; intro gb474 hg w17 hbox hb; have n0_ := mk0 (blk_belowB BK473 (pkb BK473) hb); have n1_ := mk0 (below_step z13_0 hb); have n2_ := mk0 (hbox); have GW474 := mk0 (ge_go (a := w.heap.size) hg (below_size z13_0)); have GE474 := GW474; have NB473_474 := mk0 (nb_lt hg (blk_ltB BK473 (pkb BK473))); have NB474_473 := mk0 (nb_gt hg (blk_ltB BK473 (pkb BK473))); clear BK473 HB; have BK473 := n0_; have HB := n1_; have BK474 := n2_; clear n0_ n1_ n2_ ; clear hb hbox hg; have hnb18 := NB473_474.out; have hnc18 := NB474_473.out; obtain ⟨_, _, _, _, _, _, _, _⟩ := be_4 BK473.out; obtain ⟨_, _, _, _⟩ := be_2 BK474.out))
  go_ret
  exact ⟨z13_5, z13_4⟩
 rw [if_pos c4] at H
 have c4b0 := decide_eq_true c4
 clear c4
 by_cases c5 : a0_1 ≤ a1_1
 ·rw [if_pos c5] at H
  have c5b0 := decide_eq_true c5
  clear c5
  obtain rfl := Option.some.inj H
  simp only [Option.some.injEq, Prod.mk.injEq] at H
  obtain ⟨rfl⟩ := H
  go_enter Try.func18, Try.ntmps18
  go_wp2_with (first | ((with_reducible refine gate_dst (N := 2) rfl ?_); refine boxz (cs := #[.int .i64 a0_0, .int .i64 a0_1, .int .i64 a0_2, .int .i64 a0_3]) (t := 42) rfl ?_; intro gb473 hg w6 hbox hb; have n0_ := mk0 (below_step z13_1 hb); have n1_ := mk0 (hbox); have GW473 := mk0 (ge_go (a := w.heap.size) hg (below_size z13_1)); have GE473 := GW473; clear HB; have HB := n0_; have BK473 := n1_; clear n0_ n1_ ; clear hb hbox hg) | ((with_reducible refine gate_dst (N := 3) rfl ?_); refine boxz (cs := #[.int .i64 a1_0, .int .i64 a1_1]) (t := 46) rfl ?_; intro gb474 hg w7 hbox hb; have n0_ := mk0 (blk_belowB BK473 (pkb BK473) hb); have n1_ := mk0 (below_step z13_0 hb); have n2_ := mk0 (hbox); have GW474 := mk0 (ge_go (a := w.heap.size) hg (below_size z13_0)); have GE474 := GW474; have NB473_474 := mk0 (nb_lt hg (blk_ltB BK473 (pkb BK473))); have NB474_473 := mk0 (nb_gt hg (blk_ltB BK473 (pkb BK473))); clear BK473 HB; have BK473 := n0_; have HB := n1_; have BK474 := n2_; clear n0_ n1_ n2_ ; clear hb hbox hg; have hnb8 := NB473_474.out; have hnc8 := NB474_473.out; obtain ⟨_, _, _, _, _, _, _, _⟩ := be_4 BK473.out; obtain ⟨_, _, _, _⟩ := be_2 BK474.out))
  go_ret
  exact ⟨z13_5, z13_4⟩
 rw [if_neg c5] at H
 have c5b0 := decide_eq_false c5
 clear c5
 obtain rfl := Option.some.inj H
 simp only [Option.some.injEq, Prod.mk.injEq] at H
 obtain ⟨rfl⟩ := H
 go_enter Try.func18, Try.ntmps18
 go_wp2_with (first | ((with_reducible refine gate_dst (N := 2) rfl ?_); refine boxz (cs := #[.int .i64 a0_0, .int .i64 a0_1, .int .i64 a0_2, .int .i64 a0_3]) (t := 42) rfl ?_; intro gb473 hg w11 hbox hb; have n0_ := mk0 (below_step z13_1 hb); have n1_ := mk0 (hbox); have GW473 := mk0 (ge_go (a := w.heap.size) hg (below_size z13_1)); have GE473 := GW473; clear HB; have HB := n0_; have BK473 := n1_; clear n0_ n1_ ; clear hb hbox hg) | ((with_reducible refine gate_dst (N := 3) rfl ?_); refine boxz (cs := #[.int .i64 a1_0, .int .i64 a1_1]) (t := 46) rfl ?_; intro gb474 hg w12 hbox hb; have n0_ := mk0 (blk_belowB BK473 (pkb BK473) hb); have n1_ := mk0 (below_step z13_0 hb); have n2_ := mk0 (hbox); have GW474 := mk0 (ge_go (a := w.heap.size) hg (below_size z13_0)); have GE474 := GW474; have NB473_474 := mk0 (nb_lt hg (blk_ltB BK473 (pkb BK473))); have NB474_473 := mk0 (nb_gt hg (blk_ltB BK473 (pkb BK473))); clear BK473 HB; have BK473 := n0_; have HB := n1_; have BK474 := n2_; clear n0_ n1_ n2_ ; clear hb hbox hg; have hnb13 := NB473_474.out; have hnc13 := NB474_473.out; obtain ⟨_, _, _, _, _, _, _, _⟩ := be_4 BK473.out; obtain ⟨_, _, _, _⟩ := be_2 BK474.out))
 go_ret
 exact ⟨z13_5, z13_4⟩

end Go.Proofs.Ytdpnimngndemiaa.MFnFlats
