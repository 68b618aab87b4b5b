/- Functions of the program as Lean functions, and the proof that a call comes to just these: machine text of this session's own program (myprint.py). -/
import Derived.Test.YtghbenapnhcllaaMFnMeetsx0
namespace Go.Proofs.Ytghbenapnhcllaa.MFnMeets
open Go.RowKit Go.Proofs.YtghbenapnhcllaaW.PrintWords Go.Proofs.YtghbenapnhcllaaW.PrintLast Go.Proofs.YtghbenapnhcllaaW.PrintMore
attribute [local go_sem] max2_int min2_int max_two min_two max_three min_three max_four min_four   -- for this text's walks alone
set_option linter.unusedVariables false
set_option linter.unusedSimpArgs false

theorem z17_0 {P : Prop} (h : P := by repeat (first | (with_reducible first | exact HB.out | apply below_alloc | apply pw_below_drewN | apply below_drew1) | exact HB.out)) : P := h
theorem z17_1 {P : Prop} (h : P := by repeat (first | (with_reducible first | exact HB.out | apply below_alloc | apply pw_below_drewN | apply below_drew1 | refine below_set ?_ GE464.out) | exact HB.out)) : P := h
theorem z17_2 {P : Prop} (h : P := by repeat (first | (with_reducible first | exact HB.out | apply below_alloc | apply pw_below_drewN | apply below_drew1 | refine below_set ?_ GE466.out) | exact HB.out)) : P := h
theorem z17_3 {P : Prop} (h : P := by (with_reducible repeat (first | refine blk_drewN ?_ _ | refine blk_drew ?_ | refine blk_alloc ?_ _)); refine blk_far ?_ NB466_467.out _; (with_reducible repeat (first | refine blk_drewN ?_ _ | refine blk_drew ?_ | refine blk_alloc ?_ _)); refine blk_far ?_ NB466_467.out _; (with_reducible repeat (first | refine blk_drewN ?_ _ | refine blk_drew ?_ | refine blk_alloc ?_ _)); refine blk_far ?_ NB466_467.out _; (with_reducible repeat (first | refine blk_drewN ?_ _ | refine blk_drew ?_ | refine blk_alloc ?_ _)); refine blk_far ?_ NB466_467.out _; (with_reducible repeat (first | refine blk_drewN ?_ _ | refine blk_drew ?_ | refine blk_alloc ?_ _)); exact BK466.out) : P := h
theorem z17_4 {P : Prop} (h : P := by repeat (first | (with_reducible first | exact HB.out | apply below_alloc | apply pw_below_drewN | apply below_drew1 | refine below_set ?_ GE464.out | refine below_set ?_ GE465.out) | exact HB.out)) : P := h
theorem z17_5 {P : Prop} (h : P := by repeat (first | (with_reducible first | exact HB.out | apply below_alloc | apply pw_below_drewN | apply below_drew1 | refine below_set ?_ GE466.out | refine below_set ?_ GE467.out) | exact HB.out)) : P := h
theorem z17_6 {P : Prop} (h : P := by first | rfl | (simp [errW_none, errW_some] <;> rfl) | (simp [*, errW_none, errW_some] <;> rfl)) : P := h
theorem z17_7 {P : Prop} (h : P := by apply blk_fin; (focus ((with_reducible repeat (first | apply blk_putQ | refine blk_drewN ?_ _ | refine blk_drew ?_ | refine blk_alloc ?_ _)); exact BK467.out)); first | (simp only [List.setIfInBounds_toArray, List.set_cons_zero, List.set_cons_succ]; done) | rfl) : P := h
theorem z17_8 {P : Prop} (h : P := by repeat (first | exact Drawn0.refl _ | apply Drawn0.step)) : P := h
theorem z17_9 {P : Prop} (h : P := by (try simp only [List.map_toArray, List.map_cons, List.map_nil]); first | done | rfl | (simp only [List.length_drop, List.length_take]; rfl)) : P := h
/-! ### spec_l11Both: function 92 -/
def spec_l11Both.l0 : Nat → Int → Int → Int → Int → Int → Option (Int)
 | 0, _, _, _, _, _ => none
 | k + 1, x0, x1, x5, x6, x7 => if x7 < 4 then (if x6 = 0 then (none) else (if (Int.tmod (wrap64 (Int.tdiv x0 x6)) 2) = 1 then (if (Int.tmod (wrap64 (Int.tdiv x1 x6)) 2) = 1 then (spec_l11Both.l0 k x0 x1 (wrap64 (x5 + x6)) (wrap64 (2 * x6)) (wrap64 (x7 + 1))) else (spec_l11Both.l0 k x0 x1 x5 (wrap64 (2 * x6)) (wrap64 (x7 + 1)))) else (spec_l11Both.l0 k x0 x1 x5 (wrap64 (2 * x6)) (wrap64 (x7 + 1))))) else (some x5)
def spec_l11Both.f (k : Nat) (a0 : Int) (a1 : Int) : Option (Int) := spec_l11Both.l0 k a0 a1 0 1 0
theorem spec_l11Both.mono_l : ∀ k, (∀ y0 y1 y2 y3 y4, LeO (spec_l11Both.l0 k y0 y1 y2 y3 y4) (spec_l11Both.l0 (k + 1) y0 y1 y2 y3 y4))
 | 0 => fun _ _ _ _ _ r h => by simp [spec_l11Both.l0] at h
 | k + 1 => by
  have ih0 := spec_l11Both.mono_l k
  ·intro y0 y1 y2 y3 y4
   unfold spec_l11Both.l0
   repeat' first
   | (with_reducible exact ih0 _ _ _ _ _)
   | (with_reducible exact LeO.refl _)
   | (with_reducible exact LeO.none _)
   | (with_reducible refine LeO.ite ?_ ?_)
   | (with_reducible refine LeO.bind ?_ (fun _ => ?_))
theorem spec_l11Both.mono : ∀ a0 a1 k, LeO (spec_l11Both.f k a0 a1) (spec_l11Both.f (k + 1) a0 a1) := by
 intro a0 a1 k
 have ih0 := spec_l11Both.mono_l k
 unfold spec_l11Both.f
 repeat' first
   | (with_reducible exact ih0 _ _ _ _ _)
   | (with_reducible exact LeO.refl _)
   | (with_reducible exact LeO.none _)
   | (with_reducible refine LeO.ite ?_ ?_)
   | (with_reducible refine LeO.bind ?_ (fun _ => ?_))
set_option maxHeartbeats 8000000 in
set_option maxRecDepth 100000 in
theorem spec_l11Both.calls (k : Nat) (a0 : Int) (a1 : Int) (r : Int) (w : World) (h : spec_l11Both.f k a0 a1 = some r) :
  Calls Try.prog 92 #[.int .i64 a0, .int .i64 a1] w fun e w' => e = .returned (.int .i64 r) ∧ Drawn0 w w' := by
 have H : (spec_l11Both.l0 k a0 a1 0 1 0) = some r := h
 clear h
 have H' := mk0 H
 clear H
 go_enter Try.func92, Try.ntmps92
 go_wp2
 go_loopg [5, 6, 7] k (fun kq v5 v6 v7 w' => ∃ (x5_1 : Int) (x6_1 : Int) (x7_1 : Int), v5 = .int .i64 x5_1 ∧ v6 = .int .i64 x6_1 ∧ v7 = .int .i64 x7_1 ∧ Aside0 (spec_l11Both.l0 kq a0 a1 x5_1 x6_1 x7_1 = some r) ∧ Aside0 (kq ≤ k) ∧ Drawn0 w w')
 case atStart => exact ⟨(0), (1), (0), rs0, rs0, rs0, H', ⟨Nat.le_refl _⟩, z17_8⟩
 case round =>
  clear H'
  try clear p2
  obtain ⟨x5_1, x6_1, x7_1, rfl, rfl, rfl, HA, HK1, ⟨m1, rfl⟩⟩ := hrel
  cases gk with
  | zero => exact absurd HA.out (by simp [spec_l11Both.l0])
  | succ k1 =>
   have H := HA.out; clear HA
   simp only [spec_l11Both.l0] at H
   by_cases c3 : x7_1 < 4
   rotate_left
   ·rw [if_neg c3] at H
    have c3b0 := decide_eq_false c3
    clear c3
    obtain rfl := Option.some.inj H
    simp only [Option.some.injEq, Prod.mk.injEq] at H
    obtain ⟨rfl⟩ := H
    go_wp2
    go_ret
    exact ⟨rs0, z17_8⟩
   rw [if_pos c3] at H
   have c3b0 := decide_eq_true c3
   clear c3
   by_cases c4 : x6_1 = 0
   ·rw [if_pos c4] at H
    exact absurd H (by simp)
   rw [if_neg c4] at H
   have c4b0 : (x6_1 == 0) = false := beq_eq_false_iff_ne.mpr c4
   have c4b1 : (x6_1 != 0) = true := bne_iff_ne.mpr c4
   by_cases c5 : (Int.tmod (wrap64 (Int.tdiv a0 x6_1)) 2) = 1
   rotate_left
   ·rw [if_neg c5] at H
    have c5b0 : ((Int.tmod (wrap64 (Int.tdiv a0 x6_1)) 2) == 1) = false := beq_eq_false_iff_ne.mpr c5
    have c5b1 : ((Int.tmod (wrap64 (Int.tdiv a0 x6_1)) 2) != 1) = true := bne_iff_ne.mpr c5
    have H' := mk0 H
    clear H
    go_wp2
    go_roundg k1
    case measure => have := HK1.out; omega
    case rel => exact ⟨(x5_1), (wrap64 (2 * x6_1)), (wrap64 (x7_1 + 1)), rs0, rs0, rs0, H', ⟨(by have := HK1.out; omega)⟩, z17_8⟩
   rw [if_pos c5] at H
   have c5b0 : ((Int.tmod (wrap64 (Int.tdiv a0 x6_1)) 2) == 1) = true := beq_iff_eq.mpr c5
   have c5b1 : ((Int.tmod (wrap64 (Int.tdiv a0 x6_1)) 2) != 1) = false := bne_eq_false_iff_eq.mpr c5
   clear c5
   by_cases c6 : (Int.tmod (wrap64 (Int.tdiv a1 x6_1)) 2) = 1
   rotate_left
   ·rw [if_neg c6] at H
    have c6b0 : ((Int.tmod (wrap64 (Int.tdiv a1 x6_1)) 2) == 1) = false := beq_eq_false_iff_ne.mpr c6
    have c6b1 : ((Int.tmod (wrap64 (Int.tdiv a1 x6_1)) 2) != 1) = true := bne_iff_ne.mpr c6
    have H' := mk0 H
    clear H
    go_wp2
    go_roundg k1
    case measure => have := HK1.out; omega
    case rel => exact ⟨(x5_1), (wrap64 (2 * x6_1)), (wrap64 (x7_1 + 1)), rs0, rs0, rs0, H', ⟨(by have := HK1.out; omega)⟩, z17_8⟩
   rw [if_pos c6] at H
   have c6b0 : ((Int.tmod (wrap64 (Int.tdiv a1 x6_1)) 2) == 1) = true := beq_iff_eq.mpr c6
   have c6b1 : ((Int.tmod (wrap64 (Int.tdiv a1 x6_1)) 2) != 1) = false := bne_eq_false_iff_eq.mpr c6
   clear c6
   have H' := mk0 H
   clear H
   go_wp2
   go_roundg k1
   case measure => have := HK1.out; omega
   case rel => exact ⟨(wrap64 (x5_1 + x6_1)), (wrap64 (2 * x6_1)), (wrap64 (x7_1 + 1)), rs0, rs0, rs0, H', ⟨(by have := HK1.out; omega)⟩, z17_8⟩

/-! ### spec_InBox: function 135 -/
def spec_InBox.f (a0_0 : Int) (a0_1 : Int) (a0_2 : Int) (a0_3 : Int) (a1_0 : Int) (a1_1 : Int) : Option (Bool) := if a0_0 ≤ a1_0 then (if a1_0 < a0_2 then (if a0_1 ≤ a1_1 then (some (decide (a1_1 < a0_3))) else (some false)) else (some false)) else (some false)
set_option maxHeartbeats 8000000 in
set_option maxRecDepth 100000 in
theorem spec_InBox.calls (a0_0 : Int) (a0_1 : Int) (a0_2 : Int) (a0_3 : Int) (a1_0 : Int) (a1_1 : Int) (r : Bool) (w : World) (h : spec_InBox.f a0_0 a0_1 a0_2 a0_3 a1_0 a1_1 = some r) :
  Calls Try.prog 135 #[.agg #[.int .i64 a0_0, .int .i64 a0_1, .int .i64 a0_2, .int .i64 a0_3], .agg #[.int .i64 a1_0, .int .i64 a1_1]] w fun e w' => e = .returned (.bool r) ∧ Below w.heap.size w w' := by
 have hu63 := Try.underlying63
 have hu52 := Try.underlying52
 have HB := mk0 (Below.refl w.heap.size w)
 have H : (if a0_0 ≤ a1_0 then (if a1_0 < a0_2 then (if a0_1 ≤ a1_1 then (some (decide (a1_1 < a0_3))) else (some false)) else (some false)) else (some false)) = some r := h
 clear h
 by_cases c3 : a0_0 ≤ a1_0
 rotate_left
 ·rw [if_neg c3] at H
  have c3b0 := decide_eq_false c3
  clear c3
  obtain rfl := Option.some.inj H
  simp only [Option.some.injEq, Prod.mk.injEq] at H
  obtain ⟨rfl⟩ := H
  go_enter Try.func135, Try.ntmps135
  go_wp2_with (first | ((with_reducible refine gate_dst (N := 2) rfl ?_); refine boxz (cs := #[.int .i64 a0_0, .int .i64 a0_1, .int .i64 a0_2, .int .i64 a0_3]) (t := 63) rfl ?_; intro gb464 hg w21 hbox hb; have n0_ := mk0 (below_step z17_0 hb); have n1_ := mk0 (hbox); have GW464 := mk0 (ge_go (a := w.heap.size) hg (below_size z17_0)); have GE464 := GW464; clear HB; have HB := n0_; have BK464 := n1_; clear n0_ n1_ ; clear hb hbox hg) | ((with_reducible refine gate_dst (N := 3) rfl ?_); refine boxz (cs := #[.int .i64 a1_0, .int .i64 a1_1]) (t := 52) rfl ?_; intro gb465 hg w22 hbox hb; have n0_ := mk0 (blk_belowB BK464 (pkb BK464) hb); have n1_ := mk0 (below_step z17_1 hb); have n2_ := mk0 (hbox); have GW465 := mk0 (ge_go (a := w.heap.size) hg (below_size z17_1)); have GE465 := GW465; have NB464_465 := mk0 (nb_lt hg (blk_ltB BK464 (pkb BK464))); have NB465_464 := mk0 (nb_gt hg (blk_ltB BK464 (pkb BK464))); clear BK464 HB; have BK464 := n0_; have HB := n1_; have BK465 := n2_; clear n0_ n1_ n2_ ; clear hb hbox hg; have hnb23 := NB464_465.out; have hnc23 := NB465_464.out; obtain ⟨_, _, _, _, _, _, _, _⟩ := be_4 BK464.out; obtain ⟨_, _, _, _⟩ := be_2 BK465.out))
  go_ret
  exact ⟨z17_6, z17_4⟩
 rw [if_pos c3] at H
 have c3b0 := decide_eq_true c3
 clear c3
 by_cases c4 : a1_0 < a0_2
 rotate_left
 ·rw [if_neg c4] at H
  have c4b0 := decide_eq_false c4
  clear c4
  obtain rfl := Option.some.inj H
  simp only [Option.some.injEq, Prod.mk.injEq] at H
  obtain ⟨rfl⟩ := H
  go_enter Try.func135, Try.ntmps135
  go_wp2_with (first | ((with_reducible refine gate_dst (N := 2) rfl ?_); refine boxz (cs := #[.int .i64 a0_0, .int .i64 a0_1, .int .i64 a0_2, .int .i64 a0_3]) (t := 63) rfl ?_; intro gb464 hg w16 hbox hb; have n0_ := mk0 (below_step z17_0 hb); have n1_ := mk0 (hbox); have GW464 := mk0 (ge_go (a := w.heap.size) hg (below_size z17_0)); have GE464 := GW464; clear HB; have HB := n0_; have BK464 := n1_; clear n0_ n1_ ; clear hb hbox hg) | ((with_reducible refine gate_dst (N := 3) rfl ?_); refine boxz (cs := #[.int .i64 a1_0, .int .i64 a1_1]) (t := 52) rfl ?_; intro gb465 hg w17 hbox hb; have n0_ := mk0 (blk_belowB BK464 (pkb BK464) hb); have n1_ := mk0 (below_step z17_1 hb); have n2_ := mk0 (hbox); have GW465 := mk0 (ge_go (a := w.heap.size) hg (below_size z17_1)); have GE465 := GW465; have NB464_465 := mk0 (nb_lt hg (blk_ltB BK464 (pkb BK464))); have NB465_464 := mk0 (nb_gt hg (blk_ltB BK464 (pkb BK464))); clear BK464 HB; have BK464 := n0_; have HB := n1_; have BK465 := n2_; clear n0_ n1_ n2_ ; clear hb hbox hg; have hnb18 := NB464_465.out; have hnc18 := NB465_464.out; obtain ⟨_, _, _, _, _, _, _, _⟩ := be_4 BK464.out; obtain ⟨_, _, _, _⟩ := be_2 BK465.out))
  go_ret
  exact ⟨z17_6, z17_4⟩
 rw [if_pos c4] at H
 have c4b0 := decide_eq_true c4
 clear c4
 by_cases c5 : a0_1 ≤ a1_1
 ·rw [if_pos c5] at H
  have c5b0 := decide_eq_true c5
  clear c5
  obtain rfl := Option.some.inj H
  simp only [Option.some.injEq, Prod.mk.injEq] at H
  obtain ⟨rfl⟩ := H
  go_enter Try.func135, Try.ntmps135
  go_wp2_with (first | ((with_reducible refine gate_dst (N := 2) rfl ?_); refine boxz (cs := #[.int .i64 a0_0, .int .i64 a0_1, .int .i64 a0_2, .int .i64 a0_3]) (t := 63) rfl ?_; intro gb464 hg w6 hbox hb; have n0_ := mk0 (below_step z17_0 hb); have n1_ := mk0 (hbox); have GW464 := mk0 (ge_go (a := w.heap.size) hg (below_size z17_0)); have GE464 := GW464; clear HB; have HB := n0_; have BK464 := n1_; clear n0_ n1_ ; clear hb hbox hg) | ((with_reducible refine gate_dst (N := 3) rfl ?_); refine boxz (cs := #[.int .i64 a1_0, .int .i64 a1_1]) (t := 52) rfl ?_; intro gb465 hg w7 hbox hb; have n0_ := mk0 (blk_belowB BK464 (pkb BK464) hb); have n1_ := mk0 (below_step z17_1 hb); have n2_ := mk0 (hbox); have GW465 := mk0 (ge_go (a := w.heap.size) hg (below_size z17_1)); have GE465 := GW465; have NB464_465 := mk0 (nb_lt hg (blk_ltB BK464 (pkb BK464))); have NB465_464 := mk0 (nb_gt hg (blk_ltB BK464 (pkb BK464))); clear BK464 HB; have BK464 := n0_; have HB := n1_; have BK465 := n2_; clear n0_ n1_ n2_ ; clear hb hbox hg; have hnb8 := NB464_465.out; have hnc8 := NB465_464.out; obtain ⟨_, _, _, _, _, _, _, _⟩ := be_4 BK464.out; obtain ⟨_, _, _, _⟩ := be_2 BK465.out))
  go_ret
  exact ⟨z17_6, z17_4⟩
 rw [if_neg c5] at H
 have c5b0 := decide_eq_false c5
 clear c5
 obtain rfl := Option.some.inj H
 simp only [Option.some.injEq, Prod.mk.injEq] at H
 obtain ⟨rfl⟩ := H
 go_enter Try.func135, Try.ntmps135
 go_wp2_with (first | ((with_reducible refine gate_dst (N := 2) rfl ?_); refine boxz (cs := #[.int .i64 a0_0, .int .i64 a0_1, .int .i64 a0_2, .int .i64 a0_3]) (t := 63) rfl ?_; intro gb464 hg w11 hbox hb; have n0_ := mk0 (below_step z17_0 hb); have n1_ := mk0 (hbox); have GW464 := mk0 (ge_go (a := w.heap.size) hg (below_size z17_0)); have GE464 := GW464; clear HB; have HB := n0_; have BK464 := n1_; clear n0_ n1_ ; clear hb hbox hg) | ((with_reducible refine gate_dst (N := 3) rfl ?_); refine boxz (cs := #[.int .i64 a1_0, .int .i64 a1_1]) (t := 52) rfl ?_; intro gb465 hg w12 hbox hb; have n0_ := mk0 (blk_belowB BK464 (pkb BK464) hb); have n1_ := mk0 (below_step z17_1 hb); have n2_ := mk0 (hbox); have GW465 := mk0 (ge_go (a := w.heap.size) hg (below_size z17_1)); have GE465 := GW465; have NB464_465 := mk0 (nb_lt hg (blk_ltB BK464 (pkb BK464))); have NB465_464 := mk0 (nb_gt hg (blk_ltB BK464 (pkb BK464))); clear BK464 HB; have BK464 := n0_; have HB := n1_; have BK465 := n2_; clear n0_ n1_ n2_ ; clear hb hbox hg; have hnb13 := NB464_465.out; have hnc13 := NB465_464.out; obtain ⟨_, _, _, _, _, _, _, _⟩ := be_4 BK464.out; obtain ⟨_, _, _, _⟩ := be_2 BK465.out))
 go_ret
 exact ⟨z17_6, z17_4⟩

/-! ### spec_l11Bits: function 93 -/
def spec_l11Bits.f (a0_0 : Int) (a0_1 : Int) (a0_2 : Int) (a0_3 : Int) (l0_4 : List Int) (a1 : Int) (a2 : Int) : Option (Int) := (spec_InBox.f a0_0 a0_1 a0_2 a0_3 a1 a2).bind fun t468 => (if t468 = true then (if 0 ≤ (wrap64 ((wrap64 ((wrap64 ((wrap64 (a2 - a0_1)) * (wrap64 (a0_2 - a0_0)))) + a1)) - a0_0)) then (if (wrap64 ((wrap64 ((wrap64 ((wrap64 (a2 - a0_1)) * (wrap64 (a0_2 - a0_0)))) + a1)) - a0_0)) < (l0_4.length : Int) then (some (rd l0_4 (wrap64 ((wrap64 ((wrap64 ((wrap64 (a2 - a0_1)) * (wrap64 (a0_2 - a0_0)))) + a1)) - a0_0)))) else (none)) else (none)) else (some 0))
set_option maxHeartbeats 8000000 in
set_option maxRecDepth 100000 in
theorem spec_l11Bits.calls (a0_0 : Int) (a0_1 : Int) (a0_2 : Int) (a0_3 : Int) (A0_4 : Option Addr) (c0_4 : Nat) (l0_4 : List Int) (a1 : Int) (a2 : Int) (r : Int) (w : World) (hr0_4 : Kd.C (Kd.int .i64) w A0_4 l0_4.length l0_4) (hc0_4 : l0_4.length ≤ c0_4) (h : spec_l11Bits.f a0_0 a0_1 a0_2 a0_3 l0_4 a1 a2 = some r) :
  Calls Try.prog 93 #[.agg #[.int .i64 a0_0, .int .i64 a0_1, .int .i64 a0_2, .int .i64 a0_3, .slice A0_4 l0_4.length c0_4], .int .i64 a1, .int .i64 a2] w fun e w' => e = .returned (.int .i64 r) ∧ Below w.heap.size w w' := by
 have hu65 := Try.underlying65
 have hu63 := Try.underlying63
 have hu52 := Try.underlying52
 have HR0_4 := mk0 hr0_4
 have HC0_4 := mk0 hc0_4
 clear hr0_4 hc0_4
 have HB := mk0 (Below.refl w.heap.size w)
 have H : ((spec_InBox.f a0_0 a0_1 a0_2 a0_3 a1 a2).bind fun t468 => (if t468 = true then (if 0 ≤ (wrap64 ((wrap64 ((wrap64 ((wrap64 (a2 - a0_1)) * (wrap64 (a0_2 - a0_0)))) + a1)) - a0_0)) then (if (wrap64 ((wrap64 ((wrap64 ((wrap64 (a2 - a0_1)) * (wrap64 (a0_2 - a0_0)))) + a1)) - a0_0)) < (l0_4.length : Int) then (some (rd l0_4 (wrap64 ((wrap64 ((wrap64 ((wrap64 (a2 - a0_1)) * (wrap64 (a0_2 - a0_0)))) + a1)) - a0_0)))) else (none)) else (none)) else (some 0))) = some r := h
 clear h
 replace H := Option.bind_eq_some_iff.mp H
 obtain ⟨t468, A40, H⟩ := H
 try dsimp only at H
 have A4 := mk0 A40
 clear A40
 by_cases c5 : t468 = true
 rotate_left
 ·replace c5 := Bool.eq_false_iff.mpr c5
  subst c5
  rw [if_neg (show ¬ (false = true) by decide)] at H
  obtain rfl := Option.some.inj H
  simp only [Option.some.injEq, Prod.mk.injEq] at H
  obtain ⟨rfl⟩ := H
  go_enter Try.func93, Try.ntmps93
  go_wp2_with (first | ((with_reducible refine gate_dst (N := 3) rfl ?_); refine boxz (cs := #[.int .i64 a0_0, .int .i64 a0_1, .int .i64 a0_2, .int .i64 a0_3, .slice A0_4 l0_4.length c0_4]) (t := 65) rfl ?_; intro gb466 hg w17 hbox hb; have n0_ := mk0 (below_step z17_0 hb); have n1_ := mk0 (hbox); have GW466 := mk0 (ge_go (a := w.heap.size) hg (below_size z17_0)); have GE466 := GW466; clear HB; have HB := n0_; have BK466 := n1_; clear n0_ n1_ ; clear hb hbox hg; obtain ⟨_, _, _, _, _, _, _, _, _, _⟩ := be_5 BK466.out) | ((with_reducible refine gate_dst (N := 7) rfl ?_); refine boxz (cs := #[.int .i64 0, .int .i64 0, .int .i64 0, .int .i64 0]) (t := 63) rfl ?_; intro gb467 hg w19 hbox hb; have n0_ := mk0 (blk_belowB BK466 (pkb BK466) hb); have n1_ := mk0 (below_step z17_2 hb); have n2_ := mk0 (hbox); have GW467 := mk0 (ge_go (a := w.heap.size) hg (below_size z17_2)); have GE467 := GW467; have NB466_467 := mk0 (nb_lt hg (blk_ltB BK466 (pkb BK466))); have NB467_466 := mk0 (nb_gt hg (blk_ltB BK466 (pkb BK466))); clear BK466 HB; have BK466 := n0_; have HB := n1_; have BK467 := n2_; clear n0_ n1_ n2_ ; clear hb hbox hg; have hnb20 := NB467_466.out; have hnc20 := NB466_467.out; obtain ⟨_, _, _, _, _, _, _, _⟩ := be_4 BK467.out) | ((with_reducible refine gate_callee (f := 135) rfl ?_); refine goesL_ (some 14) rfl rfl Try.func135 (by kernel_rfl) rfl #[.agg #[.int .i64 a0_0, .int .i64 a0_1, .int .i64 a0_2, .int .i64 a0_3], .agg #[.int .i64 a1, .int .i64 a2]] rfl z17_9 ?_; (with_reducible refine (spec_InBox.calls a0_0 a0_1 a0_2 a0_3 a1 a2 false _ A4.out).mono ?_); rintro e w22 ⟨rfl, hb⟩; refine ⟨_, rfl, ?_⟩; have n0_ := mk0 (blk_belowB BK466 z17_3 hb); have n1_ := mk0 (blk_below (g := gb467) (o := .cells #[.int .i64 a0_0, .int .i64 a0_1, .int .i64 a0_2, .int .i64 a0_3] 63 (0, 0)) z17_7 hb); have n2_ := mk0 (below_step z17_5 hb); clear BK466 BK467 HB; have BK466 := n0_; have BK467 := n1_; have HB := n2_; clear n0_ n1_ n2_; (try clear hb)))
  go_ret
  exact ⟨z17_6, z17_5⟩
 subst c5
 rw [if_pos rfl] at H
 obtain ⟨ji6, hji6⟩ : ∃ j_ : Int, (wrap64 ((wrap64 ((wrap64 ((wrap64 (a2 - a0_1)) * (wrap64 (a0_2 - a0_0)))) + a1)) - a0_0)) = j_ := ⟨_, rfl⟩
 replace H : (if 0 ≤ (ji6) then (if (ji6) < (l0_4.length : Int) then (some (rd l0_4 (ji6))) else (none)) else (none)) = some r := by first | (rw [hji6] at H; exact H) | (simp only [hji6] at H ⊢; exact H)
 (try rw [hji6] at A4)
 have hji6w : (IntKind.i64.wrap ((wrap64 ((wrap64 ((wrap64 (a2 - a0_1)) * (wrap64 (a0_2 - a0_0)))) + a1)) - a0_0)) = ji6 := (i64_w _).trans hji6
 by_cases c7 : 0 ≤ (ji6)
 rotate_left
 ·rw [if_neg c7] at H
  exact absurd H (by simp)
 rw [if_pos c7] at H
 have c7b0 := decide_eq_true c7
 clear c7
 by_cases c8 : (ji6) < (l0_4.length : Int)
 rotate_left
 ·rw [if_neg c8] at H
  exact absurd H (by simp)
 rw [if_pos c8] at H
 have c8b0 := decide_eq_true c8
 clear c8
 obtain rfl := Option.some.inj H
 simp only [Option.some.injEq, Prod.mk.injEq] at H
 obtain ⟨rfl⟩ := H
 go_enter Try.func93, Try.ntmps93
 go_wp2_with (first | ((with_reducible refine gate_dst (N := 3) rfl ?_); refine boxz (cs := #[.int .i64 a0_0, .int .i64 a0_1, .int .i64 a0_2, .int .i64 a0_3, .slice A0_4 l0_4.length c0_4]) (t := 65) rfl ?_; intro gb466 hg w9 hbox hb; have n0_ := mk0 (below_step z17_0 hb); have n1_ := mk0 (hbox); have GW466 := mk0 (ge_go (a := w.heap.size) hg (below_size z17_0)); have GE466 := GW466; clear HB; have HB := n0_; have BK466 := n1_; clear n0_ n1_ ; clear hb hbox hg; obtain ⟨_, _, _, _, _, _, _, _, _, _⟩ := be_5 BK466.out) | ((with_reducible refine gate_dst (N := 7) rfl ?_); refine boxz (cs := #[.int .i64 0, .int .i64 0, .int .i64 0, .int .i64 0]) (t := 63) rfl ?_; intro gb467 hg w11 hbox hb; have n0_ := mk0 (blk_belowB BK466 (pkb BK466) hb); have n1_ := mk0 (below_step z17_2 hb); have n2_ := mk0 (hbox); have GW467 := mk0 (ge_go (a := w.heap.size) hg (below_size z17_2)); have GE467 := GW467; have NB466_467 := mk0 (nb_lt hg (blk_ltB BK466 (pkb BK466))); have NB467_466 := mk0 (nb_gt hg (blk_ltB BK466 (pkb BK466))); clear BK466 HB; have BK466 := n0_; have HB := n1_; have BK467 := n2_; clear n0_ n1_ n2_ ; clear hb hbox hg; have hnb12 := NB467_466.out; have hnc12 := NB466_467.out; obtain ⟨_, _, _, _, _, _, _, _⟩ := be_4 BK467.out) | ((with_reducible refine gate_callee (f := 135) rfl ?_); refine goesL_ (some 14) rfl rfl Try.func135 (by kernel_rfl) rfl #[.agg #[.int .i64 a0_0, .int .i64 a0_1, .int .i64 a0_2, .int .i64 a0_3], .agg #[.int .i64 a1, .int .i64 a2]] rfl z17_9 ?_; (with_reducible refine (spec_InBox.calls a0_0 a0_1 a0_2 a0_3 a1 a2 true _ A4.out).mono ?_); rintro e w14 ⟨rfl, hb⟩; refine ⟨_, rfl, ?_⟩; have n0_ := mk0 (blk_belowB BK466 z17_3 hb); have n1_ := mk0 (blk_below (g := gb467) (o := .cells #[.int .i64 a0_0, .int .i64 a0_1, .int .i64 a0_2, .int .i64 a0_3] 63 (0, 0)) z17_7 hb); have n2_ := mk0 (below_step z17_5 hb); clear BK466 BK467 HB; have BK466 := n0_; have BK467 := n1_; have HB := n2_; clear n0_ n1_ n2_; (try clear hb); obtain ⟨_, _, _, _, _, _, _, _, _, _⟩ := be_5 BK466.out; obtain ⟨_, _, _, _, _, _, _, _⟩ := be_4 BK467.out; have p469 : 0 ≤ ((ji6) : Int) := of_decide_eq_true (by first | (with_reducible assumption) | assumption); have q469 : (ji6) < (l0_4.length : Int) := of_decide_eq_true (by first | (with_reducible assumption) | assumption); obtain ⟨ad469, e469, hx469_0⟩ := Kd.at_int HR0_4.out (ji6) p469 q469; cases e469; replace hx469_0 := cell_go HB hx469_0; replace p469 := eq_true p469; replace q469 := eq_true q469))
 go_ret
 exact ⟨(by first | rfl | (simp [errW_none, errW_some] <;> rfl) | (simp only [← hji6]; first | rfl | (simp [errW_none, errW_some] <;> rfl)) | (simp [*, errW_none, errW_some] <;> rfl)), z17_5⟩

end Go.Proofs.Ytghbenapnhcllaa.MFnMeets
