/- Functions of the program as Lean functions, and the proof that a call comes to just these: machine text of this session's own program (myprint.py). -/
import Derived.Test.YtghbenapnhcllaaMFnMasksx0
import Derived.Test.YtghbenapnhcllaaMFnMasksx4
namespace Go.Proofs.Ytghbenapnhcllaa.MFnMasks
open Go.RowKit Go.Proofs.YtghbenapnhcllaaW.PrintWords Go.Proofs.YtghbenapnhcllaaW.PrintLast Go.Proofs.YtghbenapnhcllaaW.PrintMore
attribute [local go_sem] max2_int min2_int max_two min_two max_three min_three max_four min_four   -- for this text's walks alone
set_option linter.unusedVariables false
set_option linter.unusedSimpArgs false

theorem z9_0 {P : Prop} (h : P := by repeat (first | (with_reducible first | exact HB.out | apply below_alloc | apply pw_below_drewN | apply below_drew1 | refine below_set ?_ GE214.out | refine below_set ?_ GE217.out | refine below_set ?_ GE219.out) | exact HB.out)) : P := h
theorem z9_2 {P : Prop} (h : P := by repeat (first | (with_reducible first | exact HB.out | apply below_alloc | apply pw_below_drewN | apply below_drew1 | refine below_set ?_ GE214.out) | exact HB.out)) : P := h
theorem z9_3 {P : Prop} (h : P := by (with_reducible repeat (first | refine blk_drewN ?_ _ | refine blk_drew ?_ | refine blk_alloc ?_ _ | refine blk_far ?_ NB214_217.out _)); exact BK214.out) : P := h
theorem z9_5 {P : Prop} (h : P := by apply blk_fin; (focus ((with_reducible repeat (first | apply blk_putQ | refine blk_drewN ?_ _ | refine blk_drew ?_ | refine blk_alloc ?_ _)); exact BK217.out)); first | (simp only [List.setIfInBounds_toArray, List.set_cons_zero, List.set_cons_succ]; done) | rfl) : P := h
theorem z9_6 {P : Prop} (h : P := by have := HK1.out; have := HJ13.out; have := HJ36.out; omega) : P := h
theorem z9_7 {P : Prop} (h : P := by repeat (first | (with_reducible first | exact HB.out | apply below_alloc | apply pw_below_drewN | apply below_drew1 | refine below_set ?_ GE214.out | refine below_set ?_ GE217.out) | exact HB.out)) : P := h
theorem z9_8 {P : Prop} (h : P := by (with_reducible repeat (first | refine blk_drewN ?_ _ | refine blk_drew ?_ | refine blk_alloc ?_ _ | refine blk_far ?_ NB214_219.out _)); exact BK214.out) : P := h
theorem z9_9 {P : Prop} (h : P := by (with_reducible repeat (first | refine blk_drewN ?_ _ | refine blk_drew ?_ | refine blk_alloc ?_ _ | refine blk_far ?_ NB217_219.out _)); exact BK217.out) : P := h
theorem z9_11 {P : Prop} (h : P := by apply blk_fin; (focus ((with_reducible repeat (first | apply blk_putQ | refine blk_drewN ?_ _ | refine blk_drew ?_ | refine blk_alloc ?_ _)); exact BK219.out)); first | (simp only [List.setIfInBounds_toArray, List.set_cons_zero, List.set_cons_succ]; done) | rfl) : P := h
theorem z9_12 {P : Prop} (h : P := by repeat (first | (with_reducible first | exact HB.out | apply below_alloc | apply pw_below_drewN | apply below_drew1 | refine below_set ?_ GE211.out) | exact HB.out)) : P := h
theorem z9_13 {P : Prop} (h : P := by have := HK1.out; have := HJ13.out; first | omega | exact Nat.le_refl _) : P := h
theorem z9_14 {P : Prop} (h : P := by first | (rw [add_block]; exact hn218_0) | (show (Addr.add _ _).block ≠ _; rw [add_block]; exact hn218_0) | exact hn218_0) : P := h
theorem z9_15 {P : Prop} (h : P := by first | (rw [add_block]; exact hn218_1) | (show (Addr.add _ _).block ≠ _; rw [add_block]; exact hn218_1) | exact hn218_1) : P := h
/-! ### spec_l10Near: function 151 -/
def spec_l10Near.f (a0_0 : Int) (a0_1 : Int) : Option (Bool) := (spec_l01In.f a0_0 (-33554432) 33554432).bind fun t212 => (if t212 = true then ((spec_l01In.f a0_1 (-33554432) 33554432).bind fun t213 => (some t213)) else (some false))
set_option maxHeartbeats 8000000 in
set_option maxRecDepth 100000 in
theorem spec_l10Near.calls (a0_0 : Int) (a0_1 : Int) (r : Bool) (w : World) (h : spec_l10Near.f a0_0 a0_1 = some r) :
  Calls Try.prog 151 #[.agg #[.int .i64 a0_0, .int .i64 a0_1]] w fun e w' => e = .returned (.bool r) ∧ Below w.heap.size w w' := by
 have hu52 := Try.underlying52; have HB := mk0 (Below.refl w.heap.size w)
 have H := h; unfold spec_l10Near.f at H
 clear h; obtain ⟨t212, A2, H⟩ := bnd H
 try dsimp only at H
 by_cases c3 : t212 = true
 rotate_left
 ·replace c3 := Bool.eq_false_iff.mpr c3; subst c3; rw [if_neg (show ¬ (false = true) by decide)] at H
  obtain rfl := Option.some.inj H
  simp only [Option.some.injEq, Prod.mk.injEq] at H; obtain ⟨rfl⟩ := H
  go_enter Try.func151, Try.ntmps151
  go_wp2_with (first | ((with_reducible refine gate_dst (N := 1) rfl ?_); refine boxz (cs := #[.int .i64 a0_0, .int .i64 a0_1]) (t := 52) rfl ?_; intro gb211 hg w7 hbox hb; have GW211 := mk0 (ge_go (a := w.heap.size) hg (below_size q_149)); have GE211 := GW211; replace HB := bS q_149 hb; have BK211 := mk0 (hbox); clear hb hbox hg; obtain ⟨_, _, _, _⟩ := be_2 BK211.out) | ((with_reducible refine gate_callee (f := 64) rfl ?_); refine gl_ (some 5) Try.func64 #[.int .i64 a0_0, .int .i64 (-33554432), .int .i64 33554432] rfl q_0 ?_; (with_reducible refine (spec_l01In.calls a0_0 (-33554432) 33554432 false _ A2.out).mono ?_); rintro e w' ⟨rfl, ⟨nd, rfl⟩⟩; refine ⟨_, rfl, ?_⟩))
  go_ret
  exact ⟨q_71, z9_12⟩
 subst c3; rw [if_pos rfl] at H; obtain ⟨t213, A4, H⟩ := bnd H
 try dsimp only at H
 obtain rfl := Option.some.inj H
 simp only [Option.some.injEq, Prod.mk.injEq] at H; obtain ⟨rfl⟩ := H
 go_enter Try.func151, Try.ntmps151
 go_wp2_with (first | ((with_reducible refine gate_dst (N := 1) rfl ?_); refine boxz (cs := #[.int .i64 a0_0, .int .i64 a0_1]) (t := 52) rfl ?_; intro gb211 hg w5 hbox hb; have GW211 := mk0 (ge_go (a := w.heap.size) hg (below_size q_149)); have GE211 := GW211; replace HB := bS q_149 hb; have BK211 := mk0 (hbox); clear hb hbox hg; obtain ⟨_, _, _, _⟩ := be_2 BK211.out) | ((with_reducible refine gate_callee (f := 64) rfl ?_); refine gl_ (some 5) Try.func64 #[.int .i64 a0_0, .int .i64 (-33554432), .int .i64 33554432] rfl q_0 ?_; (with_reducible refine (spec_l01In.calls a0_0 (-33554432) 33554432 true _ A2.out).mono ?_); rintro e w' ⟨rfl, ⟨nd, rfl⟩⟩; refine ⟨_, rfl, ?_⟩) | (go_at_call 64; (with_reducible refine (spec_l01In.calls a0_1 (-33554432) 33554432 t213 _ A4.out).mono ?_); rintro e w' ⟨rfl, ⟨nd, rfl⟩⟩))
 go_ret
 exact ⟨q_71, z9_12⟩

/-! ### spec_WindOf: function 142 -/
mutual
def spec_WindOf.l0 : Nat → List (S52) → Int → Int → Int → Int → Option (Int)
 | 0, _, _, _, _, _ => none
 | k + 1, x0, x5, x6, x215000, x215001 => if x6 < (x0.length : Int) then (if 0 ≤ x6 then (if (x0.length : Int) = 0 then (none) else (if 0 ≤ (Int.tmod (wrap64 (x6 + 1)) (x0.length : Int)) then (if (Int.tmod (wrap64 (x6 + 1)) (x0.length : Int)) < (x0.length : Int) then ((spec_l10Near.f ((rd_T52 x0 x6).f0) ((rd_T52 x0 x6).f1)).bind fun t220 => (if t220 = true then ((spec_l10Near.f ((rd_T52 x0 (Int.tmod (wrap64 (x6 + 1)) (x0.length : Int))).f0) ((rd_T52 x0 (Int.tmod (wrap64 (x6 + 1)) (x0.length : Int))).f1)).bind fun t221 => (spec_WindOf.j1 k x0 x5 x6 (!t221) x215000 x215001 ((rd_T52 x0 x6).f0) ((rd_T52 x0 x6).f1) ((rd_T52 x0 (Int.tmod (wrap64 (x6 + 1)) (x0.length : Int))).f0) ((rd_T52 x0 (Int.tmod (wrap64 (x6 + 1)) (x0.length : Int))).f1))) else (spec_WindOf.j1 k x0 x5 x6 true x215000 x215001 ((rd_T52 x0 x6).f0) ((rd_T52 x0 x6).f1) ((rd_T52 x0 (Int.tmod (wrap64 (x6 + 1)) (x0.length : Int))).f0) ((rd_T52 x0 (Int.tmod (wrap64 (x6 + 1)) (x0.length : Int))).f1)))) else (none)) else (none))) else (none)) else (some x5)
def spec_WindOf.j1 : Nat → List (S52) → Int → Int → Bool → Int → Int → Int → Int → Int → Int → Option (Int)
 | 0, _, _, _, _, _, _, _, _, _, _ => none
 | k + 1, x0, x5, x6, x38, x215000, x215001, x218000, x218001, x220000, x220001 => if x38 = true then (some 0) else (if x218001 ≤ x215001 then (if x215001 < x220001 then (spec_WindOf.j2 k x0 x5 x6 (wrap64 ((wrap64 ((wrap64 (x220000 - x218000)) * (wrap64 (x215001 - x218001)))) - (wrap64 ((wrap64 (x215000 - x218000)) * (wrap64 (x220001 - x218001)))))) (decide ((wrap64 ((wrap64 ((wrap64 (x220000 - x218000)) * (wrap64 (x215001 - x218001)))) - (wrap64 ((wrap64 (x215000 - x218000)) * (wrap64 (x220001 - x218001)))))) > 0)) x215000 x215001 x218000 x218001 x220000 x220001) else (spec_WindOf.j2 k x0 x5 x6 (wrap64 ((wrap64 ((wrap64 (x220000 - x218000)) * (wrap64 (x215001 - x218001)))) - (wrap64 ((wrap64 (x215000 - x218000)) * (wrap64 (x220001 - x218001)))))) false x215000 x215001 x218000 x218001 x220000 x220001)) else (spec_WindOf.j2 k x0 x5 x6 (wrap64 ((wrap64 ((wrap64 (x220000 - x218000)) * (wrap64 (x215001 - x218001)))) - (wrap64 ((wrap64 (x215000 - x218000)) * (wrap64 (x220001 - x218001)))))) false x215000 x215001 x218000 x218001 x220000 x220001))
def spec_WindOf.j2 : Nat → List (S52) → Int → Int → Int → Bool → Int → Int → Int → Int → Int → Int → Option (Int)
 | 0, _, _, _, _, _, _, _, _, _, _, _ => none
 | k + 1, x0, x5, x6, x9, x77, x215000, x215001, x218000, x218001, x220000, x220001 => if x77 = true then (if x220001 ≤ x215001 then (if x215001 < x218001 then (if x9 < 0 then (spec_WindOf.l0 k x0 (wrap64 ((wrap64 (x5 + 1)) - 1)) (wrap64 (x6 + 1)) x215000 x215001) else (spec_WindOf.l0 k x0 (wrap64 (x5 + 1)) (wrap64 (x6 + 1)) x215000 x215001)) else (spec_WindOf.l0 k x0 (wrap64 (x5 + 1)) (wrap64 (x6 + 1)) x215000 x215001)) else (spec_WindOf.l0 k x0 (wrap64 (x5 + 1)) (wrap64 (x6 + 1)) x215000 x215001)) else (if x220001 ≤ x215001 then (if x215001 < x218001 then (if x9 < 0 then (spec_WindOf.l0 k x0 (wrap64 (x5 - 1)) (wrap64 (x6 + 1)) x215000 x215001) else (spec_WindOf.l0 k x0 x5 (wrap64 (x6 + 1)) x215000 x215001)) else (spec_WindOf.l0 k x0 x5 (wrap64 (x6 + 1)) x215000 x215001)) else (spec_WindOf.l0 k x0 x5 (wrap64 (x6 + 1)) x215000 x215001))
end
def spec_WindOf.f (k : Nat) (l0 : List (S52)) (a1_0 : Int) (a1_1 : Int) : Option (Int) := (spec_l10Near.f a1_0 a1_1).bind fun t215 => (if t215 = true then (spec_WindOf.l0 k l0 0 0 a1_0 a1_1) else (some 0))
theorem spec_WindOf.mono_l : ∀ k, (∀ y0 y1 y2 y3 y4, LeO (spec_WindOf.l0 k y0 y1 y2 y3 y4) (spec_WindOf.l0 (k + 1) y0 y1 y2 y3 y4)) ∧ (∀ y0 y1 y2 y3 y4 y5 y6 y7 y8 y9, LeO (spec_WindOf.j1 k y0 y1 y2 y3 y4 y5 y6 y7 y8 y9) (spec_WindOf.j1 (k + 1) y0 y1 y2 y3 y4 y5 y6 y7 y8 y9)) ∧ (∀ y0 y1 y2 y3 y4 y5 y6 y7 y8 y9 y10, LeO (spec_WindOf.j2 k y0 y1 y2 y3 y4 y5 y6 y7 y8 y9 y10) (spec_WindOf.j2 (k + 1) y0 y1 y2 y3 y4 y5 y6 y7 y8 y9 y10))
 | 0 => ⟨fun _ _ _ _ _ r h => by simp [spec_WindOf.l0] at h, fun _ _ _ _ _ _ _ _ _ _ r h => by simp [spec_WindOf.j1] at h, fun _ _ _ _ _ _ _ _ _ _ _ r h => by simp [spec_WindOf.j2] at h⟩
 | k + 1 => by
  obtain ⟨ih0, ih1, ih2⟩ := spec_WindOf.mono_l k
  refine ⟨?_, ?_, ?_⟩
  ·intro y0 y1 y2 y3 y4
   unfold spec_WindOf.l0
   with_reducible repeat' first | apply ih0 | apply ih1 | apply ih2 | exact LeO.refl _ | exact LeO.none _ | refine LeO.ite ?_ ?_ | refine LeO.bind ?_ (fun _ => ?_)
  ·intro y0 y1 y2 y3 y4 y5 y6 y7 y8 y9
   unfold spec_WindOf.j1
   with_reducible repeat' first | apply ih0 | apply ih1 | apply ih2 | exact LeO.refl _ | exact LeO.none _ | refine LeO.ite ?_ ?_ | refine LeO.bind ?_ (fun _ => ?_)
  ·intro y0 y1 y2 y3 y4 y5 y6 y7 y8 y9 y10
   unfold spec_WindOf.j2
   with_reducible repeat' first | apply ih0 | apply ih1 | apply ih2 | exact LeO.refl _ | exact LeO.none _ | refine LeO.ite ?_ ?_ | refine LeO.bind ?_ (fun _ => ?_)
theorem spec_WindOf.mono : ∀ a0 a1 a2 k, LeO (spec_WindOf.f k a0 a1 a2) (spec_WindOf.f (k + 1) a0 a1 a2) := by
 intro a0 a1 a2 k; obtain ⟨ih0, ih1, ih2⟩ := spec_WindOf.mono_l k
 unfold spec_WindOf.f
 with_reducible repeat' first | apply ih0 | apply ih1 | apply ih2 | exact LeO.refl _ | exact LeO.none _ | refine LeO.ite ?_ ?_ | refine LeO.bind ?_ (fun _ => ?_)
set_option maxHeartbeats 8000000 in
set_option maxRecDepth 100000 in
theorem spec_WindOf.calls (k : Nat) (A0 : Option Addr) (c0 : Nat) (l0 : List (S52)) (a1_0 : Int) (a1_1 : Int) (r : Int) (w : World) (hr0 : Kd.C k52 w A0 l0.length l0) (hc0 : l0.length ≤ c0) (h : spec_WindOf.f k l0 a1_0 a1_1 = some r) :
  Calls Try.prog 142 #[.slice A0 l0.length c0, .agg #[.int .i64 a1_0, .int .i64 a1_1]] w fun e w' => e = .returned (.int .i64 r) ∧ Below w.heap.size w w' := by
 have hu52 := Try.underlying52; have HR0 := mk0 hr0; have HC0 := mk0 hc0; clear hr0 hc0; have HB := mk0 (Below.refl w.heap.size w)
 have H := h; unfold spec_WindOf.f at H
 clear h; obtain ⟨t215, A3, H⟩ := bnd H
 try dsimp only at H
 by_cases c4 : t215 = true
 rotate_left
 ·replace c4 := Bool.eq_false_iff.mpr c4; subst c4; rw [if_neg (show ¬ (false = true) by decide)] at H
  obtain rfl := Option.some.inj H
  simp only [Option.some.injEq, Prod.mk.injEq] at H; obtain ⟨rfl⟩ := H
  go_enter Try.func142, Try.ntmps142
  go_wp2_with (first | ((with_reducible refine gate_dst (N := 3) rfl ?_); refine boxz (cs := #[.int .i64 a1_0, .int .i64 a1_1]) (t := 52) rfl ?_; intro gb214 hg w116 hbox hb; have GW214 := mk0 (ge_go (a := w.heap.size) hg (below_size q_149)); have GE214 := GW214; replace HB := bS q_149 hb; have BK214 := mk0 (hbox); clear hb hbox hg; obtain ⟨_, _, _, _⟩ := be_2 BK214.out) | ((with_reducible refine gate_callee (f := 151) rfl ?_); refine gl_ (some 11) Try.func151 #[.agg #[.int .i64 a1_0, .int .i64 a1_1]] rfl q_0 ?_; (with_reducible refine (spec_l10Near.calls a1_0 a1_1 false _ A3.out).mono ?_); rintro e w118 ⟨rfl, hb⟩; refine ⟨_, rfl, ?_⟩; replace BK214 := bB BK214 hb; replace HB := bS z9_2 hb; clear hb))
  go_ret
  exact ⟨q_71, z9_2⟩
 subst c4; rw [if_pos rfl] at H
 have H' := mk0 H
 clear H; go_enter Try.func142, Try.ntmps142
 go_wp2_with (first | ((with_reducible refine gate_dst (N := 3) rfl ?_); refine boxz (cs := #[.int .i64 a1_0, .int .i64 a1_1]) (t := 52) rfl ?_; intro gb214 hg w5 hbox hb; have GW214 := mk0 (ge_go (a := w.heap.size) hg (below_size q_149)); have GE214 := GW214; replace HB := bS q_149 hb; have BK214 := mk0 (hbox); clear hb hbox hg; obtain ⟨_, _, _, _⟩ := be_2 BK214.out) | ((with_reducible refine gate_callee (f := 151) rfl ?_); refine gl_ (some 11) Try.func151 #[.agg #[.int .i64 a1_0, .int .i64 a1_1]] rfl q_0 ?_; (with_reducible refine (spec_l10Near.calls a1_0 a1_1 true _ A3.out).mono ?_); rintro e w7 ⟨rfl, hb⟩; refine ⟨_, rfl, ?_⟩; replace BK214 := bB BK214 hb; replace HB := bS z9_2 hb; clear hb))
 go_loopg [5, 6] k (fun kq v5 v6 w' => ∃ (x5_1 : Int) (x6_1 : Int), v5 = .int .i64 x5_1 ∧ v6 = .int .i64 x6_1 ∧ Aside0 (spec_WindOf.l0 kq l0 x5_1 x6_1 a1_0 a1_1 = some r) ∧ Aside0 (kq ≤ k) ∧ Aside0 (w'.heap[gb214]? = some (.cells #[.int .i64 a1_0, .int .i64 a1_1] 52 (0, 0))) ∧ Aside0 (Below w.heap.size w w'))
 case atStart => exact ⟨(0), (0), rs0, rs0, H', ⟨Nat.le_refl _⟩, ⟨pkb BK214⟩, ⟨z9_2⟩⟩
 case round =>
  clear H'
  try clear c4
  obtain ⟨x5_1, x6_1, rfl, rfl, HA, HK1, BK214, HB⟩ := hrel
  cases gk with
  | zero => exact absurd HA.out (by simp [spec_WindOf.l0])
  | succ k1 =>
   have H := HA.out; clear HA; simp only [spec_WindOf.l0] at H
   by_cases c8 : x6_1 < (l0.length : Int)
   rotate_left
   ·rw [if_neg c8] at H; have c8b0 := decide_eq_false c8; clear c8
    obtain rfl := Option.some.inj H
    simp only [Option.some.injEq, Prod.mk.injEq] at H; obtain ⟨rfl⟩ := H
    go_wp2
    go_ret
    exact ⟨q_71, z9_2⟩
   rw [if_pos c8] at H; have c8b0 := decide_eq_true c8; clear c8
   by_cases c9 : 0 ≤ x6_1
   rotate_left
   ·rw [if_neg c9] at H
    exact absurd H (by simp)
   rw [if_pos c9] at H; have c9b0 := decide_eq_true c9; clear c9
   by_cases c10 : (l0.length : Int) = 0
   ·rw [if_pos c10] at H
    exact absurd H (by simp)
   rw [if_neg c10] at H
   have c10b0 : ((l0.length : Int) == 0) = false := beq_eq_false_iff_ne.mpr c10
   have c10b1 : ((l0.length : Int) != 0) = true := bne_iff_ne.mpr c10
   have c10b2 : ¬ (l0 = []) := fun h_ => c10 (by rw [h_]; rfl)
   obtain ⟨ji11, hji11⟩ : ∃ j_ : Int, (Int.tmod (wrap64 (x6_1 + 1)) (l0.length : Int)) = j_ := ⟨_, rfl⟩
   replace H : (if 0 ≤ (ji11) then (if (ji11) < (l0.length : Int) then ((spec_l10Near.f ((rd_T52 l0 x6_1).f0) ((rd_T52 l0 x6_1).f1)).bind fun t220 => (if t220 = true then ((spec_l10Near.f ((rd_T52 l0 (ji11)).f0) ((rd_T52 l0 (ji11)).f1)).bind fun t221 => (spec_WindOf.j1 k1 l0 x5_1 x6_1 (!t221) a1_0 a1_1 ((rd_T52 l0 x6_1).f0) ((rd_T52 l0 x6_1).f1) ((rd_T52 l0 (ji11)).f0) ((rd_T52 l0 (ji11)).f1))) else (spec_WindOf.j1 k1 l0 x5_1 x6_1 true a1_0 a1_1 ((rd_T52 l0 x6_1).f0) ((rd_T52 l0 x6_1).f1) ((rd_T52 l0 (ji11)).f0) ((rd_T52 l0 (ji11)).f1)))) else (none)) else (none)) = some r := by first | (rw [hji11] at H; exact H) | (simp only [hji11] at H ⊢; exact H)
   by_cases c12 : 0 ≤ (ji11)
   rotate_left
   ·rw [if_neg c12] at H
    exact absurd H (by simp)
   rw [if_pos c12] at H; have c12b0 := decide_eq_true c12; clear c12
   by_cases c13 : (ji11) < (l0.length : Int)
   rotate_left
   ·rw [if_neg c13] at H
    exact absurd H (by simp)
   rw [if_pos c13] at H; have c13b0 := decide_eq_true c13; clear c13; have HC14 := mk0 H; clear H
   have p216 : 0 ≤ (x6_1 : Int) := of_decide_eq_true (by first | (with_reducible assumption) | assumption)
   have q216 : x6_1 < (l0.length : Int) := of_decide_eq_true (by first | (with_reducible assumption) | assumption)
   obtain ⟨ad216, e216, hx216_0, hx216_1⟩ := at_T52 HR0.out x6_1 p216 q216
   cases e216
   replace hx216_0 := cell_go HB hx216_0; replace hx216_1 := cell_go HB hx216_1; replace p216 := eq_true p216; replace q216 := eq_true q216
   go_upto_region 9 with (first | ((with_reducible refine gate_dst (N := 7) rfl ?_); refine boxz (cs := #[.int .i64 0, .int .i64 0]) (t := 52) rfl ?_; intro gb217 hg w15 hbox hb; have GW217 := mk0 (ge_go (a := w.heap.size) hg (below_size z9_2)); have GE217 := GW217; have NB214_217 := mk0 (nb_lt hg (blk_ltB BK214 (pkb BK214))); have NB217_214 := mk0 (nb_gt hg (blk_ltB BK214 (pkb BK214))); replace BK214 := bB BK214 hb; replace HB := bS z9_2 hb; have BK217 := mk0 (hbox); clear hb hbox hg; have hnb16 := NB217_214.out; have hnc16 := NB214_217.out; obtain ⟨_, _, _, _⟩ := be_2 BK217.out; have p218 : 0 ≤ ((ji11) : Int) := of_decide_eq_true (by first | (with_reducible assumption) | assumption); have q218 : (ji11) < (l0.length : Int) := of_decide_eq_true (by first | (with_reducible assumption) | assumption); obtain ⟨ad218, e218, hx218_0, hx218_1⟩ := at_T52 HR0.out (ji11) p218 q218; obtain rfl : ad216 = ad218 := (by injection e218); have hn218_0 : ad216.block ≠ gb217 := Nat.ne_of_lt (Nat.lt_of_lt_of_le (by have := World.block_lt_of_cell? _ _ hx218_0; first | rwa [add_block] at this | exact this) GW217.out); have hn218_1 : ad216.block ≠ gb217 := Nat.ne_of_lt (Nat.lt_of_lt_of_le (by have := World.block_lt_of_cell? _ _ hx218_0; first | rwa [add_block] at this | exact this) GW217.out); replace hx218_0 := cell_go HB hx218_0; replace hx218_1 := cell_go HB hx218_1; replace hx218_0 := (cell_far (p := ⟨gb217, 0, none⟩) z9_14 (.int .i64 ((rd_T52 l0 x6_1).f0))).trans hx218_0; replace hx218_1 := (cell_far (p := ⟨gb217, 0, none⟩) z9_14 (.int .i64 ((rd_T52 l0 x6_1).f0))).trans hx218_1; replace hx218_0 := (cell_far (p := ⟨gb217, 1, none⟩) z9_15 (.int .i64 ((rd_T52 l0 x6_1).f1))).trans hx218_0; replace hx218_1 := (cell_far (p := ⟨gb217, 1, none⟩) z9_15 (.int .i64 ((rd_T52 l0 x6_1).f1))).trans hx218_1; clear hn218_0 hn218_1; replace p218 := eq_true p218; replace q218 := eq_true q218) | ((with_reducible refine gate_dst (N := 8) rfl ?_); refine boxz (cs := #[.int .i64 0, .int .i64 0]) (t := 52) rfl ?_; intro gb219 hg w18 hbox hb; have GW219 := mk0 (ge_go (a := w.heap.size) hg (below_size z9_7)); have GE219 := GW219; have NB214_219 := mk0 (nb_lt hg (blk_ltB BK214 z9_3)); have NB219_214 := mk0 (nb_gt hg (blk_ltB BK214 z9_3)); have NB217_219 := mk0 ((by rw [hg]; exact Nat.ne_of_lt (blk_lt (g := gb217) (o := .cells #[.int .i64 ((rd_T52 l0 x6_1).f0), .int .i64 ((rd_T52 l0 x6_1).f1)] 52 (0, 0)) z9_5) : gb217 ≠ gb219)); have NB219_217 := mk0 ((by rw [hg]; exact Nat.ne_of_gt (blk_lt (g := gb217) (o := .cells #[.int .i64 ((rd_T52 l0 x6_1).f0), .int .i64 ((rd_T52 l0 x6_1).f1)] 52 (0, 0)) z9_5) : gb219 ≠ gb217)); replace BK214 := mk0 (blk_belowB BK214 z9_3 hb); replace BK217 := mk0 (blk_below (g := gb217) (o := .cells #[.int .i64 ((rd_T52 l0 x6_1).f0), .int .i64 ((rd_T52 l0 x6_1).f1)] 52 (0, 0)) z9_5 hb); replace HB := bS z9_7 hb; have BK219 := mk0 (hbox); clear hb hbox hg; have hnb19 := NB219_214.out; have hnc19 := NB214_219.out; have hnb20 := NB219_217.out; have hnc20 := NB217_219.out; obtain ⟨_, _, _, _⟩ := be_2 BK219.out))
   (try simp only [Act.put, List.setIfInBounds_toArray, List.set_cons_zero, List.set_cons_succ])
   go_cut [38] (fun v38 wc => ∃ (kq : Nat) (x38_13 : Bool), v38 = .bool x38_13 ∧ Aside0 (spec_WindOf.j1 kq l0 x5_1 x6_1 x38_13 a1_0 a1_1 ((rd_T52 l0 x6_1).f0) ((rd_T52 l0 x6_1).f1) ((rd_T52 l0 (ji11)).f0) ((rd_T52 l0 (ji11)).f1) = some r) ∧ Aside0 (kq ≤ k1) ∧ Aside0 (wc.heap[gb214]? = some (.cells #[.int .i64 a1_0, .int .i64 a1_1] 52 (0, 0))) ∧ Aside0 (wc.heap[gb217]? = some (.cells #[.int .i64 ((rd_T52 l0 x6_1).f0), .int .i64 ((rd_T52 l0 x6_1).f1)] 52 (0, 0))) ∧ Aside0 (wc.heap[gb219]? = some (.cells #[.int .i64 ((rd_T52 l0 (ji11)).f0), .int .i64 ((rd_T52 l0 (ji11)).f1)] 52 (0, 0))) ∧ Aside0 (Below w.heap.size w wc))
   case first =>
    have H := HC14.out; clear HC14; obtain ⟨t220, A22, H⟩ := bnd H
    try dsimp only at H
    by_cases c23 : t220 = true
    rotate_left
    ·replace c23 := Bool.eq_false_iff.mpr c23; subst c23; rw [if_neg (show ¬ (false = true) by decide)] at H
     have H' := mk0 H
     clear H; have hnb32 := NB217_214.out; have hnc32 := NB214_217.out; have hnb33 := NB217_219.out; have hnc33 := NB219_217.out; obtain ⟨_, _, _, _⟩ := be_2 BK217.out
     go_wp2_with (first | ((with_reducible refine gate_callee (f := 151) rfl ?_); refine gl_ (some 32) Try.func151 #[.agg #[.int .i64 ((rd_T52 l0 x6_1).f0), .int .i64 ((rd_T52 l0 x6_1).f1)]] rfl q_0 ?_; (with_reducible refine (spec_l10Near.calls ((rd_T52 l0 x6_1).f0) ((rd_T52 l0 x6_1).f1) false _ A22.out).mono ?_); rintro e w35 ⟨rfl, hb⟩; refine ⟨_, rfl, ?_⟩; replace BK214 := mk0 (blk_belowB BK214 z9_8 hb); replace BK217 := mk0 (blk_belowB BK217 z9_9 hb); replace BK219 := mk0 (blk_below (g := gb219) (o := .cells #[.int .i64 ((rd_T52 l0 (ji11)).f0), .int .i64 ((rd_T52 l0 (ji11)).f1)] 52 (0, 0)) z9_11 hb); replace HB := bS z9_0 hb; clear hb))
     go_meet
     case rel => exact ⟨_, (true), rs0, H', ⟨(by have := HK1.out; first | omega | exact Nat.le_refl _)⟩, ⟨pkb BK214⟩, ⟨pkb BK217⟩, ⟨pkb BK219⟩, ⟨z9_0⟩⟩
    subst c23; rw [if_pos rfl] at H; obtain ⟨t221, A24, H⟩ := bnd H
    try dsimp only at H
    have H' := mk0 H
    clear H; have hnb25 := NB217_214.out; have hnc25 := NB214_217.out; have hnb26 := NB217_219.out; have hnc26 := NB219_217.out; obtain ⟨_, _, _, _⟩ := be_2 BK217.out
    go_wp2_with (first | ((with_reducible refine gate_callee (f := 151) rfl ?_); refine gl_ (some 32) Try.func151 #[.agg #[.int .i64 ((rd_T52 l0 x6_1).f0), .int .i64 ((rd_T52 l0 x6_1).f1)]] rfl q_0 ?_; (with_reducible refine (spec_l10Near.calls ((rd_T52 l0 x6_1).f0) ((rd_T52 l0 x6_1).f1) true _ A22.out).mono ?_); rintro e w28 ⟨rfl, hb⟩; refine ⟨_, rfl, ?_⟩; replace BK214 := mk0 (blk_belowB BK214 z9_8 hb); replace BK217 := mk0 (blk_belowB BK217 z9_9 hb); replace BK219 := mk0 (blk_below (g := gb219) (o := .cells #[.int .i64 ((rd_T52 l0 (ji11)).f0), .int .i64 ((rd_T52 l0 (ji11)).f1)] 52 (0, 0)) z9_11 hb); replace HB := bS z9_0 hb; clear hb; have hnb29 := NB219_214.out; have hnc29 := NB214_219.out; obtain ⟨_, _, _, _⟩ := be_2 BK219.out) | (go_at_call 151; (with_reducible refine (spec_l10Near.calls ((rd_T52 l0 (ji11)).f0) ((rd_T52 l0 (ji11)).f1) t221 _ A24.out).mono ?_); rintro e w31 ⟨rfl, hb⟩; replace BK214 := bB BK214 hb; replace BK217 := bB BK217 hb; replace BK219 := bB BK219 hb; replace HB := bS z9_0 hb; clear hb))
    go_meet
    case rel => exact ⟨_, (!t221), rs0, H', ⟨(by have := HK1.out; first | omega | exact Nat.le_refl _)⟩, ⟨pkb BK214⟩, ⟨pkb BK217⟩, ⟨pkb BK219⟩, ⟨z9_0⟩⟩
   case rest =>
    clear HC14; try clear c1
    (try clear c8b0); (try clear c9b0); (try clear c10); (try clear c10b0); (try clear c10b1); (try clear c10b2); (try clear c12b0); (try clear c13b0); (try clear hx216_0); (try clear hx216_1); (try clear hx218_0); (try clear hx218_1); (try clear p216); (try clear p218); (try clear q216); (try clear q218); obtain ⟨kq, x38_13, rfl, HA, HJ13, BK214, BK217, BK219, HB⟩ := hcut
    cases kq with
    | zero => exact absurd HA.out (by simp [spec_WindOf.j1])
    | succ kj13 =>
     have H := HA.out; clear HA; simp only [spec_WindOf.j1] at H
     by_cases c36 : x38_13 = true
     ·subst c36; rw [if_pos rfl] at H
      obtain rfl := Option.some.inj H
      simp only [Option.some.injEq, Prod.mk.injEq] at H; obtain ⟨rfl⟩ := H
      go_wp2
      go_ret
      exact ⟨(by first | rfl | (simp [errW_none, errW_some] <;> rfl) | (simp only [← hji11]; first | rfl | (simp [errW_none, errW_some] <;> rfl)) | (simp [*, errW_none, errW_some] <;> rfl)), z9_0⟩
     replace c36 := Bool.eq_false_iff.mpr c36; subst c36; rw [if_neg (show ¬ (false = true) by decide)] at H
     have HC37 := mk0 H; clear H; have hnb38 := NB219_214.out; have hnc38 := NB214_219.out; have hnb39 := NB219_217.out; have hnc39 := NB217_219.out; obtain ⟨_, _, _, _⟩ := be_2 BK219.out; have hnb41 := NB217_214.out; have hnc41 := NB214_217.out; obtain ⟨_, _, _, _⟩ := be_2 BK217.out; obtain ⟨_, _, _, _⟩ := be_2 BK214.out
     go_upto_region 12 with (fail)
     go_cut [77] (fun v77 wc => ∃ (kq : Nat) (x77_36 : Bool), v77 = .bool x77_36 ∧ Aside0 (spec_WindOf.j2 kq l0 x5_1 x6_1 (wrap64 ((wrap64 ((wrap64 (((rd_T52 l0 (ji11)).f0) - ((rd_T52 l0 x6_1).f0))) * (wrap64 (a1_1 - ((rd_T52 l0 x6_1).f1))))) - (wrap64 ((wrap64 (a1_0 - ((rd_T52 l0 x6_1).f0))) * (wrap64 (((rd_T52 l0 (ji11)).f1) - ((rd_T52 l0 x6_1).f1))))))) x77_36 a1_0 a1_1 ((rd_T52 l0 x6_1).f0) ((rd_T52 l0 x6_1).f1) ((rd_T52 l0 (ji11)).f0) ((rd_T52 l0 (ji11)).f1) = some r) ∧ Aside0 (kq ≤ kj13) ∧ Aside0 (wc.heap[gb214]? = some (.cells #[.int .i64 a1_0, .int .i64 a1_1] 52 (0, 0))) ∧ Aside0 (wc.heap[gb217]? = some (.cells #[.int .i64 ((rd_T52 l0 x6_1).f0), .int .i64 ((rd_T52 l0 x6_1).f1)] 52 (0, 0))) ∧ Aside0 (wc.heap[gb219]? = some (.cells #[.int .i64 ((rd_T52 l0 (ji11)).f0), .int .i64 ((rd_T52 l0 (ji11)).f1)] 52 (0, 0))) ∧ Aside0 (Below w.heap.size w wc))
     case first =>
      have H := HC37.out; clear HC37
      by_cases c44 : ((rd_T52 l0 x6_1).f1) ≤ a1_1
      rotate_left
      ·rw [if_neg c44] at H; have c44b0 := decide_eq_false c44; clear c44
       (first | rw [c44b0] | (simp only [i64_w, i32_w]; rw [c44b0]) | skip)
       have H' := mk0 H
       clear H; have hnb58 := NB217_214.out; have hnc58 := NB214_217.out; have hnb59 := NB217_219.out; have hnc59 := NB219_217.out; obtain ⟨_, _, _, _⟩ := be_2 BK217.out; have hnb61 := NB214_219.out; have hnc61 := NB219_214.out; obtain ⟨_, _, _, _⟩ := be_2 BK214.out
       go_wp2
       go_meet
       case rel => exact ⟨_, (false), rs0, H', ⟨z9_13⟩, ⟨pkb BK214⟩, ⟨pkb BK217⟩, ⟨pkb BK219⟩, ⟨z9_0⟩⟩
      rw [if_pos c44] at H; have c44b0 := decide_eq_true c44; clear c44
      (first | rw [c44b0] | (simp only [i64_w, i32_w]; rw [c44b0]) | skip)
      by_cases c45 : a1_1 < ((rd_T52 l0 (ji11)).f1)
      rotate_left
      ·rw [if_neg c45] at H; have c45b0 := decide_eq_false c45; clear c45
       have H' := mk0 H
       clear H; have hnb52 := NB217_214.out; have hnc52 := NB214_217.out; have hnb53 := NB217_219.out; have hnc53 := NB219_217.out; obtain ⟨_, _, _, _⟩ := be_2 BK217.out; have hnb55 := NB214_219.out; have hnc55 := NB219_214.out; obtain ⟨_, _, _, _⟩ := be_2 BK214.out; obtain ⟨_, _, _, _⟩ := be_2 BK219.out
       go_wp2
       go_meet
       case rel => exact ⟨_, (false), rs0, H', ⟨z9_13⟩, ⟨pkb BK214⟩, ⟨pkb BK217⟩, ⟨pkb BK219⟩, ⟨z9_0⟩⟩
      rw [if_pos c45] at H; have c45b0 := decide_eq_true c45; clear c45
      have H' := mk0 H
      clear H; have hnb46 := NB217_214.out; have hnc46 := NB214_217.out; have hnb47 := NB217_219.out; have hnc47 := NB219_217.out; obtain ⟨_, _, _, _⟩ := be_2 BK217.out; have hnb49 := NB214_219.out; have hnc49 := NB219_214.out; obtain ⟨_, _, _, _⟩ := be_2 BK214.out; obtain ⟨_, _, _, _⟩ := be_2 BK219.out
      go_wp2
      go_meet
      case rel => exact ⟨_, (decide ((wrap64 ((wrap64 ((wrap64 (((rd_T52 l0 (ji11)).f0) - ((rd_T52 l0 x6_1).f0))) * (wrap64 (a1_1 - ((rd_T52 l0 x6_1).f1))))) - (wrap64 ((wrap64 (a1_0 - ((rd_T52 l0 x6_1).f0))) * (wrap64 (((rd_T52 l0 (ji11)).f1) - ((rd_T52 l0 x6_1).f1))))))) > 0)), (by first | rfl | (simp; done) | (simp only [← hji11] <;> (first | rfl | simp)) | (simp [*]; done)), H', ⟨z9_13⟩, ⟨pkb BK214⟩, ⟨pkb BK217⟩, ⟨pkb BK219⟩, ⟨z9_0⟩⟩
     case rest =>
      clear HC37; try clear c1
      (try clear c36); obtain ⟨kq, x77_36, rfl, HA, HJ36, BK214, BK217, BK219, HB⟩ := hcut
      cases kq with
      | zero => exact absurd HA.out (by simp [spec_WindOf.j2])
      | succ kj36 =>
       have H := HA.out; clear HA; simp only [spec_WindOf.j2] at H
       by_cases c63 : x77_36 = true
       ·subst c63; rw [if_pos rfl] at H
        by_cases c64 : ((rd_T52 l0 (ji11)).f1) ≤ a1_1
        rotate_left
        ·rw [if_neg c64] at H; have c64b0 := decide_eq_false c64; clear c64
         have H' := mk0 H
         clear H; have hnb85 := NB219_214.out; have hnc85 := NB214_219.out; have hnb86 := NB219_217.out; have hnc86 := NB217_219.out; obtain ⟨_, _, _, _⟩ := be_2 BK219.out; have hnb88 := NB214_217.out; have hnc88 := NB217_214.out; obtain ⟨_, _, _, _⟩ := be_2 BK214.out
         go_wp2
         go_roundg kj36
         case measure => have := HK1.out; have := HJ13.out; have := HJ36.out; omega
         case rel => exact ⟨(wrap64 (x5_1 + 1)), (wrap64 (x6_1 + 1)), rs0, rs0, H', ⟨z9_6⟩, ⟨pkb BK214⟩, ⟨z9_0⟩⟩
        rw [if_pos c64] at H; have c64b0 := decide_eq_true c64; clear c64
        by_cases c65 : a1_1 < ((rd_T52 l0 x6_1).f1)
        rotate_left
        ·rw [if_neg c65] at H; have c65b0 := decide_eq_false c65; clear c65
         have H' := mk0 H
         clear H; have hnb79 := NB219_214.out; have hnc79 := NB214_219.out; have hnb80 := NB219_217.out; have hnc80 := NB217_219.out; obtain ⟨_, _, _, _⟩ := be_2 BK219.out; have hnb82 := NB214_217.out; have hnc82 := NB217_214.out; obtain ⟨_, _, _, _⟩ := be_2 BK214.out; obtain ⟨_, _, _, _⟩ := be_2 BK217.out
         go_wp2
         go_roundg kj36
         case measure => have := HK1.out; have := HJ13.out; have := HJ36.out; omega
         case rel => exact ⟨(wrap64 (x5_1 + 1)), (wrap64 (x6_1 + 1)), rs0, rs0, H', ⟨z9_6⟩, ⟨pkb BK214⟩, ⟨z9_0⟩⟩
        rw [if_pos c65] at H; have c65b0 := decide_eq_true c65; clear c65
        by_cases c66 : (wrap64 ((wrap64 ((wrap64 (((rd_T52 l0 (ji11)).f0) - ((rd_T52 l0 x6_1).f0))) * (wrap64 (a1_1 - ((rd_T52 l0 x6_1).f1))))) - (wrap64 ((wrap64 (a1_0 - ((rd_T52 l0 x6_1).f0))) * (wrap64 (((rd_T52 l0 (ji11)).f1) - ((rd_T52 l0 x6_1).f1))))))) < 0
        rotate_left
        ·rw [if_neg c66] at H; have c66b0 := decide_eq_false c66; clear c66
         have H' := mk0 H
         clear H; have hnb73 := NB219_214.out; have hnc73 := NB214_219.out; have hnb74 := NB219_217.out; have hnc74 := NB217_219.out; obtain ⟨_, _, _, _⟩ := be_2 BK219.out; have hnb76 := NB214_217.out; have hnc76 := NB217_214.out; obtain ⟨_, _, _, _⟩ := be_2 BK214.out; obtain ⟨_, _, _, _⟩ := be_2 BK217.out
         go_wp2
         go_roundg kj36
         case measure => have := HK1.out; have := HJ13.out; have := HJ36.out; omega
         case rel => exact ⟨(wrap64 (x5_1 + 1)), (wrap64 (x6_1 + 1)), rs0, rs0, H', ⟨z9_6⟩, ⟨pkb BK214⟩, ⟨z9_0⟩⟩
        rw [if_pos c66] at H; have c66b0 := decide_eq_true c66; clear c66
        have H' := mk0 H
        clear H; have hnb67 := NB219_214.out; have hnc67 := NB214_219.out; have hnb68 := NB219_217.out; have hnc68 := NB217_219.out; obtain ⟨_, _, _, _⟩ := be_2 BK219.out; have hnb70 := NB214_217.out; have hnc70 := NB217_214.out; obtain ⟨_, _, _, _⟩ := be_2 BK214.out; obtain ⟨_, _, _, _⟩ := be_2 BK217.out
        go_wp2
        go_roundg kj36
        case measure => have := HK1.out; have := HJ13.out; have := HJ36.out; omega
        case rel => exact ⟨(wrap64 ((wrap64 (x5_1 + 1)) - 1)), (wrap64 (x6_1 + 1)), rs0, rs0, H', ⟨z9_6⟩, ⟨pkb BK214⟩, ⟨z9_0⟩⟩
       replace c63 := Bool.eq_false_iff.mpr c63; subst c63; rw [if_neg (show ¬ (false = true) by decide)] at H
       by_cases c90 : ((rd_T52 l0 (ji11)).f1) ≤ a1_1
       rotate_left
       ·rw [if_neg c90] at H; have c90b0 := decide_eq_false c90; clear c90
        have H' := mk0 H
        clear H; have hnb111 := NB219_214.out; have hnc111 := NB214_219.out; have hnb112 := NB219_217.out; have hnc112 := NB217_219.out; obtain ⟨_, _, _, _⟩ := be_2 BK219.out; have hnb114 := NB214_217.out; have hnc114 := NB217_214.out; obtain ⟨_, _, _, _⟩ := be_2 BK214.out
        go_wp2
        go_roundg kj36
        case measure => have := HK1.out; have := HJ13.out; have := HJ36.out; omega
        case rel => exact ⟨(x5_1), (wrap64 (x6_1 + 1)), rs0, rs0, H', ⟨z9_6⟩, ⟨pkb BK214⟩, ⟨z9_0⟩⟩
       rw [if_pos c90] at H; have c90b0 := decide_eq_true c90; clear c90
       by_cases c91 : a1_1 < ((rd_T52 l0 x6_1).f1)
       rotate_left
       ·rw [if_neg c91] at H; have c91b0 := decide_eq_false c91; clear c91
        have H' := mk0 H
        clear H; have hnb105 := NB219_214.out; have hnc105 := NB214_219.out; have hnb106 := NB219_217.out; have hnc106 := NB217_219.out; obtain ⟨_, _, _, _⟩ := be_2 BK219.out; have hnb108 := NB214_217.out; have hnc108 := NB217_214.out; obtain ⟨_, _, _, _⟩ := be_2 BK214.out; obtain ⟨_, _, _, _⟩ := be_2 BK217.out
        go_wp2
        go_roundg kj36
        case measure => have := HK1.out; have := HJ13.out; have := HJ36.out; omega
        case rel => exact ⟨(x5_1), (wrap64 (x6_1 + 1)), rs0, rs0, H', ⟨z9_6⟩, ⟨pkb BK214⟩, ⟨z9_0⟩⟩
       rw [if_pos c91] at H; have c91b0 := decide_eq_true c91; clear c91
       by_cases c92 : (wrap64 ((wrap64 ((wrap64 (((rd_T52 l0 (ji11)).f0) - ((rd_T52 l0 x6_1).f0))) * (wrap64 (a1_1 - ((rd_T52 l0 x6_1).f1))))) - (wrap64 ((wrap64 (a1_0 - ((rd_T52 l0 x6_1).f0))) * (wrap64 (((rd_T52 l0 (ji11)).f1) - ((rd_T52 l0 x6_1).f1))))))) < 0
       rotate_left
       ·rw [if_neg c92] at H; have c92b0 := decide_eq_false c92; clear c92
        have H' := mk0 H
        clear H; have hnb99 := NB219_214.out; have hnc99 := NB214_219.out; have hnb100 := NB219_217.out; have hnc100 := NB217_219.out; obtain ⟨_, _, _, _⟩ := be_2 BK219.out; have hnb102 := NB214_217.out; have hnc102 := NB217_214.out; obtain ⟨_, _, _, _⟩ := be_2 BK214.out; obtain ⟨_, _, _, _⟩ := be_2 BK217.out
        go_wp2
        go_roundg kj36
        case measure => have := HK1.out; have := HJ13.out; have := HJ36.out; omega
        case rel => exact ⟨(x5_1), (wrap64 (x6_1 + 1)), rs0, rs0, H', ⟨z9_6⟩, ⟨pkb BK214⟩, ⟨z9_0⟩⟩
       rw [if_pos c92] at H; have c92b0 := decide_eq_true c92; clear c92
       have H' := mk0 H
       clear H; have hnb93 := NB219_214.out; have hnc93 := NB214_219.out; have hnb94 := NB219_217.out; have hnc94 := NB217_219.out; obtain ⟨_, _, _, _⟩ := be_2 BK219.out; have hnb96 := NB214_217.out; have hnc96 := NB217_214.out; obtain ⟨_, _, _, _⟩ := be_2 BK214.out; obtain ⟨_, _, _, _⟩ := be_2 BK217.out
       go_wp2
       go_roundg kj36
       case measure => have := HK1.out; have := HJ13.out; have := HJ36.out; omega
       case rel => exact ⟨(wrap64 (x5_1 - 1)), (wrap64 (x6_1 + 1)), rs0, rs0, H', ⟨z9_6⟩, ⟨pkb BK214⟩, ⟨z9_0⟩⟩

end Go.Proofs.Ytghbenapnhcllaa.MFnMasks
