/- Functions of the program as Lean functions, and the proof that a call comes to just these: machine text of this session's own program (myprint.py). -/
import Derived.Test.YtghbenapnhcllaaMFnMasksx0
import Derived.Test.YtghbenapnhcllaaMFnMasksx17
namespace Go.Proofs.Ytghbenapnhcllaa.MFnMasks
open Go.RowKit Go.Proofs.YtghbenapnhcllaaW.PrintWords Go.Proofs.YtghbenapnhcllaaW.PrintLast Go.Proofs.YtghbenapnhcllaaW.PrintMore
attribute [local go_sem] max2_int min2_int max_two min_two max_three min_three max_four min_four   -- for this text's walks alone
set_option linter.unusedVariables false
set_option linter.unusedSimpArgs false

theorem z18_0 {P : Prop} (h : P := by repeat (first | (with_reducible first | exact HB.out | apply below_alloc | apply pw_below_drewN | apply below_drew1 | refine below_set ?_ GE492.out) | exact HB.out)) : P := h
theorem z18_3 {P : Prop} (h : P := by repeat (first | (with_reducible first | exact HB.out | apply below_alloc | apply pw_below_drewN | apply below_drew1 | refine below_set ?_ GE488.out) | exact HB.out)) : P := h
theorem z18_5 {P : Prop} (h : P := by (with_reducible repeat (first | refine blk_drewN ?_ _ | refine blk_drew ?_ | refine blk_alloc ?_ _ | refine blk_far ?_ NB488_489.out _)); exact BK488.out) : P := h
theorem z18_6 {P : Prop} (h : P := by repeat (first | (with_reducible first | exact HB.out | apply below_alloc | apply pw_below_drewN | apply below_drew1 | refine below_set ?_ GE488.out | refine below_set ?_ GE489.out) | exact HB.out)) : P := h
theorem z18_8 {P : Prop} (h : P := by apply blk_fin; (focus ((with_reducible repeat (first | apply blk_putQ | refine blk_drewN ?_ _ | refine blk_drew ?_ | refine blk_alloc ?_ _)); exact BK489.out)); first | (simp only [List.setIfInBounds_toArray, List.set_cons_zero, List.set_cons_succ]; done) | rfl) : P := h
/-! ### spec_l11Bits: function 93 -/
def spec_l11Bits.f (a0_0 : Int) (a0_1 : Int) (a0_2 : Int) (a0_3 : Int) (l0_4 : List Int) (a1 : Int) (a2 : Int) : Option (Int) := (spec_InBox.f a0_0 a0_1 a0_2 a0_3 a1 a2).bind fun t490 => (if t490 = true then (if 0 ≤ (wrap64 ((wrap64 ((wrap64 ((wrap64 (a2 - a0_1)) * (wrap64 (a0_2 - a0_0)))) + a1)) - a0_0)) then (if (wrap64 ((wrap64 ((wrap64 ((wrap64 (a2 - a0_1)) * (wrap64 (a0_2 - a0_0)))) + a1)) - a0_0)) < (l0_4.length : Int) then (some (rd l0_4 (wrap64 ((wrap64 ((wrap64 ((wrap64 (a2 - a0_1)) * (wrap64 (a0_2 - a0_0)))) + a1)) - a0_0)))) else (none)) else (none)) else (some 0))
set_option maxHeartbeats 8000000 in
set_option maxRecDepth 100000 in
theorem spec_l11Bits.calls (a0_0 : Int) (a0_1 : Int) (a0_2 : Int) (a0_3 : Int) (A0_4 : Option Addr) (c0_4 : Nat) (l0_4 : List Int) (a1 : Int) (a2 : Int) (r : Int) (w : World) (hr0_4 : Kd.C (Kd.int .i64) w A0_4 l0_4.length l0_4) (hc0_4 : l0_4.length ≤ c0_4) (h : spec_l11Bits.f a0_0 a0_1 a0_2 a0_3 l0_4 a1 a2 = some r) :
  Calls Try.prog 93 #[.agg #[.int .i64 a0_0, .int .i64 a0_1, .int .i64 a0_2, .int .i64 a0_3, .slice A0_4 l0_4.length c0_4], .int .i64 a1, .int .i64 a2] w fun e w' => e = .returned (.int .i64 r) ∧ Below w.heap.size w w' := by
 have hu65 := Try.underlying65; have hu63 := Try.underlying63; have hu52 := Try.underlying52; have HR0_4 := mk0 hr0_4; have HC0_4 := mk0 hc0_4; clear hr0_4 hc0_4; have HB := mk0 (Below.refl w.heap.size w)
 have H := h; unfold spec_l11Bits.f at H
 clear h; obtain ⟨t490, A4, H⟩ := bnd H
 try dsimp only at H
 by_cases c5 : t490 = true
 rotate_left
 ·replace c5 := Bool.eq_false_iff.mpr c5; subst c5; rw [if_neg (show ¬ (false = true) by decide)] at H
  obtain rfl := Option.some.inj H
  simp only [Option.some.injEq, Prod.mk.injEq] at H; obtain ⟨rfl⟩ := H
  go_enter Try.func93, Try.ntmps93
  go_wp2_with (first | ((with_reducible refine gate_dst (N := 3) rfl ?_); refine boxz (cs := #[.int .i64 a0_0, .int .i64 a0_1, .int .i64 a0_2, .int .i64 a0_3, .slice A0_4 l0_4.length c0_4]) (t := 65) rfl ?_; intro gb488 hg w17 hbox hb; have GW488 := mk0 (ge_go (a := w.heap.size) hg (below_size q_149)); have GE488 := GW488; replace HB := bS q_149 hb; have BK488 := mk0 (hbox); clear hb hbox hg; obtain ⟨_, _, _, _, _, _, _, _, _, _⟩ := be_5 BK488.out) | ((with_reducible refine gate_dst (N := 7) rfl ?_); refine boxz (cs := #[.int .i64 0, .int .i64 0, .int .i64 0, .int .i64 0]) (t := 63) rfl ?_; intro gb489 hg w19 hbox hb; have GW489 := mk0 (ge_go (a := w.heap.size) hg (below_size z18_3)); have GE489 := GW489; have NB488_489 := mk0 (nb_lt hg (blk_ltB BK488 (pkb BK488))); have NB489_488 := mk0 (nb_gt hg (blk_ltB BK488 (pkb BK488))); replace BK488 := bB BK488 hb; replace HB := bS z18_3 hb; have BK489 := mk0 (hbox); clear hb hbox hg; have hnb20 := NB489_488.out; have hnc20 := NB488_489.out; obtain ⟨_, _, _, _, _, _, _, _⟩ := be_4 BK489.out) | ((with_reducible refine gate_callee (f := 135) rfl ?_); refine gl_ (some 14) Try.func135 #[.agg #[.int .i64 a0_0, .int .i64 a0_1, .int .i64 a0_2, .int .i64 a0_3], .agg #[.int .i64 a1, .int .i64 a2]] rfl q_0 ?_; (with_reducible refine (spec_InBox.calls a0_0 a0_1 a0_2 a0_3 a1 a2 false _ A4.out).mono ?_); rintro e w22 ⟨rfl, hb⟩; refine ⟨_, rfl, ?_⟩; replace BK488 := mk0 (blk_belowB BK488 z18_5 hb); replace BK489 := mk0 (blk_below (g := gb489) (o := .cells #[.int .i64 a0_0, .int .i64 a0_1, .int .i64 a0_2, .int .i64 a0_3] 63 (0, 0)) z18_8 hb); replace HB := bS z18_6 hb; clear hb))
  go_ret
  exact ⟨q_71, z18_6⟩
 subst c5; rw [if_pos rfl] at H
 obtain ⟨ji6, hji6⟩ : ∃ j_ : Int, (wrap64 ((wrap64 ((wrap64 ((wrap64 (a2 - a0_1)) * (wrap64 (a0_2 - a0_0)))) + a1)) - a0_0)) = j_ := ⟨_, rfl⟩
 replace H : (if 0 ≤ (ji6) then (if (ji6) < (l0_4.length : Int) then (some (rd l0_4 (ji6))) else (none)) else (none)) = some r := by first | (rw [hji6] at H; exact H) | (simp only [hji6] at H ⊢; exact H)
 (try rw [hji6] at A4)
 have hji6w : (IntKind.i64.wrap ((wrap64 ((wrap64 ((wrap64 (a2 - a0_1)) * (wrap64 (a0_2 - a0_0)))) + a1)) - a0_0)) = ji6 := (i64_w _).trans hji6
 by_cases c7 : 0 ≤ (ji6)
 rotate_left
 ·rw [if_neg c7] at H
  exact absurd H (by simp)
 rw [if_pos c7] at H; have c7b0 := decide_eq_true c7; clear c7
 by_cases c8 : (ji6) < (l0_4.length : Int)
 rotate_left
 ·rw [if_neg c8] at H
  exact absurd H (by simp)
 rw [if_pos c8] at H; have c8b0 := decide_eq_true c8; clear c8
 obtain rfl := Option.some.inj H
 simp only [Option.some.injEq, Prod.mk.injEq] at H; obtain ⟨rfl⟩ := H
 go_enter Try.func93, Try.ntmps93
 go_wp2_with (first | ((with_reducible refine gate_dst (N := 3) rfl ?_); refine boxz (cs := #[.int .i64 a0_0, .int .i64 a0_1, .int .i64 a0_2, .int .i64 a0_3, .slice A0_4 l0_4.length c0_4]) (t := 65) rfl ?_; intro gb488 hg w9 hbox hb; have GW488 := mk0 (ge_go (a := w.heap.size) hg (below_size q_149)); have GE488 := GW488; replace HB := bS q_149 hb; have BK488 := mk0 (hbox); clear hb hbox hg; obtain ⟨_, _, _, _, _, _, _, _, _, _⟩ := be_5 BK488.out) | ((with_reducible refine gate_dst (N := 7) rfl ?_); refine boxz (cs := #[.int .i64 0, .int .i64 0, .int .i64 0, .int .i64 0]) (t := 63) rfl ?_; intro gb489 hg w11 hbox hb; have GW489 := mk0 (ge_go (a := w.heap.size) hg (below_size z18_3)); have GE489 := GW489; have NB488_489 := mk0 (nb_lt hg (blk_ltB BK488 (pkb BK488))); have NB489_488 := mk0 (nb_gt hg (blk_ltB BK488 (pkb BK488))); replace BK488 := bB BK488 hb; replace HB := bS z18_3 hb; have BK489 := mk0 (hbox); clear hb hbox hg; have hnb12 := NB489_488.out; have hnc12 := NB488_489.out; obtain ⟨_, _, _, _, _, _, _, _⟩ := be_4 BK489.out) | ((with_reducible refine gate_callee (f := 135) rfl ?_); refine gl_ (some 14) Try.func135 #[.agg #[.int .i64 a0_0, .int .i64 a0_1, .int .i64 a0_2, .int .i64 a0_3], .agg #[.int .i64 a1, .int .i64 a2]] rfl q_0 ?_; (with_reducible refine (spec_InBox.calls a0_0 a0_1 a0_2 a0_3 a1 a2 true _ A4.out).mono ?_); rintro e w14 ⟨rfl, hb⟩; refine ⟨_, rfl, ?_⟩; replace BK488 := mk0 (blk_belowB BK488 z18_5 hb); replace BK489 := mk0 (blk_below (g := gb489) (o := .cells #[.int .i64 a0_0, .int .i64 a0_1, .int .i64 a0_2, .int .i64 a0_3] 63 (0, 0)) z18_8 hb); replace HB := bS z18_6 hb; clear hb; obtain ⟨_, _, _, _, _, _, _, _, _, _⟩ := be_5 BK488.out; obtain ⟨_, _, _, _, _, _, _, _⟩ := be_4 BK489.out; have p491 : 0 ≤ ((ji6) : Int) := of_decide_eq_true (by first | (with_reducible assumption) | assumption); have q491 : (ji6) < (l0_4.length : Int) := of_decide_eq_true (by first | (with_reducible assumption) | assumption); obtain ⟨ad491, e491, hx491_0⟩ := Kd.at_int HR0_4.out (ji6) p491 q491; cases e491; replace hx491_0 := cell_go HB hx491_0; replace p491 := eq_true p491; replace q491 := eq_true q491))
 go_ret
 exact ⟨(by first | rfl | (simp [errW_none, errW_some] <;> rfl) | (simp only [← hji6]; first | rfl | (simp [errW_none, errW_some] <;> rfl)) | (simp [*, errW_none, errW_some] <;> rfl)), z18_6⟩

/-! ### spec_RunsOf: function 112 -/
mutual
def spec_RunsOf.l0 : Nat → List (S95) → Int → Int → Int → Int → Int → List Int → Option ((List (S95)))
 | 0, _, _, _, _, _, _, _ => none
 | k + 1, x3, x4, x493000, x493001, x493002, x493003, x493004 => if x4 < x493003 then (spec_RunsOf.l1 k x3 x4 x493000 x493000 x493001 x493002 x493003 x493004) else (some x3)
def spec_RunsOf.l1 : Nat → List (S95) → Int → Int → Int → Int → Int → Int → List Int → Option ((List (S95)))
 | 0, _, _, _, _, _, _, _, _ => none
 | k + 1, x3, x4, x5, x493000, x493001, x493002, x493003, x493004 => if x5 < x493002 then ((spec_l11Bits.f x493000 x493001 x493002 x493003 x493004 x5 x4).bind fun t497 => (if t497 = 0 then (spec_RunsOf.l1 k x3 x4 (wrap64 (x5 + 1)) x493000 x493001 x493002 x493003 x493004) else (spec_RunsOf.l2 k x3 x4 x5 t497 (wrap64 (x5 + 1)) x493000 x493001 x493002 x493003 x493004))) else (spec_RunsOf.l0 k x3 (wrap64 (x4 + 1)) x493000 x493001 x493002 x493003 x493004)
def spec_RunsOf.l2 : Nat → List (S95) → Int → Int → Int → Int → Int → Int → Int → Int → List Int → Option ((List (S95)))
 | 0, _, _, _, _, _, _, _, _, _, _ => none
 | k + 1, x3, x4, x5, x6, x7, x493000, x493001, x493002, x493003, x493004 => if x7 < x493002 then ((spec_l11Bits.f x493000 x493001 x493002 x493003 x493004 x7 x4).bind fun t498 => (if t498 = x6 then (spec_RunsOf.l2 k x3 x4 x5 x6 (wrap64 (x7 + 1)) x493000 x493001 x493002 x493003 x493004) else (if x3.length < 4398046511104 then (spec_RunsOf.l1 k (x3 ++ [(⟨x4, x5, x7, x6⟩ : S95)]) x4 (wrap64 ((wrap64 (x7 - 1)) + 1)) x493000 x493001 x493002 x493003 x493004) else (none)))) else (if x3.length < 4398046511104 then (spec_RunsOf.l1 k (x3 ++ [(⟨x4, x5, x7, x6⟩ : S95)]) x4 (wrap64 ((wrap64 (x7 - 1)) + 1)) x493000 x493001 x493002 x493003 x493004) else (none))
end
def spec_RunsOf.f (k : Nat) (a0_0 : Int) (a0_1 : Int) (a0_2 : Int) (a0_3 : Int) (l0_4 : List Int) : Option ((List (S95))) := (some (([] : List (S95)) : List (S95))).bind fun y493 => ((spec_MaskOk.f k a0_0 a0_1 a0_2 a0_3 l0_4).bind fun t496 => (if t496 = true then (spec_RunsOf.l0 k y493 a0_1 a0_0 a0_1 a0_2 a0_3 l0_4) else (some y493)))
theorem spec_RunsOf.mono_l : ∀ k, (∀ y0 y1 y2 y3 y4 y5 y6, LeO (spec_RunsOf.l0 k y0 y1 y2 y3 y4 y5 y6) (spec_RunsOf.l0 (k + 1) y0 y1 y2 y3 y4 y5 y6)) ∧ (∀ y0 y1 y2 y3 y4 y5 y6 y7, LeO (spec_RunsOf.l1 k y0 y1 y2 y3 y4 y5 y6 y7) (spec_RunsOf.l1 (k + 1) y0 y1 y2 y3 y4 y5 y6 y7)) ∧ (∀ y0 y1 y2 y3 y4 y5 y6 y7 y8 y9, LeO (spec_RunsOf.l2 k y0 y1 y2 y3 y4 y5 y6 y7 y8 y9) (spec_RunsOf.l2 (k + 1) y0 y1 y2 y3 y4 y5 y6 y7 y8 y9))
 | 0 => ⟨fun _ _ _ _ _ _ _ r h => by simp [spec_RunsOf.l0] at h, fun _ _ _ _ _ _ _ _ r h => by simp [spec_RunsOf.l1] at h, fun _ _ _ _ _ _ _ _ _ _ r h => by simp [spec_RunsOf.l2] at h⟩
 | k + 1 => by
  obtain ⟨ih0, ih1, ih2⟩ := spec_RunsOf.mono_l k
  refine ⟨?_, ?_, ?_⟩
  ·intro y0 y1 y2 y3 y4 y5 y6
   unfold spec_RunsOf.l0
   with_reducible repeat' first | apply ih0 | apply ih1 | apply ih2 | apply spec_MaskOk.mono | exact LeO.refl _ | exact LeO.none _ | refine LeO.ite ?_ ?_ | refine LeO.bind ?_ (fun _ => ?_)
  ·intro y0 y1 y2 y3 y4 y5 y6 y7
   unfold spec_RunsOf.l1
   with_reducible repeat' first | apply ih0 | apply ih1 | apply ih2 | apply spec_MaskOk.mono | exact LeO.refl _ | exact LeO.none _ | refine LeO.ite ?_ ?_ | refine LeO.bind ?_ (fun _ => ?_)
  ·intro y0 y1 y2 y3 y4 y5 y6 y7 y8 y9
   unfold spec_RunsOf.l2
   with_reducible repeat' first | apply ih0 | apply ih1 | apply ih2 | apply spec_MaskOk.mono | exact LeO.refl _ | exact LeO.none _ | refine LeO.ite ?_ ?_ | refine LeO.bind ?_ (fun _ => ?_)
theorem spec_RunsOf.mono : ∀ a0 a1 a2 a3 a4 k, LeO (spec_RunsOf.f k a0 a1 a2 a3 a4) (spec_RunsOf.f (k + 1) a0 a1 a2 a3 a4) := by
 intro a0 a1 a2 a3 a4 k; obtain ⟨ih0, ih1, ih2⟩ := spec_RunsOf.mono_l k
 unfold spec_RunsOf.f
 with_reducible repeat' first | apply ih0 | apply ih1 | apply ih2 | apply spec_MaskOk.mono | exact LeO.refl _ | exact LeO.none _ | refine LeO.ite ?_ ?_ | refine LeO.bind ?_ (fun _ => ?_)
set_option maxHeartbeats 8000000 in
set_option maxRecDepth 100000 in
theorem spec_RunsOf.calls (k : Nat) (a0_0 : Int) (a0_1 : Int) (a0_2 : Int) (a0_3 : Int) (A0_4 : Option Addr) (c0_4 : Nat) (l0_4 : List Int) (r : List (S95)) (w : World) (hr0_4 : Kd.C (Kd.int .i64) w A0_4 l0_4.length l0_4) (hc0_4 : l0_4.length ≤ c0_4) (h : spec_RunsOf.f k a0_0 a0_1 a0_2 a0_3 l0_4 = some r) :
  Calls Try.prog 112 #[.agg #[.int .i64 a0_0, .int .i64 a0_1, .int .i64 a0_2, .int .i64 a0_3, .slice A0_4 l0_4.length c0_4]] w fun e w' => ∃ v0_ : Value, e = .returned (v0_) ∧ Kd.R k95 95 w' w.heap.size (fun _ => True) v0_ r ∧ Below w.heap.size w w' := by
 have hu65 := Try.underlying65; have hu95 := Try.underlying95; have HR0_4 := mk0 hr0_4; have HC0_4 := mk0 hc0_4; clear hr0_4 hc0_4; have HB := mk0 (Below.refl w.heap.size w)
 have H := h; unfold spec_RunsOf.f at H
 clear h
 obtain ⟨y493, hy_⟩ : ∃ y_ : List (S95), y_ = (([] : List (S95))) := ⟨_, rfl⟩
 replace H : ((spec_MaskOk.f k a0_0 a0_1 a0_2 a0_3 l0_4).bind fun t496 => (if t496 = true then (spec_RunsOf.l0 k y493 a0_1 a0_0 a0_1 a0_2 a0_3 l0_4) else (some y493))) = some r := q_69
 have Ny493 := mk0 hy_; clear hy_; obtain ⟨t496, A2, H⟩ := bnd H
 try dsimp only at H
 by_cases c3 : t496 = true
 rotate_left
 ·replace c3 := Bool.eq_false_iff.mpr c3; subst c3; rw [if_neg (show ¬ (false = true) by decide)] at H
  obtain rfl := Option.some.inj H
  simp only [Option.some.injEq, Prod.mk.injEq] at H; obtain ⟨rfl⟩ := H
  go_enter Try.func112, Try.ntmps112
  go_wp2_with (first | ((with_reducible refine gate_dst (N := 1) rfl ?_); refine boxz (cs := #[.int .i64 a0_0, .int .i64 a0_1, .int .i64 a0_2, .int .i64 a0_3, .slice A0_4 l0_4.length c0_4]) (t := 65) rfl ?_; intro gb492 hg w33 hbox hb; have GW492 := mk0 (ge_go (a := w.heap.size) hg (below_size q_149)); have GE492 := GW492; replace HB := bS q_149 hb; have BK492 := mk0 (hbox); clear hb hbox hg) | ((with_reducible refine gate_dst (N := 8) rfl ?_); refine Kd.R_lit k95 _ 95 ?hg (N := 8) ?hd (xs := ([] : List (S95))) (inner := []) (ok := fun _ => True) (okp := fun _ => True) ?hr ?hp (fun _ hk => hk) trivial (Below.refl _ _) (Nat.le_refl _) (by simp) ?_; (case hd => rfl); (case hg => rfl); (case hr => first | (go_simp; done) | (go_simp; rfl)); (case hp => exact (Reps.none _ _)); intro v494 w34 ho35 hb hg_ hnew_; clear hg_ hnew_; (first | rw [← Ny493.out] at ho35 | (simp only [Int.reduceToNat] at ho35; rw [← Ny493.out] at ho35)); have HO495 := mk0 (Kd.R_lower ho35 (below_size z18_0)); replace BK492 := bB BK492 hb; replace HB := bS z18_0 hb; clear hb ho35; obtain ⟨_, _, _, _, _, _, _, _, _, _⟩ := be_5 BK492.out) | ((with_reducible refine gate_callee (f := 90) rfl ?_); refine gl_ (some 10) Try.func90 #[.agg #[.int .i64 a0_0, .int .i64 a0_1, .int .i64 a0_2, .int .i64 a0_3, .slice A0_4 l0_4.length c0_4]] rfl q_0 ?_; (with_reducible refine (spec_MaskOk.calls k a0_0 a0_1 a0_2 a0_3 _ _ l0_4 false _ ?side1 ?side2 A2.out).mono ?_); (case side1 => exact q_174); (case side2 => exact HC0_4.out); rintro e w37 ⟨rfl, hb⟩; refine ⟨_, rfl, ?_⟩; replace HO495 := bR HO495 hb; replace BK492 := bB BK492 hb; replace HB := bS z18_0 hb; clear hb; (try clear hk)))
  go_ret
  exact ⟨_, q_71, (pkR HO495), z18_0⟩
 subst c3; rw [if_pos rfl] at H
 have H' := mk0 H
 clear H; go_enter Try.func112, Try.ntmps112
 go_wp2_with (first | ((with_reducible refine gate_dst (N := 1) rfl ?_); refine boxz (cs := #[.int .i64 a0_0, .int .i64 a0_1, .int .i64 a0_2, .int .i64 a0_3, .slice A0_4 l0_4.length c0_4]) (t := 65) rfl ?_; intro gb492 hg w4 hbox hb; have GW492 := mk0 (ge_go (a := w.heap.size) hg (below_size q_149)); have GE492 := GW492; replace HB := bS q_149 hb; have BK492 := mk0 (hbox); clear hb hbox hg) | ((with_reducible refine gate_dst (N := 8) rfl ?_); refine Kd.R_lit k95 _ 95 ?hg (N := 8) ?hd (xs := ([] : List (S95))) (inner := []) (ok := fun _ => True) (okp := fun _ => True) ?hr ?hp (fun _ hk => hk) trivial (Below.refl _ _) (Nat.le_refl _) (by simp) ?_; (case hd => rfl); (case hg => rfl); (case hr => first | (go_simp; done) | (go_simp; rfl)); (case hp => exact (Reps.none _ _)); intro v494 w5 ho6 hb hg_ hnew_; clear hg_ hnew_; (first | rw [← Ny493.out] at ho6 | (simp only [Int.reduceToNat] at ho6; rw [← Ny493.out] at ho6)); have HO495 := mk0 (Kd.R_lower ho6 (below_size z18_0)); replace BK492 := bB BK492 hb; replace HB := bS z18_0 hb; clear hb ho6; obtain ⟨_, _, _, _, _, _, _, _, _, _⟩ := be_5 BK492.out) | ((with_reducible refine gate_callee (f := 90) rfl ?_); refine gl_ (some 10) Try.func90 #[.agg #[.int .i64 a0_0, .int .i64 a0_1, .int .i64 a0_2, .int .i64 a0_3, .slice A0_4 l0_4.length c0_4]] rfl q_0 ?_; (with_reducible refine (spec_MaskOk.calls k a0_0 a0_1 a0_2 a0_3 _ _ l0_4 true _ ?side1 ?side2 A2.out).mono ?_); (case side1 => exact q_174); (case side2 => exact HC0_4.out); rintro e w8 ⟨rfl, hb⟩; refine ⟨_, rfl, ?_⟩; replace HO495 := bR HO495 hb; replace BK492 := bB BK492 hb; replace HB := bS z18_0 hb; clear hb; (try clear hk); obtain ⟨_, _, _, _, _, _, _, _, _, _⟩ := be_5 BK492.out))
 go_loopg [3, 4] k (fun kq v3 v4 w' => ∃ (x3_1 : List (S95)) (x4_1 : Int), v4 = .int .i64 x4_1 ∧ Aside0 (spec_RunsOf.l0 kq x3_1 x4_1 a0_0 a0_1 a0_2 a0_3 l0_4 = some r) ∧ Aside0 (kq ≤ k) ∧ Aside0 (Kd.R k95 95 w' w.heap.size (fun _ => True) v3 x3_1) ∧ Aside0 (w'.heap[gb492]? = some (.cells #[.int .i64 a0_0, .int .i64 a0_1, .int .i64 a0_2, .int .i64 a0_3, (.slice A0_4 l0_4.length c0_4)] 65 (0, 0))) ∧ Aside0 (Below w.heap.size w w'))
 case atStart => exact ⟨(y493), (a0_1), rs0, H', ⟨Nat.le_refl _⟩, ⟨pkR HO495⟩, ⟨pkb BK492⟩, ⟨z18_0⟩⟩
 case round =>
  clear H'
  try clear c3
  obtain ⟨x3_1, x4_1, rfl, HA, HK1, HO_3, BK492, HB⟩ := hrel
  cases gk with
  | zero => exact absurd HA.out (by simp [spec_RunsOf.l0])
  | succ k1 =>
   have H := HA.out; clear HA; simp only [spec_RunsOf.l0] at H
   by_cases c10 : x4_1 < a0_3
   rotate_left
   ·rw [if_neg c10] at H; have c10b0 := decide_eq_false c10; clear c10
    obtain rfl := Option.some.inj H
    simp only [Option.some.injEq, Prod.mk.injEq] at H; obtain ⟨rfl⟩ := H
    obtain ⟨_, _, _, _, _, _, _, _, _, _⟩ := be_5 BK492.out
    go_wp2
    go_ret
    exact ⟨_, q_71, (pkR HO_3), z18_0⟩
   rw [if_pos c10] at H; have c10b0 := decide_eq_true c10; clear c10
   have H' := mk0 H
   clear H; obtain ⟨_, _, _, _, _, _, _, _, _, _⟩ := be_5 BK492.out
   go_wp2
   go_loopg [3, 5] k1 (fun kq v3 v5 w' => ∃ (x3_2 : List (S95)) (x5_2 : Int), v5 = .int .i64 x5_2 ∧ Aside0 (spec_RunsOf.l1 kq x3_2 x4_1 x5_2 a0_0 a0_1 a0_2 a0_3 l0_4 = some r) ∧ Aside0 (kq ≤ k1) ∧ Aside0 (Kd.R k95 95 w' w.heap.size (fun _ => True) v3 x3_2) ∧ Aside0 (w'.heap[gb492]? = some (.cells #[.int .i64 a0_0, .int .i64 a0_1, .int .i64 a0_2, .int .i64 a0_3, (.slice A0_4 l0_4.length c0_4)] 65 (0, 0))) ∧ Aside0 (Below w.heap.size w w'))
   case atStart => exact ⟨(x3_1), (a0_0), rs0, H', ⟨Nat.le_refl _⟩, ⟨pkR HO_3⟩, ⟨pkb BK492⟩, ⟨z18_0⟩⟩
   case round =>
    clear H'; (try clear c10b0); obtain ⟨x3_2, x5_2, rfl, HA, HK2, HO_3, BK492, HB⟩ := hrel
    cases gk with
    | zero => exact absurd HA.out (by simp [spec_RunsOf.l1])
    | succ k2 =>
     have H := HA.out; clear HA; simp only [spec_RunsOf.l1] at H
     by_cases c12 : x5_2 < a0_2
     rotate_left
     ·rw [if_neg c12] at H; have c12b0 := decide_eq_false c12; clear c12
      have H' := mk0 H
      clear H; obtain ⟨_, _, _, _, _, _, _, _, _, _⟩ := be_5 BK492.out
      go_wp2
      go_roundg k2
      case measure => have := HK1.out; have := HK2.out; omega
      case rel => exact ⟨(x3_2), (wrap64 (x4_1 + 1)), rs0, H', ⟨(by have := HK1.out; have := HK2.out; omega)⟩, ⟨pkR HO_3⟩, ⟨pkb BK492⟩, ⟨z18_0⟩⟩
     rw [if_pos c12] at H; have c12b0 := decide_eq_true c12; clear c12; obtain ⟨t497, A13, H⟩ := bnd H
     try dsimp only at H
     by_cases c14 : t497 = 0
     ·rw [if_pos c14] at H
      have c14b0 : (t497 == 0) = true := beq_iff_eq.mpr c14
      have c14b1 : (t497 != 0) = false := bne_eq_false_iff_eq.mpr c14
      clear c14
      have H' := mk0 H
      clear H; obtain ⟨_, _, _, _, _, _, _, _, _, _⟩ := be_5 BK492.out
      go_wp2_with (first | ((with_reducible refine gate_callee (f := 93) rfl ?_); refine gl_ (some 36) Try.func93 #[.agg #[.int .i64 a0_0, .int .i64 a0_1, .int .i64 a0_2, .int .i64 a0_3, .slice A0_4 l0_4.length c0_4], .int .i64 x5_2, .int .i64 x4_1] rfl q_0 ?_; (with_reducible refine (spec_l11Bits.calls a0_0 a0_1 a0_2 a0_3 _ _ l0_4 x5_2 x4_1 t497 _ ?side1 ?side2 A13.out).mono ?_); (case side1 => exact q_174); (case side2 => exact HC0_4.out); rintro e w16 ⟨rfl, hb⟩; refine ⟨_, rfl, ?_⟩; replace HO_3 := bR HO_3 hb; replace BK492 := bB BK492 hb; replace HB := bS z18_0 hb; clear hb))
      go_roundg k2
      case measure => have := HK1.out; have := HK2.out; omega
      case rel => exact ⟨(x3_2), (wrap64 (x5_2 + 1)), rs0, H', ⟨(by have := HK1.out; have := HK2.out; omega)⟩, ⟨pkR HO_3⟩, ⟨pkb BK492⟩, ⟨z18_0⟩⟩
     rw [if_neg c14] at H
     have c14b0 : (t497 == 0) = false := beq_eq_false_iff_ne.mpr c14
     have c14b1 : (t497 != 0) = true := bne_iff_ne.mpr c14
     have H' := mk0 H
     clear H; obtain ⟨_, _, _, _, _, _, _, _, _, _⟩ := be_5 BK492.out
     go_wp2_with (first | ((with_reducible refine gate_callee (f := 93) rfl ?_); refine gl_ (some 36) Try.func93 #[.agg #[.int .i64 a0_0, .int .i64 a0_1, .int .i64 a0_2, .int .i64 a0_3, .slice A0_4 l0_4.length c0_4], .int .i64 x5_2, .int .i64 x4_1] rfl q_0 ?_; (with_reducible refine (spec_l11Bits.calls a0_0 a0_1 a0_2 a0_3 _ _ l0_4 x5_2 x4_1 t497 _ ?side1 ?side2 A13.out).mono ?_); (case side1 => exact q_174); (case side2 => exact HC0_4.out); rintro e w18 ⟨rfl, hb⟩; refine ⟨_, rfl, ?_⟩; replace HO_3 := bR HO_3 hb; replace BK492 := bB BK492 hb; replace HB := bS z18_0 hb; clear hb))
     go_loopg [7] k2 (fun kq v7 w' => ∃ (x7_3 : Int), v7 = .int .i64 x7_3 ∧ Aside0 (spec_RunsOf.l2 kq x3_2 x4_1 x5_2 t497 x7_3 a0_0 a0_1 a0_2 a0_3 l0_4 = some r) ∧ Aside0 (kq ≤ k2) ∧ Aside0 (Kd.R k95 95 w' w.heap.size (fun _ => True) u3 x3_2) ∧ Aside0 (w'.heap[gb492]? = some (.cells #[.int .i64 a0_0, .int .i64 a0_1, .int .i64 a0_2, .int .i64 a0_3, (.slice A0_4 l0_4.length c0_4)] 65 (0, 0))) ∧ Aside0 (Below w.heap.size w w'))
     case atStart => exact ⟨(wrap64 (x5_2 + 1)), rs0, H', ⟨Nat.le_refl _⟩, ⟨pkR HO_3⟩, ⟨pkb BK492⟩, ⟨z18_0⟩⟩
     case round =>
      clear H'; (try clear c12b0); (try clear c14); (try clear c14b0); (try clear c14b1); obtain ⟨x7_3, rfl, HA, HK3, HO_3, BK492, HB⟩ := hrel
      cases gk with
      | zero => exact absurd HA.out (by simp [spec_RunsOf.l2])
      | succ k3 =>
       have H := HA.out; clear HA; simp only [spec_RunsOf.l2] at H
       by_cases c19 : x7_3 < a0_2
       rotate_left
       ·rw [if_neg c19] at H; have c19b0 := decide_eq_false c19; clear c19
        by_cases c28 : x3_2.length < 4398046511104
        rotate_left
        ·rw [if_neg c28] at H
         exact absurd H (by simp)
        rw [if_pos c28] at H; have LMc28 := mk0 c28; clear c28
        obtain ⟨y502, hy_⟩ : ∃ y_ : List (S95), y_ = (x3_2 ++ [(⟨x4_1, x5_2, x7_3, t497⟩ : S95)]) := ⟨_, rfl⟩
        replace H : (spec_RunsOf.l1 k3 y502 x4_1 (wrap64 ((wrap64 (x7_3 - 1)) + 1)) a0_0 a0_1 a0_2 a0_3 l0_4) = some r := q_69
        have Ny502 := mk0 hy_; clear hy_
        have H' := mk0 H
        clear H; obtain ⟨_, _, _, _, _, _, _, _, _, _⟩ := be_5 BK492.out
        go_wp2_with (first | ((with_reducible refine gate_builtin (b := .append) (xs := #[.tmp 56, .tmp 62]) rfl ?_); at_builtin; refine Kd.R_append k95 (w0 := w) w.heap.size rfl (.tmp 56) (.tmp 62) 90 95 (.agg #[(.int .i64 0), (.int .i64 0), (.int .i64 0), (.int .i64 0)]) 32 rfl Try.underlying90 info95 rfl (by decide) (by omega) u3 x3_2 (⟨x4_1, x5_2, x7_3, t497⟩ : S95) [.int .i64 x4_1, .int .i64 x5_2, .int .i64 x7_3, .int .i64 t497] (fun _ => True) (fun _ => False) rfl rfl ?aP (fun _ hk => hk.elim) ?aF ?aO ?aB ?aS ?aL ?_; (case aP => exact k95_mkM _ _ _ (⟨x4_1, x5_2, x7_3, t497⟩ : S95)); (case aB => exact z18_0); (case aF => exact (fun _ _ => trivial)); (case aO => exact (pkR HO_3)); (case aS => exact (below_size z18_0)); (case aL => have := LMc28.out; omega); intro v503 w30 ho hb hg hat; rw [← Ny502.out] at ho; replace BK492 := mk0 (blk_grown (g := gb492) (o := .cells #[.int .i64 a0_0, .int .i64 a0_1, .int .i64 a0_2, .int .i64 a0_3, .slice A0_4 l0_4.length c0_4] 65 (0, 0)) (pkb BK492) hg (Kd.R_ne HO_3.out BK492.out (by decide))); replace HB := mk0 (hb); have HO504 := mk0 (ho); clear HO_3 ho hb hg hat))
        go_roundg k3
        case measure => have := HK1.out; have := HK2.out; have := HK3.out; omega
        case rel => exact ⟨(y502), (wrap64 ((wrap64 (x7_3 - 1)) + 1)), rs0, H', ⟨(by have := HK1.out; have := HK2.out; have := HK3.out; omega)⟩, ⟨pkR HO504⟩, ⟨pkb BK492⟩, ⟨z18_0⟩⟩
       rw [if_pos c19] at H; have c19b0 := decide_eq_true c19; clear c19; obtain ⟨t498, A20, H⟩ := bnd H
       try dsimp only at H
       by_cases c21 : t498 = t497
       ·rw [if_pos c21] at H
        have c21b0 : (t498 == t497) = true := beq_iff_eq.mpr c21
        have c21b1 : (t498 != t497) = false := bne_eq_false_iff_eq.mpr c21
        clear c21
        have H' := mk0 H
        clear H; obtain ⟨_, _, _, _, _, _, _, _, _, _⟩ := be_5 BK492.out
        go_wp2_with (first | (go_at_call 93; (with_reducible refine (spec_l11Bits.calls a0_0 a0_1 a0_2 a0_3 _ _ l0_4 x7_3 x4_1 t498 _ ?side1 ?side2 A20.out).mono ?_); (case side1 => exact q_174); (case side2 => exact HC0_4.out); rintro e w23 ⟨rfl, hb⟩; replace HO_3 := bR HO_3 hb; replace BK492 := bB BK492 hb; replace HB := bS z18_0 hb; clear hb))
        go_roundg k3
        case measure => have := HK1.out; have := HK2.out; have := HK3.out; omega
        case rel => exact ⟨(wrap64 (x7_3 + 1)), rs0, H', ⟨(by have := HK1.out; have := HK2.out; have := HK3.out; omega)⟩, ⟨pkR HO_3⟩, ⟨pkb BK492⟩, ⟨z18_0⟩⟩
       rw [if_neg c21] at H
       have c21b0 : (t498 == t497) = false := beq_eq_false_iff_ne.mpr c21
       have c21b1 : (t498 != t497) = true := bne_iff_ne.mpr c21
       by_cases c24 : x3_2.length < 4398046511104
       rotate_left
       ·rw [if_neg c24] at H
        exact absurd H (by simp)
       rw [if_pos c24] at H; have LMc24 := mk0 c24; clear c24
       obtain ⟨y499, hy_⟩ : ∃ y_ : List (S95), y_ = (x3_2 ++ [(⟨x4_1, x5_2, x7_3, t497⟩ : S95)]) := ⟨_, rfl⟩
       replace H : (spec_RunsOf.l1 k3 y499 x4_1 (wrap64 ((wrap64 (x7_3 - 1)) + 1)) a0_0 a0_1 a0_2 a0_3 l0_4) = some r := q_69
       have Ny499 := mk0 hy_; clear hy_
       have H' := mk0 H
       clear H; obtain ⟨_, _, _, _, _, _, _, _, _, _⟩ := be_5 BK492.out
       go_wp2_with (first | (go_at_call 93; (with_reducible refine (spec_l11Bits.calls a0_0 a0_1 a0_2 a0_3 _ _ l0_4 x7_3 x4_1 t498 _ ?side1 ?side2 A20.out).mono ?_); (case side1 => exact q_174); (case side2 => exact HC0_4.out); rintro e w26 ⟨rfl, hb⟩; replace HO_3 := bR HO_3 hb; replace BK492 := bB BK492 hb; replace HB := bS z18_0 hb; clear hb; (try clear hk)) | ((with_reducible refine gate_builtin (b := .append) (xs := #[.tmp 56, .tmp 62]) rfl ?_); at_builtin; refine Kd.R_append k95 (w0 := w) w.heap.size rfl (.tmp 56) (.tmp 62) 90 95 (.agg #[(.int .i64 0), (.int .i64 0), (.int .i64 0), (.int .i64 0)]) 32 rfl Try.underlying90 info95 rfl (by decide) (by omega) u3 x3_2 (⟨x4_1, x5_2, x7_3, t497⟩ : S95) [.int .i64 x4_1, .int .i64 x5_2, .int .i64 x7_3, .int .i64 t497] (fun _ => True) (fun _ => False) rfl rfl ?aP (fun _ hk => hk.elim) ?aF ?aO ?aB ?aS ?aL ?_; (case aP => exact k95_mkM _ _ _ (⟨x4_1, x5_2, x7_3, t497⟩ : S95)); (case aB => exact z18_0); (case aF => exact (fun _ _ => trivial)); (case aO => exact (pkR HO_3)); (case aS => exact (below_size z18_0)); (case aL => have := LMc24.out; omega); intro v500 w27 ho hb hg hat; rw [← Ny499.out] at ho; replace BK492 := mk0 (blk_grown (g := gb492) (o := .cells #[.int .i64 a0_0, .int .i64 a0_1, .int .i64 a0_2, .int .i64 a0_3, .slice A0_4 l0_4.length c0_4] 65 (0, 0)) (pkb BK492) hg (Kd.R_ne HO_3.out BK492.out (by decide))); replace HB := mk0 (hb); have HO501 := mk0 (ho); clear HO_3 ho hb hg hat))
       go_roundg k3
       case measure => have := HK1.out; have := HK2.out; have := HK3.out; omega
       case rel => exact ⟨(y499), (wrap64 ((wrap64 (x7_3 - 1)) + 1)), rs0, H', ⟨(by have := HK1.out; have := HK2.out; have := HK3.out; omega)⟩, ⟨pkR HO501⟩, ⟨pkb BK492⟩, ⟨z18_0⟩⟩

end Go.Proofs.Ytghbenapnhcllaa.MFnMasks
