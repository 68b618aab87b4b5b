/- Functions of the program as Lean functions, and the proof that a call comes to just these: machine text of this session's own program (myprint.py). -/
import Derived.Test.YtghbenapnhcllaaMFnMasksx0
import Derived.Test.YtghbenapnhcllaaMFnMasksx3
import Derived.Test.YtghbenapnhcllaaMFnMasksx14
namespace Go.Proofs.Ytghbenapnhcllaa.MFnMasks
open Go.RowKit Go.Proofs.YtghbenapnhcllaaW.PrintWords Go.Proofs.YtghbenapnhcllaaW.PrintLast Go.Proofs.YtghbenapnhcllaaW.PrintMore
attribute [local go_sem] max2_int min2_int max_two min_two max_three min_three max_four min_four   -- for this text's walks alone
set_option linter.unusedVariables false
set_option linter.unusedSimpArgs false

attribute [local go_sem high] eqA95
theorem z15_0 {P : Prop} (h : P := by repeat (first | (with_reducible first | exact HB.out | apply below_alloc | apply pw_below_drewN | apply below_drew1 | refine below_set ?_ GE422.out) | exact HB.out)) : P := h
theorem z15_3 {P : Prop} (h : P := by repeat (first | (with_reducible first | exact HB.out | apply below_alloc | apply pw_below_drewN | apply below_drew1 | refine below_set ?_ GE0.out) | exact HB.out)) : P := h
theorem z15_5 {P : Prop} (h : P := by repeat (first | (with_reducible first | exact HB.out | apply below_alloc | apply pw_below_drewN | apply below_drew1 | refine below_set ?_ GE419.out) | exact HB.out)) : P := h
theorem z15_8 {P : Prop} (h : P := by have := HK1.out; have := HK2.out; have := HK3.out; omega) : P := h
/-! ### impl_Mask_bitsAt: function 87 -/
def impl_Mask_bitsAt.f (a0_0 : Int) (a0_1 : Int) (a0_2 : Int) (a0_3 : Int) (l0_4 : List Int) (a1 : Int) (a2 : Int) : Option (Int) := (impl_InBox.f a0_0 a0_1 a0_2 a0_3 a1 a2).bind fun t417 => (if t417 = true then (if 0 ≤ (wrap64 ((wrap64 ((wrap64 ((wrap64 (a2 - a0_1)) * (wrap64 (a0_2 - a0_0)))) + a1)) - a0_0)) then (if (wrap64 ((wrap64 ((wrap64 ((wrap64 (a2 - a0_1)) * (wrap64 (a0_2 - a0_0)))) + a1)) - a0_0)) < (l0_4.length : Int) then (some (rd l0_4 (wrap64 ((wrap64 ((wrap64 ((wrap64 (a2 - a0_1)) * (wrap64 (a0_2 - a0_0)))) + a1)) - a0_0)))) else (none)) else (none)) else (some 0))
set_option maxHeartbeats 8000000 in
set_option maxRecDepth 100000 in
theorem impl_Mask_bitsAt.calls (g0 : Nat) (a0_0 : Int) (a0_1 : Int) (a0_2 : Int) (a0_3 : Int) (A0_4 : Option Addr) (c0_4 : Nat) (l0_4 : List Int) (a1 : Int) (a2 : Int) (r : Int) (w : World) (hb0 : w.heap[g0]? = some (.cells #[.int .i64 a0_0, .int .i64 a0_1, .int .i64 a0_2, .int .i64 a0_3, .slice A0_4 l0_4.length c0_4] 65 (0, 0))) (hr0_4 : Kd.C (Kd.int .i64) w A0_4 l0_4.length l0_4) (hc0_4 : l0_4.length ≤ c0_4) (h : impl_Mask_bitsAt.f a0_0 a0_1 a0_2 a0_3 l0_4 a1 a2 = some r) :
  Calls Try.prog 87 #[.pointer (some ⟨g0, 0, none⟩), .int .i64 a1, .int .i64 a2] w fun e w' => e = .returned (.int .i64 r) ∧ Below w.heap.size w w' := by
 have hu63 := Try.underlying63; have hu52 := Try.underlying52; have HR0_4 := mk0 hr0_4; have HC0_4 := mk0 hc0_4; clear hr0_4 hc0_4; have BK0 := mk0 hb0; clear hb0; have HB := mk0 (Below.refl w.heap.size w)
 have H := h; unfold impl_Mask_bitsAt.f at H
 clear h; obtain ⟨t417, A4, H⟩ := bnd H
 try dsimp only at H
 by_cases c5 : t417 = true
 rotate_left
 ·replace c5 := Bool.eq_false_iff.mpr c5; subst c5; rw [if_neg (show ¬ (false = true) by decide)] at H
  obtain rfl := Option.some.inj H
  simp only [Option.some.injEq, Prod.mk.injEq] at H; obtain ⟨rfl⟩ := H
  have hcz12_0 : w.cell? ⟨g0, 0, none⟩ = some (.int .i64 a0_0) := (blk_cell BK0.out 0).trans rfl
  have hcz12_1 : w.cell? ⟨g0, 1, none⟩ = some (.int .i64 a0_1) := (blk_cell BK0.out 1).trans rfl
  have hcz12_2 : w.cell? ⟨g0, 2, none⟩ = some (.int .i64 a0_2) := (blk_cell BK0.out 2).trans rfl
  have hcz12_3 : w.cell? ⟨g0, 3, none⟩ = some (.int .i64 a0_3) := (blk_cell BK0.out 3).trans rfl
  have hcz12_4 : w.cell? ⟨g0, 4, none⟩ = some (.slice A0_4 l0_4.length c0_4) := (blk_cell BK0.out 4).trans rfl
  obtain ⟨_, _, _, _, _⟩ := bf_5 BK0.out; go_enter Try.func87, Try.ntmps87
  go_wp2_with (first | (go_at_call 110; (with_reducible refine (impl_InBox.calls a0_0 a0_1 a0_2 a0_3 a1 a2 false _ A4.out).mono ?_); rintro e w13 ⟨rfl, hb⟩; replace BK0 := mk0 (blk_below (g := g0) (o := .cells #[.int .i64 a0_0, .int .i64 a0_1, .int .i64 a0_2, .int .i64 a0_3, .slice A0_4 l0_4.length c0_4] 65 (0, 0)) (pkb BK0) hb); replace HB := bS z15_3 hb; clear hb))
  repeat (go_quiet (first | (go_at_call 110; (with_reducible refine (impl_InBox.calls a0_0 a0_1 a0_2 a0_3 a1 a2 false _ A4.out).mono ?_); rintro e w13 ⟨rfl, hb⟩; replace BK0 := mk0 (blk_below (g := g0) (o := .cells #[.int .i64 a0_0, .int .i64 a0_1, .int .i64 a0_2, .int .i64 a0_3, .slice A0_4 l0_4.length c0_4] 65 (0, 0)) (pkb BK0) hb); replace HB := bS z15_3 hb; clear hb)); try go_wp2_with (first | (go_at_call 110; (with_reducible refine (impl_InBox.calls a0_0 a0_1 a0_2 a0_3 a1 a2 false _ A4.out).mono ?_); rintro e w13 ⟨rfl, hb⟩; replace BK0 := mk0 (blk_below (g := g0) (o := .cells #[.int .i64 a0_0, .int .i64 a0_1, .int .i64 a0_2, .int .i64 a0_3, .slice A0_4 l0_4.length c0_4] 65 (0, 0)) (pkb BK0) hb); replace HB := bS z15_3 hb; clear hb)))
  go_ret
  exact ⟨q_71, z15_3⟩
 subst c5; rw [if_pos rfl] at H
 obtain ⟨ji6, hji6⟩ : ∃ j_ : Int, (wrap64 ((wrap64 ((wrap64 ((wrap64 (a2 - a0_1)) * (wrap64 (a0_2 - a0_0)))) + a1)) - a0_0)) = j_ := ⟨_, rfl⟩
 replace H : (if 0 ≤ (ji6) then (if (ji6) < (l0_4.length : Int) then (some (rd l0_4 (ji6))) else (none)) else (none)) = some r := by first | (rw [hji6] at H; exact H) | (simp only [hji6] at H ⊢; exact H)
 (try rw [hji6] at A4)
 have hji6w : (IntKind.i64.wrap ((wrap64 ((wrap64 ((wrap64 (a2 - a0_1)) * (wrap64 (a0_2 - a0_0)))) + a1)) - a0_0)) = ji6 := (i64_w _).trans hji6
 by_cases c7 : 0 ≤ (ji6)
 rotate_left
 ·rw [if_neg c7] at H
  exact absurd H (by simp)
 rw [if_pos c7] at H; have c7b0 := decide_eq_true c7; clear c7
 by_cases c8 : (ji6) < (l0_4.length : Int)
 rotate_left
 ·rw [if_neg c8] at H
  exact absurd H (by simp)
 rw [if_pos c8] at H; have c8b0 := decide_eq_true c8; clear c8
 obtain rfl := Option.some.inj H
 simp only [Option.some.injEq, Prod.mk.injEq] at H; obtain ⟨rfl⟩ := H
 have hcz9_0 : w.cell? ⟨g0, 0, none⟩ = some (.int .i64 a0_0) := (blk_cell BK0.out 0).trans rfl
 have hcz9_1 : w.cell? ⟨g0, 1, none⟩ = some (.int .i64 a0_1) := (blk_cell BK0.out 1).trans rfl
 have hcz9_2 : w.cell? ⟨g0, 2, none⟩ = some (.int .i64 a0_2) := (blk_cell BK0.out 2).trans rfl
 have hcz9_3 : w.cell? ⟨g0, 3, none⟩ = some (.int .i64 a0_3) := (blk_cell BK0.out 3).trans rfl
 have hcz9_4 : w.cell? ⟨g0, 4, none⟩ = some (.slice A0_4 l0_4.length c0_4) := (blk_cell BK0.out 4).trans rfl
 obtain ⟨_, _, _, _, _⟩ := bf_5 BK0.out; go_enter Try.func87, Try.ntmps87
 go_wp2_with (first | (go_at_call 110; (with_reducible refine (impl_InBox.calls a0_0 a0_1 a0_2 a0_3 a1 a2 true _ A4.out).mono ?_); rintro e w10 ⟨rfl, hb⟩; replace BK0 := mk0 (blk_below (g := g0) (o := .cells #[.int .i64 a0_0, .int .i64 a0_1, .int .i64 a0_2, .int .i64 a0_3, .slice A0_4 l0_4.length c0_4] 65 (0, 0)) (pkb BK0) hb); replace HB := bS z15_3 hb; clear hb; have hcz11_0 : w10.cell? ⟨g0, 0, none⟩ = some (.int .i64 a0_0) := (blk_cell BK0.out 0).trans rfl; have hcz11_1 : w10.cell? ⟨g0, 1, none⟩ = some (.int .i64 a0_1) := (blk_cell BK0.out 1).trans rfl; have hcz11_2 : w10.cell? ⟨g0, 2, none⟩ = some (.int .i64 a0_2) := (blk_cell BK0.out 2).trans rfl; have hcz11_3 : w10.cell? ⟨g0, 3, none⟩ = some (.int .i64 a0_3) := (blk_cell BK0.out 3).trans rfl; have hcz11_4 : w10.cell? ⟨g0, 4, none⟩ = some (.slice A0_4 l0_4.length c0_4) := (blk_cell BK0.out 4).trans rfl; obtain ⟨_, _, _, _, _⟩ := bf_5 BK0.out; have p418 : 0 ≤ ((ji6) : Int) := of_decide_eq_true (by first | (with_reducible assumption) | assumption); have q418 : (ji6) < (l0_4.length : Int) := of_decide_eq_true (by first | (with_reducible assumption) | assumption); obtain ⟨ad418, e418, hx418_0⟩ := Kd.at_int HR0_4.out (ji6) p418 q418; cases e418; replace hx418_0 := cell_go HB hx418_0; replace p418 := eq_true p418; replace q418 := eq_true q418))
 repeat (go_quiet (first | (go_at_call 110; (with_reducible refine (impl_InBox.calls a0_0 a0_1 a0_2 a0_3 a1 a2 true _ A4.out).mono ?_); rintro e w10 ⟨rfl, hb⟩; replace BK0 := mk0 (blk_below (g := g0) (o := .cells #[.int .i64 a0_0, .int .i64 a0_1, .int .i64 a0_2, .int .i64 a0_3, .slice A0_4 l0_4.length c0_4] 65 (0, 0)) (pkb BK0) hb); replace HB := bS z15_3 hb; clear hb; have hcz11_0 : w10.cell? ⟨g0, 0, none⟩ = some (.int .i64 a0_0) := (blk_cell BK0.out 0).trans rfl; have hcz11_1 : w10.cell? ⟨g0, 1, none⟩ = some (.int .i64 a0_1) := (blk_cell BK0.out 1).trans rfl; have hcz11_2 : w10.cell? ⟨g0, 2, none⟩ = some (.int .i64 a0_2) := (blk_cell BK0.out 2).trans rfl; have hcz11_3 : w10.cell? ⟨g0, 3, none⟩ = some (.int .i64 a0_3) := (blk_cell BK0.out 3).trans rfl; have hcz11_4 : w10.cell? ⟨g0, 4, none⟩ = some (.slice A0_4 l0_4.length c0_4) := (blk_cell BK0.out 4).trans rfl; have hfz11_0 := blk_frozen BK0.out 0; have hfz11_1 := blk_frozen BK0.out 1; have hfz11_2 := blk_frozen BK0.out 2; have hfz11_3 := blk_frozen BK0.out 3; have hfz11_4 := blk_frozen BK0.out 4; have p418 : 0 ≤ ((ji6) : Int) := of_decide_eq_true (by first | (with_reducible assumption) | assumption); have q418 : (ji6) < (l0_4.length : Int) := of_decide_eq_true (by first | (with_reducible assumption) | assumption); obtain ⟨ad418, e418, hx418_0⟩ := Kd.at_int HR0_4.out (ji6) p418 q418; cases e418; replace hx418_0 := cell_go HB hx418_0; replace p418 := eq_true p418; replace q418 := eq_true q418)); try go_wp2_with (first | (go_at_call 110; (with_reducible refine (impl_InBox.calls a0_0 a0_1 a0_2 a0_3 a1 a2 true _ A4.out).mono ?_); rintro e w10 ⟨rfl, hb⟩; replace BK0 := mk0 (blk_below (g := g0) (o := .cells #[.int .i64 a0_0, .int .i64 a0_1, .int .i64 a0_2, .int .i64 a0_3, .slice A0_4 l0_4.length c0_4] 65 (0, 0)) (pkb BK0) hb); replace HB := bS z15_3 hb; clear hb; have hcz11_0 : w10.cell? ⟨g0, 0, none⟩ = some (.int .i64 a0_0) := (blk_cell BK0.out 0).trans rfl; have hcz11_1 : w10.cell? ⟨g0, 1, none⟩ = some (.int .i64 a0_1) := (blk_cell BK0.out 1).trans rfl; have hcz11_2 : w10.cell? ⟨g0, 2, none⟩ = some (.int .i64 a0_2) := (blk_cell BK0.out 2).trans rfl; have hcz11_3 : w10.cell? ⟨g0, 3, none⟩ = some (.int .i64 a0_3) := (blk_cell BK0.out 3).trans rfl; have hcz11_4 : w10.cell? ⟨g0, 4, none⟩ = some (.slice A0_4 l0_4.length c0_4) := (blk_cell BK0.out 4).trans rfl; obtain ⟨_, _, _, _, _⟩ := bf_5 BK0.out; have p418 : 0 ≤ ((ji6) : Int) := of_decide_eq_true (by first | (with_reducible assumption) | assumption); have q418 : (ji6) < (l0_4.length : Int) := of_decide_eq_true (by first | (with_reducible assumption) | assumption); obtain ⟨ad418, e418, hx418_0⟩ := Kd.at_int HR0_4.out (ji6) p418 q418; cases e418; replace hx418_0 := cell_go HB hx418_0; replace p418 := eq_true p418; replace q418 := eq_true q418)))
 go_ret
 exact ⟨(by first | rfl | (simp [errW_none, errW_some] <;> rfl) | (simp only [← hji6]; first | rfl | (simp [errW_none, errW_some] <;> rfl)) | (simp [*, errW_none, errW_some] <;> rfl)), z15_3⟩

/-! ### impl_BitsAt: function 30 -/
def impl_BitsAt.f (k : Nat) (a0_0 : Int) (a0_1 : Int) (a0_2 : Int) (a0_3 : Int) (l0_4 : List Int) (a1 : Int) (a2 : Int) : Option (Int) := (impl_MaskOk.f k a0_0 a0_1 a0_2 a0_3 l0_4).bind fun t420 => (if t420 = true then ((impl_Mask_bitsAt.f a0_0 a0_1 a0_2 a0_3 l0_4 a1 a2).bind fun t421 => (some t421)) else (some 0))
theorem impl_BitsAt.mono : ∀ a0 a1 a2 a3 a4 a5 a6 k, LeO (impl_BitsAt.f k a0 a1 a2 a3 a4 a5 a6) (impl_BitsAt.f (k + 1) a0 a1 a2 a3 a4 a5 a6) := by
 intro a0 a1 a2 a3 a4 a5 a6 k
 unfold impl_BitsAt.f
 with_reducible repeat' first | apply impl_MaskOk.mono | exact LeO.refl _ | exact LeO.none _ | refine LeO.ite ?_ ?_ | refine LeO.bind ?_ (fun _ => ?_)
set_option maxHeartbeats 8000000 in
set_option maxRecDepth 100000 in
theorem impl_BitsAt.calls (k : Nat) (a0_0 : Int) (a0_1 : Int) (a0_2 : Int) (a0_3 : Int) (A0_4 : Option Addr) (c0_4 : Nat) (l0_4 : List Int) (a1 : Int) (a2 : Int) (r : Int) (w : World) (hr0_4 : Kd.C (Kd.int .i64) w A0_4 l0_4.length l0_4) (hc0_4 : l0_4.length ≤ c0_4) (h : impl_BitsAt.f k a0_0 a0_1 a0_2 a0_3 l0_4 a1 a2 = some r) :
  Calls Try.prog 30 #[.agg #[.int .i64 a0_0, .int .i64 a0_1, .int .i64 a0_2, .int .i64 a0_3, .slice A0_4 l0_4.length c0_4], .int .i64 a1, .int .i64 a2] w fun e w' => e = .returned (.int .i64 r) ∧ Below w.heap.size w w' := by
 have hu65 := Try.underlying65; have HR0_4 := mk0 hr0_4; have HC0_4 := mk0 hc0_4; clear hr0_4 hc0_4; have HB := mk0 (Below.refl w.heap.size w)
 have H := h; unfold impl_BitsAt.f at H
 clear h; obtain ⟨t420, A4, H⟩ := bnd H
 try dsimp only at H
 by_cases c5 : t420 = true
 rotate_left
 ·replace c5 := Bool.eq_false_iff.mpr c5; subst c5; rw [if_neg (show ¬ (false = true) by decide)] at H
  obtain rfl := Option.some.inj H
  simp only [Option.some.injEq, Prod.mk.injEq] at H; obtain ⟨rfl⟩ := H
  go_enter Try.func30, Try.ntmps30
  go_wp2_with (first | ((with_reducible refine gate_dst (N := 3) rfl ?_); refine boxz (cs := #[.int .i64 a0_0, .int .i64 a0_1, .int .i64 a0_2, .int .i64 a0_3, .slice A0_4 l0_4.length c0_4]) (t := 65) rfl ?_; intro gb419 hg w11 hbox hb; have GW419 := mk0 (ge_go (a := w.heap.size) hg (below_size q_149)); have GE419 := GW419; replace HB := bS q_149 hb; have BK419 := mk0 (hbox); clear hb hbox hg; obtain ⟨_, _, _, _, _, _, _, _, _, _⟩ := be_5 BK419.out) | ((with_reducible refine gate_callee (f := 27) rfl ?_); refine gl_ (some 8) Try.func27 #[.agg #[.int .i64 a0_0, .int .i64 a0_1, .int .i64 a0_2, .int .i64 a0_3, .slice A0_4 l0_4.length c0_4]] rfl q_0 ?_; (with_reducible refine (impl_MaskOk.calls k a0_0 a0_1 a0_2 a0_3 _ _ l0_4 false _ ?side1 ?side2 A4.out).mono ?_); (case side1 => exact q_174); (case side2 => exact HC0_4.out); rintro e w13 ⟨rfl, hb⟩; refine ⟨_, rfl, ?_⟩; replace BK419 := bB BK419 hb; replace HB := bS z15_5 hb; clear hb))
  go_ret
  exact ⟨q_71, z15_5⟩
 subst c5; rw [if_pos rfl] at H; obtain ⟨t421, A6, H⟩ := bnd H
 try dsimp only at H
 obtain rfl := Option.some.inj H
 simp only [Option.some.injEq, Prod.mk.injEq] at H; obtain ⟨rfl⟩ := H
 go_enter Try.func30, Try.ntmps30
 go_wp2_with (first | ((with_reducible refine gate_dst (N := 3) rfl ?_); refine boxz (cs := #[.int .i64 a0_0, .int .i64 a0_1, .int .i64 a0_2, .int .i64 a0_3, .slice A0_4 l0_4.length c0_4]) (t := 65) rfl ?_; intro gb419 hg w7 hbox hb; have GW419 := mk0 (ge_go (a := w.heap.size) hg (below_size q_149)); have GE419 := GW419; replace HB := bS q_149 hb; have BK419 := mk0 (hbox); clear hb hbox hg; obtain ⟨_, _, _, _, _, _, _, _, _, _⟩ := be_5 BK419.out) | ((with_reducible refine gate_callee (f := 27) rfl ?_); refine gl_ (some 8) Try.func27 #[.agg #[.int .i64 a0_0, .int .i64 a0_1, .int .i64 a0_2, .int .i64 a0_3, .slice A0_4 l0_4.length c0_4]] rfl q_0 ?_; (with_reducible refine (impl_MaskOk.calls k a0_0 a0_1 a0_2 a0_3 _ _ l0_4 true _ ?side1 ?side2 A4.out).mono ?_); (case side1 => exact q_174); (case side2 => exact HC0_4.out); rintro e w9 ⟨rfl, hb⟩; refine ⟨_, rfl, ?_⟩; replace BK419 := bB BK419 hb; replace HB := bS z15_5 hb; clear hb) | ((with_reducible refine gate_callee (f := 87) rfl ?_); refine gl_ (some 12) Try.func87 #[.pointer (some ⟨gb419, 0, none⟩), .int .i64 a1, .int .i64 a2] rfl q_0 ?_; (with_reducible refine (impl_Mask_bitsAt.calls gb419 a0_0 a0_1 a0_2 a0_3 A0_4 c0_4 l0_4 a1 a2 t421 _ ?side1 ?side2 ?side3 A6.out).mono ?_); (case side1 => (with_reducible repeat (first | refine blk_drewN ?_ _ | refine blk_drew ?_ | refine blk_alloc ?_ _)); exact BK419.out); (case side2 => exact q_174); (case side3 => exact HC0_4.out); rintro e w10 ⟨rfl, hb⟩; refine ⟨_, rfl, ?_⟩; replace BK419 := bB BK419 hb; replace HB := bS z15_5 hb; clear hb))
 go_ret
 exact ⟨q_71, z15_5⟩

/-! ### impl_RunsOf: function 44 -/
mutual
def impl_RunsOf.l0 : Nat → List (S95) → Int → Int → Int → Int → Int → List Int → Option ((List (S95)))
 | 0, _, _, _, _, _, _, _ => none
 | k + 1, x3, x4, x423000, x423001, x423002, x423003, x423004 => if x4 < x423003 then (impl_RunsOf.l1 k x3 x4 x423000 x423000 x423001 x423002 x423003 x423004) else (some x3)
def impl_RunsOf.l1 : Nat → List (S95) → Int → Int → Int → Int → Int → Int → List Int → Option ((List (S95)))
 | 0, _, _, _, _, _, _, _, _ => none
 | k + 1, x3, x4, x5, x423000, x423001, x423002, x423003, x423004 => if x5 < x423002 then ((impl_Mask_bitsAt.f x423000 x423001 x423002 x423003 x423004 x5 x4).bind fun t424 => (impl_RunsOf.l2 k x3 x4 x5 t424 (wrap64 (x5 + 1)) x423000 x423001 x423002 x423003 x423004)) else (impl_RunsOf.l0 k x3 (wrap64 (x4 + 1)) x423000 x423001 x423002 x423003 x423004)
def impl_RunsOf.l2 : Nat → List (S95) → Int → Int → Int → Int → Int → Int → Int → Int → List Int → Option ((List (S95)))
 | 0, _, _, _, _, _, _, _, _, _, _ => none
 | k + 1, x3, x4, x5, x6, x7, x423000, x423001, x423002, x423003, x423004 => if x7 < x423002 then ((impl_Mask_bitsAt.f x423000 x423001 x423002 x423003 x423004 x7 x4).bind fun t425 => (if t425 = x6 then (impl_RunsOf.l2 k x3 x4 x5 x6 (wrap64 (x7 + 1)) x423000 x423001 x423002 x423003 x423004) else (if x6 = 0 then (impl_RunsOf.l1 k x3 x4 x7 x423000 x423001 x423002 x423003 x423004) else (if x3.length < 4398046511104 then (impl_RunsOf.l1 k (x3 ++ [(⟨x4, x5, x7, x6⟩ : S95)]) x4 x7 x423000 x423001 x423002 x423003 x423004) else (none))))) else (if x6 = 0 then (impl_RunsOf.l1 k x3 x4 x7 x423000 x423001 x423002 x423003 x423004) else (if x3.length < 4398046511104 then (impl_RunsOf.l1 k (x3 ++ [(⟨x4, x5, x7, x6⟩ : S95)]) x4 x7 x423000 x423001 x423002 x423003 x423004) else (none)))
end
def impl_RunsOf.f (k : Nat) (a0_0 : Int) (a0_1 : Int) (a0_2 : Int) (a0_3 : Int) (l0_4 : List Int) : Option ((List (S95))) := (impl_MaskOk.f k a0_0 a0_1 a0_2 a0_3 l0_4).bind fun t423 => (if t423 = true then (impl_RunsOf.l0 k ([] : List (S95)) a0_1 a0_0 a0_1 a0_2 a0_3 l0_4) else (some ([] : List (S95))))
theorem impl_RunsOf.mono_l : ∀ k, (∀ y0 y1 y2 y3 y4 y5 y6, LeO (impl_RunsOf.l0 k y0 y1 y2 y3 y4 y5 y6) (impl_RunsOf.l0 (k + 1) y0 y1 y2 y3 y4 y5 y6)) ∧ (∀ y0 y1 y2 y3 y4 y5 y6 y7, LeO (impl_RunsOf.l1 k y0 y1 y2 y3 y4 y5 y6 y7) (impl_RunsOf.l1 (k + 1) y0 y1 y2 y3 y4 y5 y6 y7)) ∧ (∀ y0 y1 y2 y3 y4 y5 y6 y7 y8 y9, LeO (impl_RunsOf.l2 k y0 y1 y2 y3 y4 y5 y6 y7 y8 y9) (impl_RunsOf.l2 (k + 1) y0 y1 y2 y3 y4 y5 y6 y7 y8 y9))
 | 0 => ⟨fun _ _ _ _ _ _ _ r h => by simp [impl_RunsOf.l0] at h, fun _ _ _ _ _ _ _ _ r h => by simp [impl_RunsOf.l1] at h, fun _ _ _ _ _ _ _ _ _ _ r h => by simp [impl_RunsOf.l2] at h⟩
 | k + 1 => by
  obtain ⟨ih0, ih1, ih2⟩ := impl_RunsOf.mono_l k
  refine ⟨?_, ?_, ?_⟩
  ·intro y0 y1 y2 y3 y4 y5 y6
   unfold impl_RunsOf.l0
   with_reducible repeat' first | apply ih0 | apply ih1 | apply ih2 | apply impl_MaskOk.mono | exact LeO.refl _ | exact LeO.none _ | refine LeO.ite ?_ ?_ | refine LeO.bind ?_ (fun _ => ?_)
  ·intro y0 y1 y2 y3 y4 y5 y6 y7
   unfold impl_RunsOf.l1
   with_reducible repeat' first | apply ih0 | apply ih1 | apply ih2 | apply impl_MaskOk.mono | exact LeO.refl _ | exact LeO.none _ | refine LeO.ite ?_ ?_ | refine LeO.bind ?_ (fun _ => ?_)
  ·intro y0 y1 y2 y3 y4 y5 y6 y7 y8 y9
   unfold impl_RunsOf.l2
   with_reducible repeat' first | apply ih0 | apply ih1 | apply ih2 | apply impl_MaskOk.mono | exact LeO.refl _ | exact LeO.none _ | refine LeO.ite ?_ ?_ | refine LeO.bind ?_ (fun _ => ?_)
theorem impl_RunsOf.mono : ∀ a0 a1 a2 a3 a4 k, LeO (impl_RunsOf.f k a0 a1 a2 a3 a4) (impl_RunsOf.f (k + 1) a0 a1 a2 a3 a4) := by
 intro a0 a1 a2 a3 a4 k; obtain ⟨ih0, ih1, ih2⟩ := impl_RunsOf.mono_l k
 unfold impl_RunsOf.f
 with_reducible repeat' first | apply ih0 | apply ih1 | apply ih2 | apply impl_MaskOk.mono | exact LeO.refl _ | exact LeO.none _ | refine LeO.ite ?_ ?_ | refine LeO.bind ?_ (fun _ => ?_)
set_option maxHeartbeats 8000000 in
set_option maxRecDepth 100000 in
theorem impl_RunsOf.calls (k : Nat) (a0_0 : Int) (a0_1 : Int) (a0_2 : Int) (a0_3 : Int) (A0_4 : Option Addr) (c0_4 : Nat) (l0_4 : List Int) (r : List (S95)) (w : World) (hr0_4 : Kd.C (Kd.int .i64) w A0_4 l0_4.length l0_4) (hc0_4 : l0_4.length ≤ c0_4) (h : impl_RunsOf.f k a0_0 a0_1 a0_2 a0_3 l0_4 = some r) :
  Calls Try.prog 44 #[.agg #[.int .i64 a0_0, .int .i64 a0_1, .int .i64 a0_2, .int .i64 a0_3, .slice A0_4 l0_4.length c0_4]] w fun e w' => ∃ v0_ : Value, e = .returned (v0_) ∧ Kd.R k95 95 w' w.heap.size (fun _ => True) v0_ r ∧ Below w.heap.size w w' := by
 have hu65 := Try.underlying65; have hu95 := Try.underlying95; have HR0_4 := mk0 hr0_4; have HC0_4 := mk0 hc0_4; clear hr0_4 hc0_4; have HB := mk0 (Below.refl w.heap.size w)
 have H := h; unfold impl_RunsOf.f at H
 clear h; obtain ⟨t423, A2, H⟩ := bnd H
 try dsimp only at H
 by_cases c3 : t423 = true
 rotate_left
 ·replace c3 := Bool.eq_false_iff.mpr c3; subst c3; rw [if_neg (show ¬ (false = true) by decide)] at H
  obtain rfl := Option.some.inj H
  simp only [Option.some.injEq, Prod.mk.injEq] at H; obtain ⟨rfl⟩ := H
  go_enter Try.func44, Try.ntmps44
  go_wp2_with (first | ((with_reducible refine gate_dst (N := 1) rfl ?_); refine boxz (cs := #[.int .i64 a0_0, .int .i64 a0_1, .int .i64 a0_2, .int .i64 a0_3, .slice A0_4 l0_4.length c0_4]) (t := 65) rfl ?_; intro gb422 hg w33 hbox hb; have GW422 := mk0 (ge_go (a := w.heap.size) hg (below_size q_149)); have GE422 := GW422; replace HB := bS q_149 hb; have BK422 := mk0 (hbox); clear hb hbox hg; obtain ⟨_, _, _, _, _, _, _, _, _, _⟩ := be_5 BK422.out) | ((with_reducible refine gate_callee (f := 27) rfl ?_); refine gl_ (some 9) Try.func27 #[.agg #[.int .i64 a0_0, .int .i64 a0_1, .int .i64 a0_2, .int .i64 a0_3, .slice A0_4 l0_4.length c0_4]] rfl q_0 ?_; (with_reducible refine (impl_MaskOk.calls k a0_0 a0_1 a0_2 a0_3 _ _ l0_4 false _ ?side1 ?side2 A2.out).mono ?_); (case side1 => exact q_174); (case side2 => exact HC0_4.out); rintro e w35 ⟨rfl, hb⟩; refine ⟨_, rfl, ?_⟩; replace BK422 := bB BK422 hb; replace HB := bS z15_0 hb; clear hb))
  go_ret
  exact ⟨_, q_71, q_70, z15_0⟩
 subst c3; rw [if_pos rfl] at H
 have H' := mk0 H
 clear H; go_enter Try.func44, Try.ntmps44
 go_wp2_with (first | ((with_reducible refine gate_dst (N := 1) rfl ?_); refine boxz (cs := #[.int .i64 a0_0, .int .i64 a0_1, .int .i64 a0_2, .int .i64 a0_3, .slice A0_4 l0_4.length c0_4]) (t := 65) rfl ?_; intro gb422 hg w4 hbox hb; have GW422 := mk0 (ge_go (a := w.heap.size) hg (below_size q_149)); have GE422 := GW422; replace HB := bS q_149 hb; have BK422 := mk0 (hbox); clear hb hbox hg; obtain ⟨_, _, _, _, _, _, _, _, _, _⟩ := be_5 BK422.out) | ((with_reducible refine gate_callee (f := 27) rfl ?_); refine gl_ (some 9) Try.func27 #[.agg #[.int .i64 a0_0, .int .i64 a0_1, .int .i64 a0_2, .int .i64 a0_3, .slice A0_4 l0_4.length c0_4]] rfl q_0 ?_; (with_reducible refine (impl_MaskOk.calls k a0_0 a0_1 a0_2 a0_3 _ _ l0_4 true _ ?side1 ?side2 A2.out).mono ?_); (case side1 => exact q_174); (case side2 => exact HC0_4.out); rintro e w6 ⟨rfl, hb⟩; refine ⟨_, rfl, ?_⟩; replace BK422 := bB BK422 hb; replace HB := bS z15_0 hb; clear hb; obtain ⟨_, _, _, _, _, _, _, _, _, _⟩ := be_5 BK422.out))
 go_loopg [3, 4] k (fun kq v3 v4 w' => ∃ (x3_1 : List (S95)) (x4_1 : Int), v4 = .int .i64 x4_1 ∧ Aside0 (impl_RunsOf.l0 kq x3_1 x4_1 a0_0 a0_1 a0_2 a0_3 l0_4 = some r) ∧ Aside0 (kq ≤ k) ∧ Aside0 (Kd.R k95 95 w' w.heap.size (fun _ => True) v3 x3_1) ∧ Aside0 (w'.heap[gb422]? = some (.cells #[.int .i64 a0_0, .int .i64 a0_1, .int .i64 a0_2, .int .i64 a0_3, (.slice A0_4 l0_4.length c0_4)] 65 (0, 0))) ∧ Aside0 (Below w.heap.size w w'))
 case atStart => exact ⟨(([] : List (S95))), (a0_1), rs0, H', ⟨Nat.le_refl _⟩, ⟨q_70⟩, ⟨pkb BK422⟩, ⟨z15_0⟩⟩
 case round =>
  clear H'
  try clear c3
  obtain ⟨x3_1, x4_1, rfl, HA, HK1, HO_3, BK422, HB⟩ := hrel
  cases gk with
  | zero => exact absurd HA.out (by simp [impl_RunsOf.l0])
  | succ k1 =>
   have H := HA.out; clear HA; simp only [impl_RunsOf.l0] at H
   by_cases c8 : x4_1 < a0_3
   rotate_left
   ·rw [if_neg c8] at H; have c8b0 := decide_eq_false c8; clear c8
    obtain rfl := Option.some.inj H
    simp only [Option.some.injEq, Prod.mk.injEq] at H; obtain ⟨rfl⟩ := H
    obtain ⟨_, _, _, _, _, _, _, _, _, _⟩ := be_5 BK422.out
    go_wp2
    go_ret
    exact ⟨_, q_71, (pkR HO_3), z15_0⟩
   rw [if_pos c8] at H; have c8b0 := decide_eq_true c8; clear c8
   have H' := mk0 H
   clear H; obtain ⟨_, _, _, _, _, _, _, _, _, _⟩ := be_5 BK422.out
   go_wp2
   go_loopg [3, 5] k1 (fun kq v3 v5 w' => ∃ (x3_2 : List (S95)) (x5_2 : Int), v5 = .int .i64 x5_2 ∧ Aside0 (impl_RunsOf.l1 kq x3_2 x4_1 x5_2 a0_0 a0_1 a0_2 a0_3 l0_4 = some r) ∧ Aside0 (kq ≤ k1) ∧ Aside0 (Kd.R k95 95 w' w.heap.size (fun _ => True) v3 x3_2) ∧ Aside0 (w'.heap[gb422]? = some (.cells #[.int .i64 a0_0, .int .i64 a0_1, .int .i64 a0_2, .int .i64 a0_3, (.slice A0_4 l0_4.length c0_4)] 65 (0, 0))) ∧ Aside0 (Below w.heap.size w w'))
   case atStart => exact ⟨(x3_1), (a0_0), rs0, H', ⟨Nat.le_refl _⟩, ⟨pkR HO_3⟩, ⟨pkb BK422⟩, ⟨z15_0⟩⟩
   case round =>
    clear H'; (try clear c8b0); obtain ⟨x3_2, x5_2, rfl, HA, HK2, HO_3, BK422, HB⟩ := hrel
    cases gk with
    | zero => exact absurd HA.out (by simp [impl_RunsOf.l1])
    | succ k2 =>
     have H := HA.out; clear HA; simp only [impl_RunsOf.l1] at H
     by_cases c10 : x5_2 < a0_2
     rotate_left
     ·rw [if_neg c10] at H; have c10b0 := decide_eq_false c10; clear c10
      have H' := mk0 H
      clear H; obtain ⟨_, _, _, _, _, _, _, _, _, _⟩ := be_5 BK422.out
      go_wp2
      go_roundg k2
      case measure => have := HK1.out; have := HK2.out; omega
      case rel => exact ⟨(x3_2), (wrap64 (x4_1 + 1)), rs0, H', ⟨(by have := HK1.out; have := HK2.out; omega)⟩, ⟨pkR HO_3⟩, ⟨pkb BK422⟩, ⟨z15_0⟩⟩
     rw [if_pos c10] at H; have c10b0 := decide_eq_true c10; clear c10; obtain ⟨t424, A11, H⟩ := bnd H
     try dsimp only at H
     have H' := mk0 H
     clear H; obtain ⟨_, _, _, _, _, _, _, _, _, _⟩ := be_5 BK422.out
     go_wp2_with (first | ((with_reducible refine gate_callee (f := 87) rfl ?_); refine gl_ (some 31) Try.func87 #[.pointer (some ⟨gb422, 0, none⟩), .int .i64 x5_2, .int .i64 x4_1] rfl q_0 ?_; (with_reducible refine (impl_Mask_bitsAt.calls gb422 a0_0 a0_1 a0_2 a0_3 A0_4 c0_4 l0_4 x5_2 x4_1 t424 _ ?side1 ?side2 ?side3 A11.out).mono ?_); (case side1 => (with_reducible repeat (first | refine blk_drewN ?_ _ | refine blk_drew ?_ | refine blk_alloc ?_ _)); exact BK422.out); (case side2 => exact q_174); (case side3 => exact HC0_4.out); rintro e w13 ⟨rfl, hb⟩; refine ⟨_, rfl, ?_⟩; replace HO_3 := bR HO_3 hb; replace BK422 := bB BK422 hb; replace HB := bS z15_0 hb; clear hb))
     go_loopg [7] k2 (fun kq v7 w' => ∃ (x7_3 : Int), v7 = .int .i64 x7_3 ∧ Aside0 (impl_RunsOf.l2 kq x3_2 x4_1 x5_2 t424 x7_3 a0_0 a0_1 a0_2 a0_3 l0_4 = some r) ∧ Aside0 (kq ≤ k2) ∧ Aside0 (Kd.R k95 95 w' w.heap.size (fun _ => True) u3 x3_2) ∧ Aside0 (w'.heap[gb422]? = some (.cells #[.int .i64 a0_0, .int .i64 a0_1, .int .i64 a0_2, .int .i64 a0_3, (.slice A0_4 l0_4.length c0_4)] 65 (0, 0))) ∧ Aside0 (Below w.heap.size w w'))
     case atStart => exact ⟨(wrap64 (x5_2 + 1)), rs0, H', ⟨Nat.le_refl _⟩, ⟨pkR HO_3⟩, ⟨pkb BK422⟩, ⟨z15_0⟩⟩
     case round =>
      clear H'; (try clear c10b0); obtain ⟨x7_3, rfl, HA, HK3, HO_3, BK422, HB⟩ := hrel
      cases gk with
      | zero => exact absurd HA.out (by simp [impl_RunsOf.l2])
      | succ k3 =>
       have H := HA.out; clear HA; simp only [impl_RunsOf.l2] at H
       by_cases c14 : x7_3 < a0_2
       rotate_left
       ·rw [if_neg c14] at H; have c14b0 := decide_eq_false c14; clear c14
        by_cases c26 : t424 = 0
        ·rw [if_pos c26] at H
         have c26b0 : (t424 == 0) = true := beq_iff_eq.mpr c26
         have c26b1 : (t424 != 0) = false := bne_eq_false_iff_eq.mpr c26
         clear c26
         have H' := mk0 H
         clear H; obtain ⟨_, _, _, _, _, _, _, _, _, _⟩ := be_5 BK422.out
         go_wp2
         go_roundg k3
         case measure => have := HK1.out; have := HK2.out; have := HK3.out; omega
         case rel => exact ⟨(x3_2), (x7_3), rs0, H', ⟨z15_8⟩, ⟨pkR HO_3⟩, ⟨pkb BK422⟩, ⟨z15_0⟩⟩
        rw [if_neg c26] at H
        have c26b0 : (t424 == 0) = false := beq_eq_false_iff_ne.mpr c26
        have c26b1 : (t424 != 0) = true := bne_iff_ne.mpr c26
        by_cases c28 : x3_2.length < 4398046511104
        rotate_left
        ·rw [if_neg c28] at H
         exact absurd H (by simp)
        rw [if_pos c28] at H; have LMc28 := mk0 c28; clear c28
        obtain ⟨y429, hy_⟩ : ∃ y_ : List (S95), y_ = (x3_2 ++ [(⟨x4_1, x5_2, x7_3, t424⟩ : S95)]) := ⟨_, rfl⟩
        replace H : (impl_RunsOf.l1 k3 y429 x4_1 x7_3 a0_0 a0_1 a0_2 a0_3 l0_4) = some r := q_69
        have Ny429 := mk0 hy_; clear hy_
        have H' := mk0 H
        clear H; obtain ⟨_, _, _, _, _, _, _, _, _, _⟩ := be_5 BK422.out
        go_wp2_with (first | ((with_reducible refine gate_builtin (b := .append) (xs := #[.tmp 50, .tmp 56]) rfl ?_); at_builtin; refine Kd.R_append k95 (w0 := w) w.heap.size rfl (.tmp 50) (.tmp 56) 90 95 (.agg #[(.int .i64 0), (.int .i64 0), (.int .i64 0), (.int .i64 0)]) 32 rfl Try.underlying90 info95 rfl (by decide) (by omega) u3 x3_2 (⟨x4_1, x5_2, x7_3, t424⟩ : S95) [.int .i64 x4_1, .int .i64 x5_2, .int .i64 x7_3, .int .i64 t424] (fun _ => True) (fun _ => False) rfl rfl ?aP (fun _ hk => hk.elim) ?aF ?aO ?aB ?aS ?aL ?_; (case aP => exact k95_mkM _ _ _ (⟨x4_1, x5_2, x7_3, t424⟩ : S95)); (case aB => exact z15_0); (case aF => exact (fun _ _ => trivial)); (case aO => exact (pkR HO_3)); (case aS => exact (below_size z15_0)); (case aL => have := LMc28.out; omega); intro v430 w30 ho hb hg hat; rw [← Ny429.out] at ho; replace BK422 := mk0 (blk_grown (g := gb422) (o := .cells #[.int .i64 a0_0, .int .i64 a0_1, .int .i64 a0_2, .int .i64 a0_3, .slice A0_4 l0_4.length c0_4] 65 (0, 0)) (pkb BK422) hg (Kd.R_ne HO_3.out BK422.out (by decide))); replace HB := mk0 (hb); have HO431 := mk0 (ho); clear HO_3 ho hb hg hat))
        go_roundg k3
        case measure => have := HK1.out; have := HK2.out; have := HK3.out; omega
        case rel => exact ⟨(y429), (x7_3), rs0, H', ⟨z15_8⟩, ⟨pkR HO431⟩, ⟨pkb BK422⟩, ⟨z15_0⟩⟩
       rw [if_pos c14] at H; have c14b0 := decide_eq_true c14; clear c14; obtain ⟨t425, A15, H⟩ := bnd H
       try dsimp only at H
       by_cases c16 : t425 = t424
       ·rw [if_pos c16] at H
        have c16b0 : (t425 == t424) = true := beq_iff_eq.mpr c16
        have c16b1 : (t425 != t424) = false := bne_eq_false_iff_eq.mpr c16
        clear c16
        have H' := mk0 H
        clear H; obtain ⟨_, _, _, _, _, _, _, _, _, _⟩ := be_5 BK422.out
        go_wp2_with (first | (go_at_call 87; (with_reducible refine (impl_Mask_bitsAt.calls gb422 a0_0 a0_1 a0_2 a0_3 A0_4 c0_4 l0_4 x7_3 x4_1 t425 _ ?side1 ?side2 ?side3 A15.out).mono ?_); (case side1 => (with_reducible repeat (first | refine blk_drewN ?_ _ | refine blk_drew ?_ | refine blk_alloc ?_ _)); exact BK422.out); (case side2 => exact q_174); (case side3 => exact HC0_4.out); rintro e w18 ⟨rfl, hb⟩; replace HO_3 := bR HO_3 hb; replace BK422 := bB BK422 hb; replace HB := bS z15_0 hb; clear hb))
        go_roundg k3
        case measure => have := HK1.out; have := HK2.out; have := HK3.out; omega
        case rel => exact ⟨(wrap64 (x7_3 + 1)), rs0, H', ⟨z15_8⟩, ⟨pkR HO_3⟩, ⟨pkb BK422⟩, ⟨z15_0⟩⟩
       rw [if_neg c16] at H
       have c16b0 : (t425 == t424) = false := beq_eq_false_iff_ne.mpr c16
       have c16b1 : (t425 != t424) = true := bne_iff_ne.mpr c16
       by_cases c19 : t424 = 0
       ·rw [if_pos c19] at H
        have c19b0 : (t424 == 0) = true := beq_iff_eq.mpr c19
        have c19b1 : (t424 != 0) = false := bne_eq_false_iff_eq.mpr c19
        clear c19
        have H' := mk0 H
        clear H; obtain ⟨_, _, _, _, _, _, _, _, _, _⟩ := be_5 BK422.out
        go_wp2_with (first | (go_at_call 87; (with_reducible refine (impl_Mask_bitsAt.calls gb422 a0_0 a0_1 a0_2 a0_3 A0_4 c0_4 l0_4 x7_3 x4_1 t425 _ ?side1 ?side2 ?side3 A15.out).mono ?_); (case side1 => (with_reducible repeat (first | refine blk_drewN ?_ _ | refine blk_drew ?_ | refine blk_alloc ?_ _)); exact BK422.out); (case side2 => exact q_174); (case side3 => exact HC0_4.out); rintro e w21 ⟨rfl, hb⟩; replace HO_3 := bR HO_3 hb; replace BK422 := bB BK422 hb; replace HB := bS z15_0 hb; clear hb))
        go_roundg k3
        case measure => have := HK1.out; have := HK2.out; have := HK3.out; omega
        case rel => exact ⟨(x3_2), (x7_3), rs0, H', ⟨z15_8⟩, ⟨pkR HO_3⟩, ⟨pkb BK422⟩, ⟨z15_0⟩⟩
       rw [if_neg c19] at H
       have c19b0 : (t424 == 0) = false := beq_eq_false_iff_ne.mpr c19
       have c19b1 : (t424 != 0) = true := bne_iff_ne.mpr c19
       by_cases c22 : x3_2.length < 4398046511104
       rotate_left
       ·rw [if_neg c22] at H
        exact absurd H (by simp)
       rw [if_pos c22] at H; have LMc22 := mk0 c22; clear c22
       obtain ⟨y426, hy_⟩ : ∃ y_ : List (S95), y_ = (x3_2 ++ [(⟨x4_1, x5_2, x7_3, t424⟩ : S95)]) := ⟨_, rfl⟩
       replace H : (impl_RunsOf.l1 k3 y426 x4_1 x7_3 a0_0 a0_1 a0_2 a0_3 l0_4) = some r := q_69
       have Ny426 := mk0 hy_; clear hy_
       have H' := mk0 H
       clear H; obtain ⟨_, _, _, _, _, _, _, _, _, _⟩ := be_5 BK422.out
       go_wp2_with (first | (go_at_call 87; (with_reducible refine (impl_Mask_bitsAt.calls gb422 a0_0 a0_1 a0_2 a0_3 A0_4 c0_4 l0_4 x7_3 x4_1 t425 _ ?side1 ?side2 ?side3 A15.out).mono ?_); (case side1 => (with_reducible repeat (first | refine blk_drewN ?_ _ | refine blk_drew ?_ | refine blk_alloc ?_ _)); exact BK422.out); (case side2 => exact q_174); (case side3 => exact HC0_4.out); rintro e w24 ⟨rfl, hb⟩; replace HO_3 := bR HO_3 hb; replace BK422 := bB BK422 hb; replace HB := bS z15_0 hb; clear hb; (try clear hk)) | ((with_reducible refine gate_builtin (b := .append) (xs := #[.tmp 50, .tmp 56]) rfl ?_); at_builtin; refine Kd.R_append k95 (w0 := w) w.heap.size rfl (.tmp 50) (.tmp 56) 90 95 (.agg #[(.int .i64 0), (.int .i64 0), (.int .i64 0), (.int .i64 0)]) 32 rfl Try.underlying90 info95 rfl (by decide) (by omega) u3 x3_2 (⟨x4_1, x5_2, x7_3, t424⟩ : S95) [.int .i64 x4_1, .int .i64 x5_2, .int .i64 x7_3, .int .i64 t424] (fun _ => True) (fun _ => False) rfl rfl ?aP (fun _ hk => hk.elim) ?aF ?aO ?aB ?aS ?aL ?_; (case aP => exact k95_mkM _ _ _ (⟨x4_1, x5_2, x7_3, t424⟩ : S95)); (case aB => exact z15_0); (case aF => exact (fun _ _ => trivial)); (case aO => exact (pkR HO_3)); (case aS => exact (below_size z15_0)); (case aL => have := LMc22.out; omega); intro v427 w25 ho hb hg hat; rw [← Ny426.out] at ho; replace BK422 := mk0 (blk_grown (g := gb422) (o := .cells #[.int .i64 a0_0, .int .i64 a0_1, .int .i64 a0_2, .int .i64 a0_3, .slice A0_4 l0_4.length c0_4] 65 (0, 0)) (pkb BK422) hg (Kd.R_ne HO_3.out BK422.out (by decide))); replace HB := mk0 (hb); have HO428 := mk0 (ho); clear HO_3 ho hb hg hat))
       go_roundg k3
       case measure => have := HK1.out; have := HK2.out; have := HK3.out; omega
       case rel => exact ⟨(y426), (x7_3), rs0, H', ⟨z15_8⟩, ⟨pkR HO428⟩, ⟨pkb BK422⟩, ⟨z15_0⟩⟩

/-! ### impl_Run: function 111 -/
def impl_Run.l0 : Nat → List (S95) → List (S95) → Int → Int → Option (Bool)
 | 0, _, _, _, _ => none
 | k + 1, x0, x1, x12, x13 => if x13 < x12 then (if 0 ≤ x13 then (if x13 < (x0.length : Int) then (if x13 < (x1.length : Int) then (if (!(((rd_T95 x0 x13).f0) == ((rd_T95 x1 x13).f0)) || (!(((rd_T95 x0 x13).f1) == ((rd_T95 x1 x13).f1)) || (!(((rd_T95 x0 x13).f2) == ((rd_T95 x1 x13).f2)) || (!(((rd_T95 x0 x13).f3) == ((rd_T95 x1 x13).f3)))))) = true then (some false) else (impl_Run.l0 k x0 x1 x12 (wrap64 (x13 + 1)))) else (none)) else (none)) else (none)) else (some true)
def impl_Run.f (k : Nat) (l0 : List (S95)) (l1 : List (S95)) : Option (Bool) := if (l0.length : Int) = (l1.length : Int) then (impl_Run.l0 k l0 l1 (l0.length : Int) 0) else (some false)
theorem impl_Run.mono_l : ∀ k, (∀ y0 y1 y2 y3, LeO (impl_Run.l0 k y0 y1 y2 y3) (impl_Run.l0 (k + 1) y0 y1 y2 y3))
 | 0 => fun _ _ _ _ r h => by simp [impl_Run.l0] at h
 | k + 1 => by
  have ih0 := impl_Run.mono_l k
  ·intro y0 y1 y2 y3
   unfold impl_Run.l0
   with_reducible repeat' first | apply ih0 | exact LeO.refl _ | exact LeO.none _ | refine LeO.ite ?_ ?_ | refine LeO.bind ?_ (fun _ => ?_)
theorem impl_Run.mono : ∀ a0 a1 k, LeO (impl_Run.f k a0 a1) (impl_Run.f (k + 1) a0 a1) := by
 intro a0 a1 k; have ih0 := impl_Run.mono_l k
 unfold impl_Run.f
 with_reducible repeat' first | apply ih0 | exact LeO.refl _ | exact LeO.none _ | refine LeO.ite ?_ ?_ | refine LeO.bind ?_ (fun _ => ?_)
set_option maxHeartbeats 8000000 in
set_option maxRecDepth 100000 in
theorem impl_Run.calls (k : Nat) (A0 : Option Addr) (c0 : Nat) (l0 : List (S95)) (A1 : Option Addr) (c1 : Nat) (l1 : List (S95)) (r : Bool) (w : World) (hr0 : Kd.C k95 w A0 l0.length l0) (hc0 : l0.length ≤ c0) (hr1 : Kd.C k95 w A1 l1.length l1) (hc1 : l1.length ≤ c1) (h : impl_Run.f k l0 l1 = some r) :
  Calls Try.prog 111 #[.slice A0 l0.length c0, .slice A1 l1.length c1] w fun e w' => e = .returned (.bool r) ∧ Drawn0 w w' := by
 have hu95 := Try.underlying95; have HR0 := mk0 hr0; have HC0 := mk0 hc0; clear hr0 hc0; have HR1 := mk0 hr1; have HC1 := mk0 hc1; clear hr1 hc1
 have H := h; unfold impl_Run.f at H
 clear h
 by_cases c3 : (l0.length : Int) = (l1.length : Int)
 rotate_left
 ·rw [if_neg c3] at H
  have c3b0 : ((l0.length : Int) == (l1.length : Int)) = false := beq_eq_false_iff_ne.mpr c3
  have c3b1 : ((l0.length : Int) != (l1.length : Int)) = true := bne_iff_ne.mpr c3
  have c3b2 : (l0.length == l1.length) = false := by first | simpa using c3 | (simp at c3 ⊢; omega)
  obtain rfl := Option.some.inj H
  simp only [Option.some.injEq, Prod.mk.injEq] at H; obtain ⟨rfl⟩ := H
  go_enter Try.func111, Try.ntmps111
  go_wp2
  repeat (go_quiet (fail); try go_wp2)
  go_ret
  exact ⟨rs0, q_183⟩
 rw [if_pos c3] at H
 have c3b0 : ((l0.length : Int) == (l1.length : Int)) = true := beq_iff_eq.mpr c3
 have c3b1 : ((l0.length : Int) != (l1.length : Int)) = false := bne_eq_false_iff_eq.mpr c3
 have c3b2 : (l0.length == l1.length) = true := by first | simpa using c3 | (simp at c3 ⊢; omega)
 clear c3
 have H' := mk0 H
 clear H; go_enter Try.func111, Try.ntmps111
 go_wp2
 repeat (go_quiet (fail); try go_wp2)
 go_loopg [13] k (fun kq v13 w' => ∃ (x13_1 : Int), v13 = .int .i64 x13_1 ∧ Aside0 (impl_Run.l0 kq l0 l1 (l0.length : Int) x13_1 = some r) ∧ Aside0 (kq ≤ k) ∧ Drawn0 w w')
 case atStart => exact ⟨(0), rs0, H', ⟨Nat.le_refl _⟩, q_183⟩
 case round =>
  clear H'
  try clear c1
  try clear c3b0
  try clear c3b1
  try clear c3b2
  obtain ⟨x13_1, rfl, HA, HK1, ⟨m1, rfl⟩⟩ := hrel
  cases gk with
  | zero => exact absurd HA.out (by simp [impl_Run.l0])
  | succ k1 =>
   have H := HA.out; clear HA; simp only [impl_Run.l0] at H
   by_cases c4 : x13_1 < (l0.length : Int)
   rotate_left
   ·rw [if_neg c4] at H; have c4b0 := decide_eq_false c4; clear c4
    obtain rfl := Option.some.inj H
    simp only [Option.some.injEq, Prod.mk.injEq] at H; obtain ⟨rfl⟩ := H
    go_wp2
    repeat (go_quiet (fail); try go_wp2)
    go_ret
    exact ⟨rs0, q_183⟩
   rw [if_pos c4] at H; have c4b0 := decide_eq_true c4; clear c4
   by_cases c5 : 0 ≤ x13_1
   rotate_left
   ·rw [if_neg c5] at H
    exact absurd H (by simp)
   rw [if_pos c5] at H; have c5b0 := decide_eq_true c5; clear c5
   by_cases c6 : x13_1 < (l0.length : Int)
   rotate_left
   ·rw [if_neg c6] at H
    exact absurd H (by simp)
   rw [if_pos c6] at H; have c6b0 := decide_eq_true c6; clear c6
   by_cases c7 : x13_1 < (l1.length : Int)
   rotate_left
   ·rw [if_neg c7] at H
    exact absurd H (by simp)
   rw [if_pos c7] at H; have c7b0 := decide_eq_true c7; clear c7
   by_cases c8 : (!(((rd_T95 l0 x13_1).f0) == ((rd_T95 l1 x13_1).f0)) || (!(((rd_T95 l0 x13_1).f1) == ((rd_T95 l1 x13_1).f1)) || (!(((rd_T95 l0 x13_1).f2) == ((rd_T95 l1 x13_1).f2)) || (!(((rd_T95 l0 x13_1).f3) == ((rd_T95 l1 x13_1).f3)))))) = true
   ·rw [if_pos c8] at H
    have c8b0 : (!(((rd_T95 l0 x13_1).f0) == ((rd_T95 l1 x13_1).f0)) || (!(((rd_T95 l0 x13_1).f1) == ((rd_T95 l1 x13_1).f1)) || (!(((rd_T95 l0 x13_1).f2) == ((rd_T95 l1 x13_1).f2)) || (!(((rd_T95 l0 x13_1).f3) == ((rd_T95 l1 x13_1).f3)))))) = true := c8
    clear c8
    obtain rfl := Option.some.inj H
    simp only [Option.some.injEq, Prod.mk.injEq] at H; obtain ⟨rfl⟩ := H
    have p432 : 0 ≤ (x13_1 : Int) := of_decide_eq_true (by first | (with_reducible assumption) | assumption)
    have q432 : x13_1 < (l0.length : Int) := of_decide_eq_true (by first | (with_reducible assumption) | assumption)
    obtain ⟨ad432, e432, hx432_0, hx432_1, hx432_2, hx432_3⟩ := at_T95 HR0.out x13_1 p432 q432
    cases e432
    replace p432 := eq_true p432; replace q432 := eq_true q432
    have p433 : 0 ≤ (x13_1 : Int) := of_decide_eq_true (by first | (with_reducible assumption) | assumption)
    have q433 : x13_1 < (l1.length : Int) := of_decide_eq_true (by first | (with_reducible assumption) | assumption)
    obtain ⟨ad433, e433, hx433_0, hx433_1, hx433_2, hx433_3⟩ := at_T95 HR1.out x13_1 p433 q433
    cases e433
    replace p433 := eq_true p433; replace q433 := eq_true q433
    go_wp2
    repeat (go_quiet (fail); try go_wp2)
    go_ret
    exact ⟨rs0, q_183⟩
   rw [if_neg c8] at H
   have c8b0 : (!(((rd_T95 l0 x13_1).f0) == ((rd_T95 l1 x13_1).f0)) || (!(((rd_T95 l0 x13_1).f1) == ((rd_T95 l1 x13_1).f1)) || (!(((rd_T95 l0 x13_1).f2) == ((rd_T95 l1 x13_1).f2)) || (!(((rd_T95 l0 x13_1).f3) == ((rd_T95 l1 x13_1).f3)))))) = false := by simpa using c8
   clear c8
   have H' := mk0 H
   clear H
   have p432 : 0 ≤ (x13_1 : Int) := of_decide_eq_true (by first | (with_reducible assumption) | assumption)
   have q432 : x13_1 < (l0.length : Int) := of_decide_eq_true (by first | (with_reducible assumption) | assumption)
   obtain ⟨ad432, e432, hx432_0, hx432_1, hx432_2, hx432_3⟩ := at_T95 HR0.out x13_1 p432 q432
   cases e432
   replace p432 := eq_true p432; replace q432 := eq_true q432
   have p433 : 0 ≤ (x13_1 : Int) := of_decide_eq_true (by first | (with_reducible assumption) | assumption)
   have q433 : x13_1 < (l1.length : Int) := of_decide_eq_true (by first | (with_reducible assumption) | assumption)
   obtain ⟨ad433, e433, hx433_0, hx433_1, hx433_2, hx433_3⟩ := at_T95 HR1.out x13_1 p433 q433
   cases e433
   replace p433 := eq_true p433; replace q433 := eq_true q433
   go_wp2
   repeat (go_quiet (fail); try go_wp2)
   go_roundg k1
   case measure => have := HK1.out; omega
   case rel => exact ⟨(wrap64 (x13_1 + 1)), rs0, H', ⟨(by have := HK1.out; omega)⟩, q_183⟩

end Go.Proofs.Ytghbenapnhcllaa.MFnMasks
