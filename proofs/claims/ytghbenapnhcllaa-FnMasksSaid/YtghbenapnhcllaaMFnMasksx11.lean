/- Functions of the program as Lean functions, and the proof that a call comes to just these: machine text of this session's own program (myprint.py). -/
import Derived.Test.YtghbenapnhcllaaMFnMasksx0
import Derived.Test.YtghbenapnhcllaaMFnMasksx4
import Derived.Test.YtghbenapnhcllaaMFnMasksx10
namespace Go.Proofs.Ytghbenapnhcllaa.MFnMasks
open Go.RowKit Go.Proofs.YtghbenapnhcllaaW.PrintWords Go.Proofs.YtghbenapnhcllaaW.PrintLast Go.Proofs.YtghbenapnhcllaaW.PrintMore
attribute [local go_sem] max2_int min2_int max_two min_two max_three min_three max_four min_four   -- for this text's walks alone
set_option linter.unusedVariables false
set_option linter.unusedSimpArgs false

theorem x11_put {P : Prop} (h : P := by simp only [Act.put, List.setIfInBounds_toArray, List.set_cons_zero, List.set_cons_succ, i64_w, i32_w]; rfl) : P := h
theorem z11_1 {P : Prop} (h : P := by repeat (first | (with_reducible first | exact HB.out | apply below_alloc | apply pw_below_drewN | apply below_drew1 | refine below_set ?_ GE271.out | refine below_set ?_ GE272.out) | exact HB.out)) : P := h
theorem z11_5 {P : Prop} (h : P := by repeat (first | (with_reducible first | exact HB.out | apply below_alloc | apply pw_below_drewN | apply below_drew1 | refine below_set ?_ GE271.out) | exact HB.out)) : P := h
theorem z11_6 {P : Prop} (h : P := by repeat (first | (with_reducible first | exact HB.out | apply below_alloc | apply pw_below_drewN | apply below_drew1 | refine below_set ?_ GE240.out | refine below_set ?_ GE241.out | refine below_set ?_ GE243.out) | exact HB.out)) : P := h
theorem z11_13 {P : Prop} (h : P := by repeat (first | (with_reducible first | exact HB.out | apply below_alloc | apply pw_below_drewN | apply below_drew1 | refine below_set ?_ GE240.out | refine below_set ?_ GE241.out) | exact HB.out)) : P := h
theorem z11_14 {P : Prop} (h : P := by repeat (first | (with_reducible first | exact HB.out | apply below_alloc | apply pw_below_drewN | apply below_drew1 | refine below_set ?_ GE240.out) | exact HB.out)) : P := h
theorem z11_15 {P : Prop} (h : P := by apply blk_fin; (focus ((with_reducible repeat (first | apply blk_putQ | refine blk_drewN ?_ _ | refine blk_drew ?_ | refine blk_alloc ?_ _)); exact BK272.out)); first | (simp only [List.setIfInBounds_toArray, List.set_cons_zero, List.set_cons_succ]; done) | rfl) : P := h
theorem z11_17 {P : Prop} (h : P := by repeat (first | (with_reducible first | exact HK.out | apply KeepBut.set_ | apply keep_drewN | apply keep_drew | apply keep_alloc | refine keep_far ?_ GW284.out _) | exact HK.out)) : P := h
theorem z11_18 {P : Prop} (h : P := by apply blk_fin; (focus ((with_reducible repeat (first | apply blk_putQ | refine blk_drewN ?_ _ | refine blk_drew ?_ | refine blk_alloc ?_ _)); exact BK241.out)); first | (simp only [List.setIfInBounds_toArray, List.set_cons_zero, List.set_cons_succ]; done) | rfl) : P := h
theorem z11_19 {P : Prop} (h : P := by repeat (first | (with_reducible first | exact HI0.out | apply IsS152.alloc | apply IsS152.drewN | apply IsS152.drew | apply IsS152.set_1 | apply IsS152.set_2 | apply IsS152.farB NB0_284.out) | exact HI0.out)) : P := h
theorem z11_20 {P : Prop} (h : P := by repeat (first | (with_reducible first | exact HB.out | apply below_alloc | apply pw_below_drewN | apply below_drew1 | refine below_set ?_ (IsS152.ge HI0.out) | refine below_set ?_ GE284.out) | exact HB.out)) : P := h
/-! ### spec_MaskOf: function 33 -/
mutual
def spec_MaskOf.l0 : Nat → List (List (S52)) → Bool → Int → Int → Int → Int → Int → Int → Int → Int → Int → List Int → Option (Int × Int × Int × Int × List Int)
 | 0, _, _, _, _, _, _, _, _, _, _, _, _ => none
 | k + 1, x0, x1, x8, x241000, x241001, x241002, x241003, x244000, x244001, x244002, x244003, x244004 => if x8 < x241003 then (spec_MaskOf.l1 k x0 x1 x8 x241000 x241000 x241001 x241002 x241003 x244000 x244001 x244002 x244003 x244004) else (some (x244000, x244001, x244002, x244003, x244004))
def spec_MaskOf.l1 : Nat → List (List (S52)) → Bool → Int → Int → Int → Int → Int → Int → Int → Int → Int → Int → List Int → Option (Int × Int × Int × Int × List Int)
 | 0, _, _, _, _, _, _, _, _, _, _, _, _, _ => none
 | k + 1, x0, x1, x8, x9, x241000, x241001, x241002, x241003, x244000, x244001, x244002, x244003, x244004 => if x9 < x241002 then ((spec_MaskAt.f k x0 x1 x9 x8).bind fun t244 => (if x244004.length < 17592186044416 then (spec_MaskOf.l1 k x0 x1 x8 (wrap64 (x9 + 1)) x241000 x241001 x241002 x241003 x244000 x244001 x244002 x244003 (x244004 ++ [t244])) else (none))) else (spec_MaskOf.l0 k x0 x1 (wrap64 (x8 + 1)) x241000 x241001 x241002 x241003 x244000 x244001 x244002 x244003 x244004)
end
def spec_MaskOf.f (k : Nat) (l0 : List (List (S52))) (a1 : Bool) (a2_0 : Int) (a2_1 : Int) (a2_2 : Int) (a2_3 : Int) : Option (Int × Int × Int × Int × List Int) := (spec_l11Box.f a2_0 a2_1 a2_2 a2_3).bind fun t242 => (if t242 = true then (spec_MaskOf.l0 k l0 a1 a2_1 a2_0 a2_1 a2_2 a2_3 a2_0 a2_1 a2_2 a2_3 ([] : List Int)) else (some (0, 0, 0, 0, ([] : List Int))))
theorem spec_MaskOf.mono_l : ∀ k, (∀ y0 y1 y2 y3 y4 y5 y6 y7 y8 y9 y10 y11, LeO (spec_MaskOf.l0 k y0 y1 y2 y3 y4 y5 y6 y7 y8 y9 y10 y11) (spec_MaskOf.l0 (k + 1) y0 y1 y2 y3 y4 y5 y6 y7 y8 y9 y10 y11)) ∧ (∀ y0 y1 y2 y3 y4 y5 y6 y7 y8 y9 y10 y11 y12, LeO (spec_MaskOf.l1 k y0 y1 y2 y3 y4 y5 y6 y7 y8 y9 y10 y11 y12) (spec_MaskOf.l1 (k + 1) y0 y1 y2 y3 y4 y5 y6 y7 y8 y9 y10 y11 y12))
 | 0 => ⟨fun _ _ _ _ _ _ _ _ _ _ _ _ r h => by simp [spec_MaskOf.l0] at h, fun _ _ _ _ _ _ _ _ _ _ _ _ _ r h => by simp [spec_MaskOf.l1] at h⟩
 | k + 1 => by
  obtain ⟨ih0, ih1⟩ := spec_MaskOf.mono_l k
  refine ⟨?_, ?_⟩
  ·intro y0 y1 y2 y3 y4 y5 y6 y7 y8 y9 y10 y11
   unfold spec_MaskOf.l0
   with_reducible repeat' first | apply ih0 | apply ih1 | apply spec_MaskAt.mono | exact LeO.refl _ | exact LeO.none _ | refine LeO.ite ?_ ?_ | refine LeO.bind ?_ (fun _ => ?_)
  ·intro y0 y1 y2 y3 y4 y5 y6 y7 y8 y9 y10 y11 y12
   unfold spec_MaskOf.l1
   with_reducible repeat' first | apply ih0 | apply ih1 | apply spec_MaskAt.mono | exact LeO.refl _ | exact LeO.none _ | refine LeO.ite ?_ ?_ | refine LeO.bind ?_ (fun _ => ?_)
theorem spec_MaskOf.mono : ∀ a0 a1 a2 a3 a4 a5 k, LeO (spec_MaskOf.f k a0 a1 a2 a3 a4 a5) (spec_MaskOf.f (k + 1) a0 a1 a2 a3 a4 a5) := by
 intro a0 a1 a2 a3 a4 a5 k; obtain ⟨ih0, ih1⟩ := spec_MaskOf.mono_l k
 unfold spec_MaskOf.f
 with_reducible repeat' first | apply ih0 | apply ih1 | apply spec_MaskAt.mono | exact LeO.refl _ | exact LeO.none _ | refine LeO.ite ?_ ?_ | refine LeO.bind ?_ (fun _ => ?_)
def spec_MaskOf.T10 : Bool × List (List Nat × List Nat) := (true, [([], []), ([0], [0]), ([], []), ([], []), ([], []), ([], []), ([2, 3, 4, 5], [2, 3, 4, 5]), ([6], [6]), ([1, 7, 6], [1, 7]), ([0, 1, 2, 3, 4, 5, 6, 7, 8], []), ([9, 8, 8, 0, 1, 2, 3, 4, 5, 6, 7, 8], [8, 9])])
def spec_MaskOf.B10 : List Nat := [0, 1, 0, 0, 0, 0, 60, 124, 255, 511, 1023]
theorem spec_MaskOf.tab10 : rtab .any (opsOf Try.f33 10) = spec_MaskOf.T10 := by kernel_rfl
theorem spec_MaskOf.bits10 : waitsOk spec_MaskOf.T10.2 spec_MaskOf.B10 = true := by kernel_rfl
set_option maxHeartbeats 8000000 in
set_option maxRecDepth 100000 in
theorem spec_MaskOf.calls (k : Nat) (A0 : Option Addr) (c0 : Nat) (l0 : List (List (S52))) (a1 : Bool) (a2_0 : Int) (a2_1 : Int) (a2_2 : Int) (a2_3 : Int) (r1 : Int) (r2 : Int) (r3 : Int) (r4 : Int) (r5 : List Int) (w : World) (hr0 : Kd.C (Kd.slice 52 k52) w A0 l0.length l0) (hc0 : l0.length ≤ c0) (h : spec_MaskOf.f k l0 a1 a2_0 a2_1 a2_2 a2_3 = some (r1, r2, r3, r4, r5)) :
  Calls Try.prog 33 #[.slice A0 l0.length c0, .bool a1, .agg #[.int .i64 a2_0, .int .i64 a2_1, .int .i64 a2_2, .int .i64 a2_3]] w fun e w' => ∃ v4_ : Value, e = .returned (.agg #[.int .i64 r1, .int .i64 r2, .int .i64 r3, .int .i64 r4, v4_]) ∧ Kd.R (Kd.int .i64) 3 w' w.heap.size (fun _ => True) v4_ r5 ∧ Below w.heap.size w w' := by
 have hu63 := Try.underlying63; have hu65 := Try.underlying65; have HR0 := mk0 hr0; have HC0 := mk0 hc0; clear hr0 hc0; have HB := mk0 (Below.refl w.heap.size w)
 have H := h; unfold spec_MaskOf.f at H
 clear h; obtain ⟨t242, A4, H⟩ := bnd H
 try dsimp only at H
 by_cases c5 : t242 = true
 rotate_left
 ·replace c5 := Bool.eq_false_iff.mpr c5; subst c5; rw [if_neg (show ¬ (false = true) by decide)] at H
  simp only [Option.some.injEq, Prod.mk.injEq] at H; obtain ⟨rfl, rfl, rfl, rfl, rfl⟩ := H
  go_enter Try.func33, Try.ntmps33
  go_wp2_with (first | ((with_reducible refine gate_dst (N := 5) rfl ?_); refine boxz (cs := #[.int .i64 a2_0, .int .i64 a2_1, .int .i64 a2_2, .int .i64 a2_3]) (t := 63) rfl ?_; intro gb240 hg w42 hbox hb; have GW240 := mk0 (ge_go (a := w.heap.size) hg (below_size q_149)); have GE240 := GW240; replace HB := bS q_149 hb; have BK240 := mk0 (hbox); clear hb hbox hg) | ((with_reducible refine gate_dst (N := 6) rfl ?_); refine boxz (cs := #[.int .i64 0, .int .i64 0, .int .i64 0, .int .i64 0, .slice none 0 0]) (t := 65) rfl ?_; intro gb241 hg w43 hbox hb; have GW241 := mk0 (ge_go (a := w.heap.size) hg (below_size z11_14)); have GE241 := GW241; have NB240_241 := mk0 (nb_lt hg (blk_ltB BK240 (pkb BK240))); have NB241_240 := mk0 (nb_gt hg (blk_ltB BK240 (pkb BK240))); replace BK240 := bB BK240 hb; replace HB := bS z11_14 hb; have BK241 := mk0 (hbox); clear hb hbox hg; have hnb44 := NB240_241.out; have hnc44 := NB241_240.out; obtain ⟨_, _, _, _, _, _, _, _⟩ := be_4 BK240.out) | ((with_reducible refine gate_callee (f := 100) rfl ?_); refine gl_ (some 11) Try.func100 #[.agg #[.int .i64 a2_0, .int .i64 a2_1, .int .i64 a2_2, .int .i64 a2_3]] rfl q_0 ?_; (with_reducible refine (spec_l11Box.calls a2_0 a2_1 a2_2 a2_3 false _ A4.out).mono ?_); rintro e w46 ⟨rfl, hb⟩; refine ⟨_, rfl, ?_⟩; replace BK240 := bB BK240 hb; replace BK241 := bB BK241 hb; replace HB := bS z11_13 hb; clear hb; obtain ⟨_, _, _, _, _, _, _, _, _, _⟩ := be_5 BK241.out))
  refine bodyPost_ret (results_cell_row rfl _ _ gb241 65 #[.int .i64 0, .int .i64 0, .int .i64 0, .int .i64 0, .slice none 0 0] (0, 0) _ rfl z11_18 Try.underlying65 rfl (by kernel_rfl)) rfl ?_
  exact ⟨_, q_71, q_70, z11_13⟩
 subst c5; rw [if_pos rfl] at H
 have H' := mk0 H
 clear H; go_enter Try.func33, Try.ntmps33
 go_wp2_with (first | ((with_reducible refine gate_dst (N := 5) rfl ?_); refine boxz (cs := #[.int .i64 a2_0, .int .i64 a2_1, .int .i64 a2_2, .int .i64 a2_3]) (t := 63) rfl ?_; intro gb240 hg w6 hbox hb; have GW240 := mk0 (ge_go (a := w.heap.size) hg (below_size q_149)); have GE240 := GW240; replace HB := bS q_149 hb; have BK240 := mk0 (hbox); clear hb hbox hg) | ((with_reducible refine gate_dst (N := 6) rfl ?_); refine boxz (cs := #[.int .i64 0, .int .i64 0, .int .i64 0, .int .i64 0, .slice none 0 0]) (t := 65) rfl ?_; intro gb241 hg w7 hbox hb; have GW241 := mk0 (ge_go (a := w.heap.size) hg (below_size z11_14)); have GE241 := GW241; have NB240_241 := mk0 (nb_lt hg (blk_ltB BK240 (pkb BK240))); have NB241_240 := mk0 (nb_gt hg (blk_ltB BK240 (pkb BK240))); replace BK240 := bB BK240 hb; replace HB := bS z11_14 hb; have BK241 := mk0 (hbox); clear hb hbox hg; have hnb8 := NB240_241.out; have hnc8 := NB241_240.out; obtain ⟨_, _, _, _, _, _, _, _⟩ := be_4 BK240.out) | ((with_reducible refine gate_callee (f := 100) rfl ?_); refine gl_ (some 11) Try.func100 #[.agg #[.int .i64 a2_0, .int .i64 a2_1, .int .i64 a2_2, .int .i64 a2_3]] rfl q_0 ?_; (with_reducible refine (spec_l11Box.calls a2_0 a2_1 a2_2 a2_3 true _ A4.out).mono ?_); rintro e w10 ⟨rfl, hb⟩; refine ⟨_, rfl, ?_⟩; replace BK240 := bB BK240 hb; replace BK241 := bB BK241 hb; replace HB := bS z11_13 hb; clear hb; obtain ⟨_, _, _, _, _, _, _, _⟩ := be_4 BK240.out) | ((with_reducible refine gate_dst (N := 7) rfl ?_); refine boxz (cs := #[.int .i64 0, .int .i64 0, .int .i64 0, .int .i64 0, .slice none 0 0]) (t := 65) rfl ?_; intro gb243 hg w12 hbox hb; have GW243 := mk0 (ge_go (a := w.heap.size) hg (below_size z11_13)); have GE243 := GW243; have NB240_243 := mk0 (nb_lt hg (blk_ltB BK240 (pkb BK240))); have NB243_240 := mk0 (nb_gt hg (blk_ltB BK240 (pkb BK240))); have NB241_243 := mk0 (nb_lt hg (blk_ltB BK241 (pkb BK241))); have NB243_241 := mk0 (nb_gt hg (blk_ltB BK241 (pkb BK241))); replace BK240 := bB BK240 hb; replace BK241 := bB BK241 hb; replace HB := bS z11_13 hb; have BK243 := mk0 (hbox); clear hb hbox hg; have hnb13 := NB243_240.out; have hnc13 := NB240_243.out; have hnb14 := NB243_241.out; have hnc14 := NB241_243.out; obtain ⟨_, _, _, _, _, _, _, _, _, _⟩ := be_5 BK243.out; obtain ⟨_, _, _, _, _, _, _, _⟩ := be_4 BK240.out))
 go_loopg [8] k (fun kq v8 w' => ∃ (x8_1 : Int) (x244004_1 : List Int) (u244004 : Value), v8 = .int .i64 x8_1 ∧ Aside0 (spec_MaskOf.l0 kq l0 a1 x8_1 a2_0 a2_1 a2_2 a2_3 a2_0 a2_1 a2_2 a2_3 x244004_1 = some (r1, r2, r3, r4, r5)) ∧ Aside0 (kq ≤ k) ∧ Aside0 (Kd.R (Kd.int .i64) 3 w' w.heap.size (fun _ => True) u244004 x244004_1) ∧ Aside0 (w'.heap[gb240]? = some (.cells #[.int .i64 a2_0, .int .i64 a2_1, .int .i64 a2_2, .int .i64 a2_3] 63 (0, 0))) ∧ Aside0 (w'.heap[gb241]? = some (.cells #[.int .i64 0, .int .i64 0, .int .i64 0, .int .i64 0, (.slice none 0 0)] 65 (0, 0))) ∧ Aside0 (w'.heap[gb243]? = some (.cells #[.int .i64 a2_0, .int .i64 a2_1, .int .i64 a2_2, .int .i64 a2_3, u244004] 65 (0, 0))) ∧ Aside0 (Below w.heap.size w w'))
 case atStart => exact ⟨(a2_1), (([] : List Int)), (.slice none 0 0), rs0, H', ⟨Nat.le_refl _⟩, ⟨q_70⟩, ⟨(by (with_reducible repeat (first | refine blk_drewN ?_ _ | refine blk_drew ?_ | refine blk_alloc ?_ _ | refine blk_far ?_ NB240_243.out _)); exact BK240.out)⟩, ⟨(by (with_reducible repeat (first | refine blk_drewN ?_ _ | refine blk_drew ?_ | refine blk_alloc ?_ _ | refine blk_far ?_ NB241_243.out _)); exact BK241.out)⟩, ⟨(by (with_reducible repeat (first | refine blk_drewN ?_ _ | refine blk_drew ?_ | refine blk_alloc ?_ _)); refine blk_put (cs := #[.int .i64 a2_0, .int .i64 a2_1, .int .i64 a2_2, .int .i64 a2_3, .slice none 0 0]) ?_ 4 _ rfl; (with_reducible repeat (first | refine blk_drewN ?_ _ | refine blk_drew ?_ | refine blk_alloc ?_ _)); refine blk_put (cs := #[.int .i64 a2_0, .int .i64 a2_1, .int .i64 a2_2, .int .i64 0, .slice none 0 0]) ?_ 3 _ rfl; (with_reducible repeat (first | refine blk_drewN ?_ _ | refine blk_drew ?_ | refine blk_alloc ?_ _)); refine blk_put (cs := #[.int .i64 a2_0, .int .i64 a2_1, .int .i64 0, .int .i64 0, .slice none 0 0]) ?_ 2 _ rfl; (with_reducible repeat (first | refine blk_drewN ?_ _ | refine blk_drew ?_ | refine blk_alloc ?_ _)); refine blk_put (cs := #[.int .i64 a2_0, .int .i64 0, .int .i64 0, .int .i64 0, .slice none 0 0]) ?_ 1 _ rfl; (with_reducible repeat (first | refine blk_drewN ?_ _ | refine blk_drew ?_ | refine blk_alloc ?_ _)); refine blk_put (cs := #[.int .i64 0, .int .i64 0, .int .i64 0, .int .i64 0, .slice none 0 0]) ?_ 0 _ rfl; (with_reducible repeat (first | refine blk_drewN ?_ _ | refine blk_drew ?_ | refine blk_alloc ?_ _)); exact BK243.out)⟩, ⟨z11_6⟩⟩
 case round =>
  clear H'
  try clear c5
  obtain ⟨x8_1, x244004_1, u244004, rfl, HA, HK1, HO_244004, BK240, BK241, BK243, HB⟩ := hrel
  cases gk with
  | zero => exact absurd HA.out (by simp [spec_MaskOf.l0])
  | succ k1 =>
   have H := HA.out; clear HA; simp only [spec_MaskOf.l0] at H
   by_cases c17 : x8_1 < a2_3
   rotate_left
   ·rw [if_neg c17] at H; have c17b0 := decide_eq_false c17; clear c17; simp only [Option.some.injEq, Prod.mk.injEq] at H; obtain ⟨rfl, rfl, rfl, rfl, rfl⟩ := H; have hnb35 := NB240_241.out; have hnc35 := NB241_240.out; have hnb36 := NB240_243.out; have hnc36 := NB243_240.out; obtain ⟨_, _, _, _, _, _, _, _⟩ := be_4 BK240.out; have hnb38 := NB243_241.out; have hnc38 := NB241_243.out; obtain ⟨_, _, _, _, _, _, _, _, _, _⟩ := be_5 BK243.out; obtain ⟨_, _, _, _, _, _, _, _, _, _⟩ := be_5 BK241.out; obtain ⟨Ao41, co41, eo41⟩ := Kd.R_slice HO_244004.out; subst eo41
    go_wp2
    refine bodyPost_ret (results_cell_row rfl _ _ gb241 65 #[.int .i64 a2_0, .int .i64 a2_1, .int .i64 a2_2, .int .i64 a2_3, .slice Ao41 x244004_1.length co41] (0, 0) _ rfl z11_18 Try.underlying65 rfl (by kernel_rfl)) rfl ?_
    exact ⟨_, q_71, (by (with_reducible repeat (first | apply Kd.R_alloc | apply Kd.R_drewN | apply Kd.R_drew)); exact Kd.R_mono (R_f5 (Kd.R_types HO_244004.out BK241.out (by decide)) (fun _ hk => hk.2)) (fun _ hk => trivial)), z11_6⟩
   rw [if_pos c17] at H; have c17b0 := decide_eq_true c17; clear c17
   have H' := mk0 H
   clear H; have hnb18 := NB240_241.out; have hnc18 := NB241_240.out; have hnb19 := NB240_243.out; have hnc19 := NB243_240.out; obtain ⟨_, _, _, _, _, _, _, _⟩ := be_4 BK240.out
   go_wp2
   go_loopg [9] k1 (fun kq v9 w' => ∃ (x9_2 : Int) (x244004_2 : List Int) (u244004 : Value), v9 = .int .i64 x9_2 ∧ Aside0 (spec_MaskOf.l1 kq l0 a1 x8_1 x9_2 a2_0 a2_1 a2_2 a2_3 a2_0 a2_1 a2_2 a2_3 x244004_2 = some (r1, r2, r3, r4, r5)) ∧ Aside0 (kq ≤ k1) ∧ Aside0 (Kd.R (Kd.int .i64) 3 w' w.heap.size (fun _ => True) u244004 x244004_2) ∧ Aside0 (w'.heap[gb240]? = some (.cells #[.int .i64 a2_0, .int .i64 a2_1, .int .i64 a2_2, .int .i64 a2_3] 63 (0, 0))) ∧ Aside0 (w'.heap[gb241]? = some (.cells #[.int .i64 0, .int .i64 0, .int .i64 0, .int .i64 0, (.slice none 0 0)] 65 (0, 0))) ∧ Aside0 (w'.heap[gb243]? = some (.cells #[.int .i64 a2_0, .int .i64 a2_1, .int .i64 a2_2, .int .i64 a2_3, u244004] 65 (0, 0))) ∧ Aside0 (Below w.heap.size w w'))
   case atStart => exact ⟨(a2_0), (x244004_1), (u244004), rs0, H', ⟨Nat.le_refl _⟩, ⟨pkR HO_244004⟩, ⟨pkb BK240⟩, ⟨pkb BK241⟩, ⟨pkb BK243⟩, ⟨z11_6⟩⟩
   case round =>
    clear H'; (try clear c17b0); obtain ⟨x9_2, x244004_2, u244004, rfl, HA, HK2, HO_244004, BK240, BK241, BK243, HB⟩ := hrel
    cases gk with
    | zero => exact absurd HA.out (by simp [spec_MaskOf.l1])
    | succ k2 =>
     have H := HA.out; clear HA; simp only [spec_MaskOf.l1] at H
     by_cases c21 : x9_2 < a2_2
     rotate_left
     ·rw [if_neg c21] at H; have c21b0 := decide_eq_false c21; clear c21
      have H' := mk0 H
      clear H; have hnb32 := NB240_241.out; have hnc32 := NB241_240.out; have hnb33 := NB240_243.out; have hnc33 := NB243_240.out; obtain ⟨_, _, _, _, _, _, _, _⟩ := be_4 BK240.out
      go_wp2
      go_roundg k2
      case measure => have := HK1.out; have := HK2.out; omega
      case rel => exact ⟨(wrap64 (x8_1 + 1)), (x244004_2), (u244004), rs0, H', ⟨(by have := HK1.out; have := HK2.out; omega)⟩, ⟨pkR HO_244004⟩, ⟨pkb BK240⟩, ⟨pkb BK241⟩, ⟨pkb BK243⟩, ⟨z11_6⟩⟩
     rw [if_pos c21] at H; have c21b0 := decide_eq_true c21; clear c21; obtain ⟨t244, A22, H⟩ := bnd H
     try dsimp only at H
     by_cases c23 : x244004_2.length < 17592186044416
     rotate_left
     ·rw [if_neg c23] at H
      exact absurd H (by simp)
     rw [if_pos c23] at H; have LMc23 := mk0 c23; clear c23
     obtain ⟨y245, hy_⟩ : ∃ y_ : List Int, y_ = (x244004_2 ++ [t244]) := ⟨_, rfl⟩
     replace H : (spec_MaskOf.l1 k2 l0 a1 x8_1 (wrap64 (x9_2 + 1)) a2_0 a2_1 a2_2 a2_3 a2_0 a2_1 a2_2 a2_3 y245) = some (r1, r2, r3, r4, r5) := q_69
     have Ny245 := mk0 hy_; clear hy_
     have H' := mk0 H
     clear H; have hnb24 := NB240_241.out; have hnc24 := NB241_240.out; have hnb25 := NB240_243.out; have hnc25 := NB243_240.out; obtain ⟨_, _, _, _, _, _, _, _⟩ := be_4 BK240.out
     try go_wp2
     replace HO_244004 := mk0 (Kd.R_drew HO_244004.out); replace BK240 := mk0 (blk_drew BK240.out); replace BK241 := mk0 (blk_drew BK241.out); replace BK243 := mk0 (blk_drew BK243.out); replace HB := mk0 (below_drew1 HB.out)
     refine start_ (n := 11) (S := fun w' => w'.cell? ⟨gb243, 0, none⟩ = some (.int .i64 a2_0) ∧ w'.cell? ⟨gb243, 1, none⟩ = some (.int .i64 a2_1) ∧ w'.cell? ⟨gb243, 2, none⟩ = some (.int .i64 a2_2) ∧ w'.cell? ⟨gb243, 3, none⟩ = some (.int .i64 a2_3) ∧ w'.cell? ⟨gb243, 4, none⟩ = some (u244004)) (ds := [10]) #[false, false, false, false, false, false, false, false, false, false, false] (by kernel_rfl) rfl rfl ⟨(blk_cell BK243.out 0).trans rfl, (blk_cell BK243.out 1).trans rfl, (blk_cell BK243.out 2).trans rfl, (blk_cell BK243.out 3).trans rfl, (blk_cell BK243.out 4).trans rfl⟩ (fun hHeld => ?_); refine with_tabW spec_MaskOf.tab10 spec_MaskOf.bits10 (fun HT_ HW_ => ?_)
     generalize wr.drew = w27 at HO_244004 BK240 BK241 BK243 HB hHeld ⊢
     refine pzx (i := 0) (N := 32) (bA 11 1) HT_ ?_; refine pzx (i := 2) (N := 34) (bA 11 5) HT_ ?_; refine pzx (i := 3) (N := 35) (bA 11 13) HT_ ?_; refine pzx (i := 4) (N := 36) (bA 11 29) HT_ ?_; refine pzx (i := 5) (N := 37) (bA 11 61) HT_ ?_
     refine take_ (i := 1) (N := some 33) (v := ?_) (a' := ?_) (bA 11 63) rfl rfl (take_ofW HT_.out HW_.out (by kernel_rfl)) (fun _ _ _ h => h) (Or.inl ⟨by rfl, ?_⟩) hHeld ?_ ?_
     rotate_left
     ·rintro w' ⟨s0, s1, s2, s3, s4⟩
      go_simp; with_reducible rfl
     rotate_left
     ·exact x11_put
     refine one_ (i := 6) (N := some 38) (bA 11 127) rfl rfl (one_of HT_.out (by kernel_rfl)) (by decide) (fun K hK => ?_)
     refine goes_ Try.func34 (by kernel_rfl) rfl #[.slice A0 l0.length c0, .bool a1, .int .i64 x9_2, .int .i64 x8_1] (by rfl) rfl rfl q_0 ?_
     with_reducible refine (spec_MaskAt.calls k2 _ _ l0 a1 x9_2 x8_1 t244 _ ?side1 ?side2 A22.out).mono ?_
     (case side1 => repeat (first | exact (Kd.C_below HR0.out HB.out) | (with_reducible refine Kd.C_alloc ?_ _) | (with_reducible refine Kd.C_drewN ?_ _) | (with_reducible refine Kd.C_drew ?_)))
     (case side2 => exact HC0.out)
     rintro e w28 ⟨rfl, hb⟩
     refine ⟨_, rfl, ?_⟩
     replace HO_244004 := bR HO_244004 hb; replace BK240 := bB BK240 hb; replace BK241 := bB BK241 hb; replace BK243 := bB BK243 hb; replace HB := bS z11_6 hb; (try clear hb); (try clear hb2); (try clear hk); (try clear hi); refine hK.out _ _ ⟨(blk_cell BK243.out 0).trans rfl, (blk_cell BK243.out 1).trans rfl, (blk_cell BK243.out 2).trans rfl, (blk_cell BK243.out 3).trans rfl, (blk_cell BK243.out 4).trans rfl⟩ (fun hHeld => ?_); clear hK K
     refine norm_ (a' := ?_) ?_ ?_
     rotate_left
     ·show Act.put _ (some 38) _ = _
      simp only [Act.put, List.setIfInBounds_toArray, List.set_cons_zero, List.set_cons_succ, i64_w, i32_w]
      rfl
     refine one_ (i := 7) (N := some 39) (bA 11 255) rfl rfl (one_of HT_.out (by kernel_rfl)) (by decide) (fun K hK => ?_)
     refine value_ (w1 := ?_) (v := ?_) (by rfl) rfl ?_ ?_
     rotate_left 2
     ·go_simp
      constructor
      ·rfl
      rfl
     refine hK.out _ _ ⟨(blk_cell (blk_alloc BK243.out _) 0).trans rfl, (blk_cell (blk_alloc BK243.out _) 1).trans rfl, (blk_cell (blk_alloc BK243.out _) 2).trans rfl, (blk_cell (blk_alloc BK243.out _) 3).trans rfl, (blk_cell (blk_alloc BK243.out _) 4).trans rfl⟩ (fun hHeld => ?_); clear hK K
     refine norm_ (a' := ?_) ?_ ?_
     rotate_left
     ·show Act.put _ (some 39) _ = _
      simp only [Act.put, List.setIfInBounds_toArray, List.set_cons_zero, List.set_cons_succ, i64_w, i32_w]
      rfl
     refine one_ (i := 8) (N := some 40) (bA 11 511) rfl rfl (one_of HT_.out (by kernel_rfl)) (by decide) (fun K hK => ?_)
     refine Kd.R_append_step (Kd.int .i64) (w0 := w) w.heap.size (by rfl) (.tmp 33) (.tmp 39) 22 3 (.int .i64 0) 8 rfl Try.underlying22 info3 rfl (by decide) (by omega) u244004 x244004_2 t244 [.int .i64 t244] (fun _ => True) (fun _ => False) rfl rfl ?aP (fun _ hk => hk.elim) ?aF ?aO ?aB ?aS ?aL ?_
     (case aP => exact rfl)
     (case aB => exact z11_6)
     (case aF => exact (fun _ _ => trivial))
     (case aO => exact (pkR HO_244004))
     (case aS => exact (below_size z11_6))
     (case aL => have := LMc23.out; omega)
     intro v246 w29 ho hb hg hat; rw [← Ny245.out] at ho
     replace BK240 := mk0 (blk_grown (g := gb240) (o := .cells #[.int .i64 a2_0, .int .i64 a2_1, .int .i64 a2_2, .int .i64 a2_3] 63 (0, 0)) (pkb BK240) hg (Kd.R_ne HO_244004.out BK240.out (by decide)))
     replace BK241 := mk0 (blk_grown (g := gb241) (o := .cells #[.int .i64 0, .int .i64 0, .int .i64 0, .int .i64 0, .slice none 0 0] 65 (0, 0)) (pkb BK241) hg (Kd.R_ne HO_244004.out BK241.out (by decide)))
     replace BK243 := mk0 (blk_grown (g := gb243) (o := .cells #[.int .i64 a2_0, .int .i64 a2_1, .int .i64 a2_2, .int .i64 a2_3, u244004] 65 (0, 0)) (pkb BK243) hg (Kd.R_ne HO_244004.out BK243.out (by decide)))
     replace HB := mk0 (hb); have HO247 := mk0 (ho); clear HO_244004 ho hb hg hat; obtain ⟨Ao30, co30, eo30⟩ := Kd.R_slice HO247.out
     (first | subst eo30 | (injection eo30 with f1_ f2_ f3_; have f4_ := f1_.symm; have f5_ := f3_.symm; clear f1_ f2_ f3_; subst f4_; subst f5_))
     refine hK.out _ _ ⟨(blk_cell BK243.out 0).trans rfl, (blk_cell BK243.out 1).trans rfl, (blk_cell BK243.out 2).trans rfl, (blk_cell BK243.out 3).trans rfl, (blk_cell BK243.out 4).trans rfl⟩ (fun hHeld => ?_); clear hK K
     refine norm_ (a' := ?_) ?_ ?_
     rotate_left
     ·show Act.put _ (some 40) _ = _
      simp only [Act.put, List.setIfInBounds_toArray, List.set_cons_zero, List.set_cons_succ, i64_w, i32_w]
      rfl
     refine pzx (i := 9) (N := 41) (bA 11 1023) HT_ ?_
     refine last_ (i := 10) (N := none) (bA 11 2047) rfl rfl (one_of HT_.out (by kernel_rfl)) (by decide) (fun K hK => ?_)
     have hs31 : w29.cell? ⟨gb243, 4, none⟩ = some (u244004) := (blk_cell BK243.out 4).trans rfl
     have hfs31 := blk_frozen BK243.out 4; have hns31_0 := NB240_243.out; have hns31_1 := NB241_243.out; have hms31_0 := NB243_240.out; have hms31_1 := NB243_241.out
     refine skip_ (w1 := ?_) ?hwx ?hN ?_ ?_; (case hwx => rfl); (case hN => rfl)
     rotate_left
     ·go_simp
      rfl
     refine hK.out _ _ ?_; clear hK K
     refine done_ (done_of HT_.out (by kernel_rfl)) ?_
     try go_wp2
     go_roundg k2
     case measure => have := HK1.out; have := HK2.out; omega
     case rel => exact ⟨(wrap64 (x9_2 + 1)), (y245), (.slice Ao30 y245.length co30), rs0, H', ⟨(by have := HK1.out; have := HK2.out; omega)⟩, ⟨(by (with_reducible repeat (first | apply Kd.R_alloc | apply Kd.R_drewN | apply Kd.R_drew)); exact Kd.R_mono (Kd.R_far (p := ⟨gb243, 4, none⟩) (Kd.R_types HO247.out BK243.out (by decide)) (fun _ hk => hk.2) (.slice Ao30 y245.length co30)) (fun _ hk => trivial))⟩, ⟨(by (with_reducible repeat (first | refine blk_drewN ?_ _ | refine blk_drew ?_ | refine blk_alloc ?_ _ | refine blk_far ?_ NB240_243.out _)); exact BK240.out)⟩, ⟨(by (with_reducible repeat (first | refine blk_drewN ?_ _ | refine blk_drew ?_ | refine blk_alloc ?_ _ | refine blk_far ?_ NB241_243.out _)); exact BK241.out)⟩, ⟨(by (with_reducible repeat (first | refine blk_drewN ?_ _ | refine blk_drew ?_ | refine blk_alloc ?_ _)); refine blk_put (cs := #[.int .i64 a2_0, .int .i64 a2_1, .int .i64 a2_2, .int .i64 a2_3, u244004]) ?_ 4 _ rfl; (with_reducible repeat (first | refine blk_drewN ?_ _ | refine blk_drew ?_ | refine blk_alloc ?_ _)); exact BK243.out)⟩, ⟨z11_6⟩⟩

/-! ### spec_l01Byte: function 136 -/
def spec_l01Byte.f (s0_0 : List Int) (s0_1 : Int) (s0_2 : Int) : Option (Int × Int × Int) := if s0_1 < (s0_0.length : Int) then (if 0 ≤ s0_1 then (some (Go.bits .and .i64 (wrap64 ((Go.bits .and .i64 (Go.bits .xor .i64 ((wrap64 ((wrap64 (s0_2 * 6364136223846793005)) + 1442695040888963407)) / 8589934592) ((wrap64 ((wrap64 (s0_2 * 6364136223846793005)) + 1442695040888963407)) / 35184372088832)) 255) + (wrap64 (rd s0_0 s0_1)))) 255, wrap64 (s0_1 + 1), wrap64 ((wrap64 (s0_2 * 6364136223846793005)) + 1442695040888963407))) else (none)) else (some (Go.bits .and .i64 (Go.bits .xor .i64 ((wrap64 ((wrap64 (s0_2 * 6364136223846793005)) + 1442695040888963407)) / 8589934592) ((wrap64 ((wrap64 (s0_2 * 6364136223846793005)) + 1442695040888963407)) / 35184372088832)) 255, s0_1, wrap64 ((wrap64 (s0_2 * 6364136223846793005)) + 1442695040888963407)))
set_option maxHeartbeats 8000000 in
set_option maxRecDepth 100000 in
theorem spec_l01Byte.calls (g : Nat) (s0_0 : List Int) (s0_1 : Int) (s0_2 : Int) (r1 : Int) (r2 : Int) (r3 : Int) (w0 w : World) (hI : IsS152 w0 w g s0_0 s0_1 s0_2) (hB : Below w0.heap.size w0 w) (h : spec_l01Byte.f s0_0 s0_1 s0_2 = some (r1, r2, r3)) :
  Calls Try.prog 136 #[.pointer (some ⟨g, 0, none⟩)] w fun e w' => e = .returned (.int .i64 r1) ∧ IsS152 w0 w' g s0_0 r2 r3 ∧ Below w0.heap.size w0 w' ∧ KeepBut w w' g none := by
 have HI0 := mk0 hI; have HK := mk0 (KeepBut.refl w g none); have HL := mk0 hB.size; clear hI; have HW0 := mk0 hB.size; have HB := mk0 hB; clear hB
 have H := h; unfold spec_l01Byte.f at H
 clear h
 by_cases c2 : s0_1 < (s0_0.length : Int)
 rotate_left
 ·rw [if_neg c2] at H; have c2b0 := decide_eq_false c2; clear c2; simp only [Option.some.injEq, Prod.mk.injEq] at H; obtain ⟨rfl, rfl, rfl⟩ := H; obtain ⟨ASz5_0, cSz5_0, HGz5, hgz5, HSz5_0⟩ := HI0.out; have hcz5_0 := cellS152_0 HGz5; have hcz5_1 := cellS152_1 HGz5; have hcz5_2 := cellS152_2 HGz5; have hfz5_1 := blk_frozen HGz5 1; have hfz5_2 := blk_frozen HGz5 2; clear HGz5 hgz5; go_enter Try.func136, Try.ntmps136
  go_wp2
  repeat (go_quiet (fail); try go_wp2)
  go_ret
  exact ⟨q_71, q_159, q_86, q_171⟩
 rw [if_pos c2] at H; have c2b0 := decide_eq_true c2; clear c2
 by_cases c3 : 0 ≤ s0_1
 rotate_left
 ·rw [if_neg c3] at H
  exact absurd H (by simp)
 rw [if_pos c3] at H; have c3b0 := decide_eq_true c3; clear c3; simp only [Option.some.injEq, Prod.mk.injEq] at H; obtain ⟨rfl, rfl, rfl⟩ := H; obtain ⟨ASz4_0, cSz4_0, HGz4, hgz4, HSz4_0⟩ := HI0.out; have hcz4_0 := cellS152_0 HGz4; have hcz4_1 := cellS152_1 HGz4; have hcz4_2 := cellS152_2 HGz4; have hfz4_1 := blk_frozen HGz4 1; have hfz4_2 := blk_frozen HGz4 2; clear HGz4 hgz4
 have p248 : 0 ≤ (s0_1 : Int) := of_decide_eq_true (by first | (with_reducible assumption) | assumption)
 have q248 : s0_1 < (s0_0.length : Int) := of_decide_eq_true (by first | (with_reducible assumption) | assumption)
 obtain ⟨ad248, e248, hx248_0⟩ := Kd.at_int HSz4_0 s0_1 p248 q248
 cases e248
 have hn248_0 : ad248.block ≠ g := Nat.ne_of_lt (Nat.lt_of_lt_of_le (by have := World.block_lt_of_cell? _ _ hx248_0; first | rwa [add_block] at this | exact this) (IsS152.ge HI0.out))
 replace hx248_0 := pw_cell_below HB.out hx248_0
 replace hx248_0 := (cell_far (p := ⟨g, 2, none⟩) (by first | (rw [add_block]; exact hn248_0) | (show (Addr.add _ _).block ≠ _; rw [add_block]; exact hn248_0) | exact hn248_0) (.int .i64 (wrap64 ((wrap64 (s0_2 * 6364136223846793005)) + 1442695040888963407)))).trans hx248_0
 (try have hy248_0 := fun (n_ : Nat) => (show (((w.drewN n_).setCell ⟨g, 2, none⟩ (.int .i64 (wrap64 ((wrap64 (s0_2 * 6364136223846793005)) + 1442695040888963407))))).cell? _ = some _ from hx248_0))
 clear hn248_0; replace p248 := eq_true p248; replace q248 := eq_true q248; go_enter Try.func136, Try.ntmps136
 go_wp2
 repeat (go_quiet (fail); try go_wp2)
 go_ret
 exact ⟨q_71, q_159, q_86, q_171⟩

/-! ### spec_l01Below: function 94 -/
def spec_l01Below.f (s0_0 : List Int) (s0_1 : Int) (s0_2 : Int) (a1 : Int) : Option (Int × Int × Int) := if a1 ≤ 0 then (some (0, s0_1, s0_2)) else (if a1 ≤ 256 then ((spec_l01Byte.f s0_0 s0_1 s0_2).bind fun bt249 => (if a1 = 0 then (none) else (some (Int.tmod bt249.1 a1, bt249.2.1, bt249.2.2)))) else ((spec_l01Byte.f s0_0 s0_1 s0_2).bind fun bt252 => ((spec_l01Byte.f s0_0 bt252.2.1 bt252.2.2).bind fun bt255 => ((spec_l01Byte.f s0_0 bt255.2.1 bt255.2.2).bind fun bt258 => ((spec_l01Byte.f s0_0 bt258.2.1 bt258.2.2).bind fun bt261 => (if a1 = 0 then (none) else (some (Int.tmod (wrap64 ((wrap64 ((wrap64 ((wrap64 (bt252.1 * 16777216)) + (wrap64 (bt255.1 * 65536)))) + (wrap64 (bt258.1 * 256)))) + bt261.1)) a1, bt261.2.1, bt261.2.2))))))))
set_option maxHeartbeats 8000000 in
set_option maxRecDepth 100000 in
theorem spec_l01Below.calls (g : Nat) (s0_0 : List Int) (s0_1 : Int) (s0_2 : Int) (a1 : Int) (r1 : Int) (r2 : Int) (r3 : Int) (w0 w : World) (hI : IsS152 w0 w g s0_0 s0_1 s0_2) (hB : Below w0.heap.size w0 w) (h : spec_l01Below.f s0_0 s0_1 s0_2 a1 = some (r1, r2, r3)) :
  Calls Try.prog 94 #[.pointer (some ⟨g, 0, none⟩), .int .i64 a1] w fun e w' => e = .returned (.int .i64 r1) ∧ IsS152 w0 w' g s0_0 r2 r3 ∧ Below w0.heap.size w0 w' ∧ KeepBut w w' g none := by
 have HI0 := mk0 hI; have HK := mk0 (KeepBut.refl w g none); have HL := mk0 hB.size; clear hI; have HW0 := mk0 hB.size; have HB := mk0 hB; clear hB
 have H := h; unfold spec_l01Below.f at H
 clear h
 by_cases c3 : a1 ≤ 0
 ·rw [if_pos c3] at H; have c3b0 := decide_eq_true c3; clear c3; simp only [Option.some.injEq, Prod.mk.injEq] at H; obtain ⟨rfl, rfl, rfl⟩ := H; go_enter Try.func94, Try.ntmps94
  go_wp2
  go_ret
  exact ⟨q_71, q_159, q_86, q_171⟩
 rw [if_neg c3] at H; have c3b0 := decide_eq_false c3; clear c3
 by_cases c4 : a1 ≤ 256
 ·rw [if_pos c4] at H; have c4b0 := decide_eq_true c4; clear c4
  obtain ⟨⟨t249, t250, t251⟩, A5, H⟩ := bnd H
  try dsimp only at H
  by_cases c6 : a1 = 0
  ·rw [if_pos c6] at H
   exact absurd H (by simp)
  rw [if_neg c6] at H
  have c6b0 : (a1 == 0) = false := beq_eq_false_iff_ne.mpr c6
  have c6b1 : (a1 != 0) = true := bne_iff_ne.mpr c6
  simp only [Option.some.injEq, Prod.mk.injEq] at H; obtain ⟨rfl, rfl, rfl⟩ := H
  go_enter Try.func94, Try.ntmps94
  go_wp2_with (first | ((with_reducible refine gate_callee (f := 136) rfl ?_); refine gl_ (some 14) Try.func136 #[.pointer (some ⟨g, 0, none⟩)] rfl q_0 ?_; (with_reducible refine (spec_l01Byte.calls g s0_0 s0_1 s0_2 t249 t250 t251 w0 _ ?side1 ?side2 A5.out).mono ?_); (case side1 => exact q_159); (case side2 => exact q_86); rintro e w7 ⟨rfl, hi, hb, hk⟩; refine ⟨_, rfl, ?_⟩; replace HK := mk0 (KeepBut.trans q_171 hk (.inl rfl)); replace HB := mk0 (hb); replace HI0 := mk0 (hi); clear hb hk hi))
  go_ret
  exact ⟨q_71, q_159, q_86, q_171⟩
 rw [if_neg c4] at H; have c4b0 := decide_eq_false c4; clear c4
 obtain ⟨⟨t252, t253, t254⟩, A8, H⟩ := bnd H
 try dsimp only at H
 obtain ⟨⟨t255, t256, t257⟩, A9, H⟩ := bnd H
 try dsimp only at H
 obtain ⟨⟨t258, t259, t260⟩, A10, H⟩ := bnd H
 try dsimp only at H
 obtain ⟨⟨t261, t262, t263⟩, A11, H⟩ := bnd H
 try dsimp only at H
 by_cases c12 : a1 = 0
 ·rw [if_pos c12] at H
  exact absurd H (by simp)
 rw [if_neg c12] at H
 have c12b0 : (a1 == 0) = false := beq_eq_false_iff_ne.mpr c12
 have c12b1 : (a1 != 0) = true := bne_iff_ne.mpr c12
 simp only [Option.some.injEq, Prod.mk.injEq] at H; obtain ⟨rfl, rfl, rfl⟩ := H
 go_enter Try.func94, Try.ntmps94
 go_wp2_with (first | ((with_reducible refine gate_callee (f := 136) rfl ?_); refine gl_ (some 18) Try.func136 #[.pointer (some ⟨g, 0, none⟩)] rfl q_0 ?_; (with_reducible refine (spec_l01Byte.calls g s0_0 s0_1 s0_2 t252 t253 t254 w0 _ ?side1 ?side2 A8.out).mono ?_); (case side1 => exact q_159); (case side2 => exact q_86); rintro e w13 ⟨rfl, hi, hb, hk⟩; refine ⟨_, rfl, ?_⟩; replace HK := mk0 (KeepBut.trans q_171 hk (.inl rfl)); replace HB := mk0 (hb); replace HI0 := mk0 (hi); clear hb hk hi) | ((with_reducible refine gate_callee (f := 136) rfl ?_); refine gl_ (some 20) Try.func136 #[.pointer (some ⟨g, 0, none⟩)] rfl q_0 ?_; (with_reducible refine (spec_l01Byte.calls g s0_0 t253 t254 t255 t256 t257 w0 _ ?side1 ?side2 A9.out).mono ?_); (case side1 => exact q_159); (case side2 => exact q_86); rintro e w14 ⟨rfl, hi, hb, hk⟩; refine ⟨_, rfl, ?_⟩; replace HK := mk0 (KeepBut.trans q_171 hk (.inl rfl)); replace HB := mk0 (hb); replace HI0 := mk0 (hi); clear hb hk hi) | ((with_reducible refine gate_callee (f := 136) rfl ?_); refine gl_ (some 22) Try.func136 #[.pointer (some ⟨g, 0, none⟩)] rfl q_0 ?_; (with_reducible refine (spec_l01Byte.calls g s0_0 t256 t257 t258 t259 t260 w0 _ ?side1 ?side2 A10.out).mono ?_); (case side1 => exact q_159); (case side2 => exact q_86); rintro e w15 ⟨rfl, hi, hb, hk⟩; refine ⟨_, rfl, ?_⟩; replace HK := mk0 (KeepBut.trans q_171 hk (.inl rfl)); replace HB := mk0 (hb); replace HI0 := mk0 (hi); clear hb hk hi) | ((with_reducible refine gate_callee (f := 136) rfl ?_); refine gl_ (some 24) Try.func136 #[.pointer (some ⟨g, 0, none⟩)] rfl q_0 ?_; (with_reducible refine (spec_l01Byte.calls g s0_0 t259 t260 t261 t262 t263 w0 _ ?side1 ?side2 A11.out).mono ?_); (case side1 => exact q_159); (case side2 => exact q_86); rintro e w16 ⟨rfl, hi, hb, hk⟩; refine ⟨_, rfl, ?_⟩; replace HK := mk0 (KeepBut.trans q_171 hk (.inl rfl)); replace HB := mk0 (hb); replace HI0 := mk0 (hi); clear hb hk hi))
 go_ret
 exact ⟨q_71, q_159, q_86, q_171⟩

/-! ### spec_l01Once: function 95 -/
def spec_l01Once.f (s0_0 : List Int) (s0_1 : Int) (s0_2 : Int) (a1 : Int) : Option (Bool × Int × Int) := (spec_l01Below.f s0_0 s0_1 s0_2 a1).bind fun bt264 => (some ((bt264.1 == 0), bt264.2.1, bt264.2.2))
set_option maxHeartbeats 8000000 in
set_option maxRecDepth 100000 in
theorem spec_l01Once.calls (g : Nat) (s0_0 : List Int) (s0_1 : Int) (s0_2 : Int) (a1 : Int) (r1 : Bool) (r2 : Int) (r3 : Int) (w0 w : World) (hI : IsS152 w0 w g s0_0 s0_1 s0_2) (hB : Below w0.heap.size w0 w) (h : spec_l01Once.f s0_0 s0_1 s0_2 a1 = some (r1, r2, r3)) :
  Calls Try.prog 95 #[.pointer (some ⟨g, 0, none⟩), .int .i64 a1] w fun e w' => e = .returned (.bool r1) ∧ IsS152 w0 w' g s0_0 r2 r3 ∧ Below w0.heap.size w0 w' ∧ KeepBut w w' g none := by
 have HI0 := mk0 hI; have HK := mk0 (KeepBut.refl w g none); have HL := mk0 hB.size; clear hI; have HW0 := mk0 hB.size; have HB := mk0 hB; clear hB
 have H := h; unfold spec_l01Once.f at H
 clear h
 obtain ⟨⟨t264, t265, t266⟩, A3, H⟩ := bnd H
 try dsimp only at H
 simp only [Option.some.injEq, Prod.mk.injEq] at H; obtain ⟨rfl, rfl, rfl⟩ := H
 go_enter Try.func95, Try.ntmps95
 go_wp2_with (first | ((with_reducible refine gate_callee (f := 94) rfl ?_); refine gl_ (some 7) Try.func94 #[.pointer (some ⟨g, 0, none⟩), .int .i64 a1] rfl q_0 ?_; (with_reducible refine (spec_l01Below.calls g s0_0 s0_1 s0_2 a1 t264 t265 t266 w0 _ ?side1 ?side2 A3.out).mono ?_); (case side1 => exact q_159); (case side2 => exact q_86); rintro e w4 ⟨rfl, hi, hb, hk⟩; refine ⟨_, rfl, ?_⟩; replace HK := mk0 (KeepBut.trans q_171 hk (.inl rfl)); replace HB := mk0 (hb); replace HI0 := mk0 (hi); clear hb hk hi))
 go_ret
 exact ⟨q_71, q_159, q_86, q_171⟩

/-! ### spec_l01PickInt: function 113 -/
def spec_l01PickInt.f (s0_0 : List Int) (s0_1 : Int) (s0_2 : Int) (l1 : List Int) : Option (Int × Int × Int) := (spec_l01Below.f s0_0 s0_1 s0_2 (l1.length : Int)).bind fun bt267 => (if 0 ≤ bt267.1 then (if bt267.1 < (l1.length : Int) then (some (rd l1 bt267.1, bt267.2.1, bt267.2.2)) else (none)) else (none))
set_option maxHeartbeats 8000000 in
set_option maxRecDepth 100000 in
theorem spec_l01PickInt.calls (g : Nat) (s0_0 : List Int) (s0_1 : Int) (s0_2 : Int) (A1 : Option Addr) (c1 : Nat) (l1 : List Int) (r1 : Int) (r2 : Int) (r3 : Int) (w0 w : World) (hI : IsS152 w0 w g s0_0 s0_1 s0_2) (hB : Below w0.heap.size w0 w) (hr1 : Kd.C (Kd.int .i64) w A1 l1.length l1) (hc1 : l1.length ≤ c1) (hf1 : ∀ ad, A1 = some ad → 0 < l1.length → ad.block ≠ g) (h : spec_l01PickInt.f s0_0 s0_1 s0_2 l1 = some (r1, r2, r3)) :
  Calls Try.prog 113 #[.pointer (some ⟨g, 0, none⟩), .slice A1 l1.length c1] w fun e w' => e = .returned (.int .i64 r1) ∧ IsS152 w0 w' g s0_0 r2 r3 ∧ Below w0.heap.size w0 w' ∧ KeepBut w w' g none := by
 have HR1 := mk0 hr1; have HC1 := mk0 hc1; clear hr1 hc1; have HI0 := mk0 hI; have HK := mk0 (KeepBut.refl w g none); have HL := mk0 hB.size; clear hI; have HW0 := mk0 hB.size; have HB := mk0 hB; clear hB
 have H := h; unfold spec_l01PickInt.f at H
 clear h
 obtain ⟨⟨t267, t268, t269⟩, A3, H⟩ := bnd H
 try dsimp only at H
 by_cases c4 : 0 ≤ t267
 rotate_left
 ·rw [if_neg c4] at H
  exact absurd H (by simp)
 rw [if_pos c4] at H; have c4b0 := decide_eq_true c4; clear c4
 by_cases c5 : t267 < (l1.length : Int)
 rotate_left
 ·rw [if_neg c5] at H
  exact absurd H (by simp)
 rw [if_pos c5] at H; have c5b0 := decide_eq_true c5; clear c5; simp only [Option.some.injEq, Prod.mk.injEq] at H; obtain ⟨rfl, rfl, rfl⟩ := H; go_enter Try.func113, Try.ntmps113
 go_wp2_with (first | ((with_reducible refine gate_callee (f := 94) rfl ?_); refine gl_ (some 9) Try.func94 #[.pointer (some ⟨g, 0, none⟩), .int .i64 (l1.length : Int)] rfl q_0 ?_; (with_reducible refine (spec_l01Below.calls g s0_0 s0_1 s0_2 (l1.length : Int) t267 t268 t269 w0 _ ?side1 ?side2 A3.out).mono ?_); (case side1 => exact q_159); (case side2 => exact q_86); rintro e w6 ⟨rfl, hi, hb, hk⟩; refine ⟨_, rfl, ?_⟩; replace HK := mk0 (KeepBut.trans q_171 hk (.inl rfl)); replace HB := mk0 (hb); replace HI0 := mk0 (hi); clear hb hk hi; have p270 : 0 ≤ (t267 : Int) := of_decide_eq_true (by first | (with_reducible assumption) | assumption); have q270 : t267 < (l1.length : Int) := of_decide_eq_true (by first | (with_reducible assumption) | assumption); obtain ⟨ad270, e270, hx270_0⟩ := Kd.at_int HR1.out t267 p270 q270; cases e270; replace hx270_0 := keep_cell HK.out hx270_0 (by first | (rw [add_block]; exact hf1 _ rfl (by omega)) | exact hf1 _ rfl (by omega) | exact hf1 ad270 rfl (by omega)); replace p270 := eq_true p270; replace q270 := eq_true q270))
 go_ret
 exact ⟨q_71, q_159, q_86, q_171⟩

/-! ### spec_RectPath: function 148 -/
def spec_RectPath.f (a0_0 : Int) (a0_1 : Int) (a0_2 : Int) (a0_3 : Int) : Option (List Int × (List (S52))) := (some (([(⟨a0_0, a0_1⟩ : S52), (⟨a0_2, a0_1⟩ : S52), (⟨a0_2, a0_3⟩ : S52), (⟨a0_0, a0_3⟩ : S52)] : List (S52)) : List (S52))).bind fun y273 => ((spec_Empty.f a0_0 a0_1 a0_2 a0_3).bind fun t276 => (if t276 = true then (some (([] : List Int), ([] : List (S52)))) else (if 0 < (y273.length : Int) then ((spec_PointOk.f ((rd_T52 y273 0).f0) ((rd_T52 y273 0).f1)).bind fun t278 => (if t278 = true then (if 2 < (y273.length : Int) then ((spec_PointOk.f ((rd_T52 y273 2).f0) ((rd_T52 y273 2).f1)).bind fun t280 => (if t280 = true then (some ((([1, 2, 2, 2, 5] : List Int)), y273)) else (some (([] : List Int), ([] : List (S52)))))) else (none)) else (some (([] : List Int), ([] : List (S52)))))) else (none))))
set_option maxHeartbeats 8000000 in
set_option maxRecDepth 100000 in
theorem spec_RectPath.calls (a0_0 : Int) (a0_1 : Int) (a0_2 : Int) (a0_3 : Int) (r1 : List Int) (r2 : List (S52)) (w : World) (h : spec_RectPath.f a0_0 a0_1 a0_2 a0_3 = some (r1, r2)) :
  Calls Try.prog 148 #[.agg #[.int .i64 a0_0, .int .i64 a0_1, .int .i64 a0_2, .int .i64 a0_3]] w fun e w' => ∃ v0_ v1_ : Value, e = .returned (.agg #[v0_, v1_]) ∧ Kd.R (Kd.int .i64) 3 w' w.heap.size (fun _ => True) v0_ r1 ∧ Kd.R k52 52 w' w.heap.size (fun _ => True) v1_ r2 ∧ Below w.heap.size w w' := by
 have hu63 := Try.underlying63; have hu31 := Try.underlying31; have hu52 := Try.underlying52; have HB := mk0 (Below.refl w.heap.size w)
 have H := h; unfold spec_RectPath.f at H
 clear h
 obtain ⟨y273, hy_⟩ : ∃ y_ : List (S52), y_ = (([(⟨a0_0, a0_1⟩ : S52), (⟨a0_2, a0_1⟩ : S52), (⟨a0_2, a0_3⟩ : S52), (⟨a0_0, a0_3⟩ : S52)] : List (S52))) := ⟨_, rfl⟩
 replace H : ((spec_Empty.f a0_0 a0_1 a0_2 a0_3).bind fun t276 => (if t276 = true then (some (([] : List Int), ([] : List (S52)))) else (if 0 < (y273.length : Int) then ((spec_PointOk.f ((rd_T52 y273 0).f0) ((rd_T52 y273 0).f1)).bind fun t278 => (if t278 = true then (if 2 < (y273.length : Int) then ((spec_PointOk.f ((rd_T52 y273 2).f0) ((rd_T52 y273 2).f1)).bind fun t280 => (if t280 = true then (some ((([1, 2, 2, 2, 5] : List Int)), y273)) else (some (([] : List Int), ([] : List (S52)))))) else (none)) else (some (([] : List Int), ([] : List (S52)))))) else (none)))) = some (r1, r2) := q_69
 have Ny273 := mk0 hy_; clear hy_; obtain ⟨t276, A2, H⟩ := bnd H
 try dsimp only at H
 by_cases c3 : t276 = true
 ·subst c3; rw [if_pos rfl] at H; simp only [Option.some.injEq, Prod.mk.injEq] at H; obtain ⟨rfl, rfl⟩ := H; go_enter Try.func148, Try.ntmps148
  go_wp2_with (first | ((with_reducible refine gate_dst (N := 1) rfl ?_); refine boxz (cs := #[.int .i64 a0_0, .int .i64 a0_1, .int .i64 a0_2, .int .i64 a0_3]) (t := 63) rfl ?_; intro gb271 hg w4 hbox hb; have GW271 := mk0 (ge_go (a := w.heap.size) hg (below_size q_149)); have GE271 := GW271; replace HB := bS q_149 hb; have BK271 := mk0 (hbox); clear hb hbox hg) | ((with_reducible refine gate_dst (N := 2) rfl ?_); refine boxz (cs := #[.slice none 0 0, .slice none 0 0]) (t := 31) rfl ?_; intro gb272 hg w5 hbox hb; have GW272 := mk0 (ge_go (a := w.heap.size) hg (below_size z11_5)); have GE272 := GW272; have NB271_272 := mk0 (nb_lt hg (blk_ltB BK271 (pkb BK271))); have NB272_271 := mk0 (nb_gt hg (blk_ltB BK271 (pkb BK271))); replace BK271 := bB BK271 hb; replace HB := bS z11_5 hb; have BK272 := mk0 (hbox); clear hb hbox hg; have hnb6 := NB271_272.out; have hnc6 := NB272_271.out; obtain ⟨_, _, _, _, _, _, _, _⟩ := be_4 BK271.out) | ((with_reducible refine gate_dst (N := 24) rfl ?_); refine Kd.R_lit k52 _ 52 ?hg (N := 24) ?hd (xs := ([(⟨a0_0, a0_1⟩ : S52), (⟨a0_2, a0_1⟩ : S52), (⟨a0_2, a0_3⟩ : S52), (⟨a0_0, a0_3⟩ : S52)] : List (S52))) (inner := [.int .i64 a0_0, .int .i64 a0_1, .int .i64 a0_2, .int .i64 a0_1, .int .i64 a0_2, .int .i64 a0_3, .int .i64 a0_0, .int .i64 a0_3]) (ok := fun _ => True) (okp := fun _ => True) ?hr ?hp (fun _ hk => hk) trivial (Below.refl _ _) (Nat.le_refl _) (by simp) ?_; (case hd => rfl); (case hg => rfl); (case hr => first | (go_simp; done) | (go_simp; rfl)); (case hp => exact (Reps.c2 (show Kd.M k52 _ _ _ (⟨a0_0, a0_1⟩ : S52) [.int .i64 a0_0, .int .i64 a0_1] from (k52_mkM _ _ _ (⟨a0_0, a0_1⟩ : S52) )) (Reps.c2 (show Kd.M k52 _ _ _ (⟨a0_2, a0_1⟩ : S52) [.int .i64 a0_2, .int .i64 a0_1] from (k52_mkM _ _ _ (⟨a0_2, a0_1⟩ : S52) )) (Reps.c2 (show Kd.M k52 _ _ _ (⟨a0_2, a0_3⟩ : S52) [.int .i64 a0_2, .int .i64 a0_3] from (k52_mkM _ _ _ (⟨a0_2, a0_3⟩ : S52) )) (Reps.c2 (show Kd.M k52 _ _ _ (⟨a0_0, a0_3⟩ : S52) [.int .i64 a0_0, .int .i64 a0_3] from (k52_mkM _ _ _ (⟨a0_0, a0_3⟩ : S52) )) (Reps.none _ _)))))); intro v274 w8 ho9 hb hg_ hnew_; clear hg_ hnew_; (first | rw [← Ny273.out] at ho9 | (simp only [Int.reduceToNat] at ho9; rw [← Ny273.out] at ho9)); have HO275 := mk0 (Kd.R_lower ho9 (below_size z11_1)); replace BK271 := bB BK271 hb; replace BK272 := bB BK272 hb; replace HB := bS z11_1 hb; clear hb ho9; obtain ⟨_, _, _, _, _, _, _, _⟩ := be_4 BK271.out) | ((with_reducible refine gate_callee (f := 134) rfl ?_); refine gl_ (some 26) Try.func134 #[.agg #[.int .i64 a0_0, .int .i64 a0_1, .int .i64 a0_2, .int .i64 a0_3]] rfl q_0 ?_; (with_reducible refine (spec_Empty.calls a0_0 a0_1 a0_2 a0_3 true _ A2.out).mono ?_); rintro e w11 ⟨rfl, hb⟩; refine ⟨_, rfl, ?_⟩; replace HO275 := bR HO275 hb; replace BK271 := bB BK271 hb; replace BK272 := bB BK272 hb; replace HB := bS z11_1 hb; clear hb; (try clear hk); obtain ⟨_, _, _, _⟩ := be_2 BK272.out))
  refine bodyPost_ret (results_cell_row rfl _ _ gb272 31 #[.slice none 0 0, .slice none 0 0] (0, 0) _ rfl z11_15 Try.underlying31 rfl (by kernel_rfl)) rfl ?_
  exact ⟨_, _, q_71, q_70, q_70, z11_1⟩
 replace c3 := Bool.eq_false_iff.mpr c3; subst c3; rw [if_neg (show ¬ (false = true) by decide)] at H
 by_cases c13 : 0 < (y273.length : Int)
 rotate_left
 ·rw [if_neg c13] at H
  exact absurd H (by simp)
 rw [if_pos c13] at H; have c13b0 := decide_eq_true c13
 have c13b1 : decide (0 < y273.length) = true := decide_eq_true (by omega)
 clear c13; obtain ⟨t278, A14, H⟩ := bnd H
 try dsimp only at H
 by_cases c15 : t278 = true
 rotate_left
 ·replace c15 := Bool.eq_false_iff.mpr c15; subst c15; rw [if_neg (show ¬ (false = true) by decide)] at H
  simp only [Option.some.injEq, Prod.mk.injEq] at H; obtain ⟨rfl, rfl⟩ := H
  go_enter Try.func148, Try.ntmps148
  go_wp2_with (first | ((with_reducible refine gate_dst (N := 1) rfl ?_); refine boxz (cs := #[.int .i64 a0_0, .int .i64 a0_1, .int .i64 a0_2, .int .i64 a0_3]) (t := 63) rfl ?_; intro gb271 hg w46 hbox hb; have GW271 := mk0 (ge_go (a := w.heap.size) hg (below_size q_149)); have GE271 := GW271; replace HB := bS q_149 hb; have BK271 := mk0 (hbox); clear hb hbox hg) | ((with_reducible refine gate_dst (N := 2) rfl ?_); refine boxz (cs := #[.slice none 0 0, .slice none 0 0]) (t := 31) rfl ?_; intro gb272 hg w47 hbox hb; have GW272 := mk0 (ge_go (a := w.heap.size) hg (below_size z11_5)); have GE272 := GW272; have NB271_272 := mk0 (nb_lt hg (blk_ltB BK271 (pkb BK271))); have NB272_271 := mk0 (nb_gt hg (blk_ltB BK271 (pkb BK271))); replace BK271 := bB BK271 hb; replace HB := bS z11_5 hb; have BK272 := mk0 (hbox); clear hb hbox hg; have hnb48 := NB271_272.out; have hnc48 := NB272_271.out; obtain ⟨_, _, _, _, _, _, _, _⟩ := be_4 BK271.out) | ((with_reducible refine gate_dst (N := 24) rfl ?_); refine Kd.R_lit k52 _ 52 ?hg (N := 24) ?hd (xs := ([(⟨a0_0, a0_1⟩ : S52), (⟨a0_2, a0_1⟩ : S52), (⟨a0_2, a0_3⟩ : S52), (⟨a0_0, a0_3⟩ : S52)] : List (S52))) (inner := [.int .i64 a0_0, .int .i64 a0_1, .int .i64 a0_2, .int .i64 a0_1, .int .i64 a0_2, .int .i64 a0_3, .int .i64 a0_0, .int .i64 a0_3]) (ok := fun _ => True) (okp := fun _ => True) ?hr ?hp (fun _ hk => hk) trivial (Below.refl _ _) (Nat.le_refl _) (by simp) ?_; (case hd => rfl); (case hg => rfl); (case hr => first | (go_simp; done) | (go_simp; rfl)); (case hp => exact (Reps.c2 (show Kd.M k52 _ _ _ (⟨a0_0, a0_1⟩ : S52) [.int .i64 a0_0, .int .i64 a0_1] from (k52_mkM _ _ _ (⟨a0_0, a0_1⟩ : S52) )) (Reps.c2 (show Kd.M k52 _ _ _ (⟨a0_2, a0_1⟩ : S52) [.int .i64 a0_2, .int .i64 a0_1] from (k52_mkM _ _ _ (⟨a0_2, a0_1⟩ : S52) )) (Reps.c2 (show Kd.M k52 _ _ _ (⟨a0_2, a0_3⟩ : S52) [.int .i64 a0_2, .int .i64 a0_3] from (k52_mkM _ _ _ (⟨a0_2, a0_3⟩ : S52) )) (Reps.c2 (show Kd.M k52 _ _ _ (⟨a0_0, a0_3⟩ : S52) [.int .i64 a0_0, .int .i64 a0_3] from (k52_mkM _ _ _ (⟨a0_0, a0_3⟩ : S52) )) (Reps.none _ _)))))); intro v274 w50 ho51 hb hg_ hnew_; clear hg_ hnew_; (first | rw [← Ny273.out] at ho51 | (simp only [Int.reduceToNat] at ho51; rw [← Ny273.out] at ho51)); have HO275 := mk0 (Kd.R_lower ho51 (below_size z11_1)); replace BK271 := bB BK271 hb; replace BK272 := bB BK272 hb; replace HB := bS z11_1 hb; clear hb ho51; obtain ⟨_, _, _, _, _, _, _, _⟩ := be_4 BK271.out) | ((with_reducible refine gate_callee (f := 134) rfl ?_); refine gl_ (some 26) Try.func134 #[.agg #[.int .i64 a0_0, .int .i64 a0_1, .int .i64 a0_2, .int .i64 a0_3]] rfl q_0 ?_; (with_reducible refine (spec_Empty.calls a0_0 a0_1 a0_2 a0_3 false _ A2.out).mono ?_); rintro e w53 ⟨rfl, hb⟩; refine ⟨_, rfl, ?_⟩; replace HO275 := bR HO275 hb; replace BK271 := bB BK271 hb; replace BK272 := bB BK272 hb; replace HB := bS z11_1 hb; clear hb; (try clear hk); obtain ⟨Ao54, co54, eo54⟩ := Kd.R_slice HO275.out; subst eo54; have p277 : 0 ≤ (0 : Int) := (by omega); have q277 : 0 < (y273.length : Int) := of_decide_eq_true (by first | (with_reducible assumption) | assumption); obtain ⟨ad277, e277, hx277_0, hx277_1⟩ := at_T52 (Kd.R_reads' HO275.out).2.2 0 p277 q277; cases e277; have qi277 : (0 < y273.length) = True := eq_true (by omega); (try rw [show ((0 : Int)).toNat = 0 from rfl] at hx277_0); (try rw [show 0 * 2 = 0 from rfl] at hx277_0); (try rw [Addr.add_zero'] at hx277_0); (try rw [show ((0 : Int)).toNat = 0 from rfl] at hx277_1); (try rw [show 0 * 2 = 0 from rfl] at hx277_1); (try rw [Addr.add_zero'] at hx277_1); replace p277 := eq_true p277; replace q277 := eq_true q277) | (go_at_call 117; (with_reducible refine (spec_PointOk.calls ((rd_T52 y273 0).f0) ((rd_T52 y273 0).f1) false _ A14.out).mono ?_); rintro e w55 ⟨rfl, hb⟩; replace HO275 := bR HO275 hb; replace BK271 := bB BK271 hb; replace BK272 := bB BK272 hb; replace HB := bS z11_1 hb; clear hb; (try clear hk); obtain ⟨_, _, _, _⟩ := be_2 BK272.out))
  refine bodyPost_ret (results_cell_row rfl _ _ gb272 31 #[.slice none 0 0, .slice none 0 0] (0, 0) _ rfl z11_15 Try.underlying31 rfl (by kernel_rfl)) rfl ?_
  exact ⟨_, _, q_71, q_70, q_70, z11_1⟩
 subst c15; rw [if_pos rfl] at H
 by_cases c16 : 2 < (y273.length : Int)
 rotate_left
 ·rw [if_neg c16] at H
  exact absurd H (by simp)
 rw [if_pos c16] at H; have c16b0 := decide_eq_true c16
 have c16b1 : decide (2 < y273.length) = true := decide_eq_true (by omega)
 clear c16; obtain ⟨t280, A17, H⟩ := bnd H
 try dsimp only at H
 by_cases c18 : t280 = true
 rotate_left
 ·replace c18 := Bool.eq_false_iff.mpr c18; subst c18; rw [if_neg (show ¬ (false = true) by decide)] at H
  simp only [Option.some.injEq, Prod.mk.injEq] at H; obtain ⟨rfl, rfl⟩ := H
  go_enter Try.func148, Try.ntmps148
  go_wp2_with (first | ((with_reducible refine gate_dst (N := 1) rfl ?_); refine boxz (cs := #[.int .i64 a0_0, .int .i64 a0_1, .int .i64 a0_2, .int .i64 a0_3]) (t := 63) rfl ?_; intro gb271 hg w34 hbox hb; have GW271 := mk0 (ge_go (a := w.heap.size) hg (below_size q_149)); have GE271 := GW271; replace HB := bS q_149 hb; have BK271 := mk0 (hbox); clear hb hbox hg) | ((with_reducible refine gate_dst (N := 2) rfl ?_); refine boxz (cs := #[.slice none 0 0, .slice none 0 0]) (t := 31) rfl ?_; intro gb272 hg w35 hbox hb; have GW272 := mk0 (ge_go (a := w.heap.size) hg (below_size z11_5)); have GE272 := GW272; have NB271_272 := mk0 (nb_lt hg (blk_ltB BK271 (pkb BK271))); have NB272_271 := mk0 (nb_gt hg (blk_ltB BK271 (pkb BK271))); replace BK271 := bB BK271 hb; replace HB := bS z11_5 hb; have BK272 := mk0 (hbox); clear hb hbox hg; have hnb36 := NB271_272.out; have hnc36 := NB272_271.out; obtain ⟨_, _, _, _, _, _, _, _⟩ := be_4 BK271.out) | ((with_reducible refine gate_dst (N := 24) rfl ?_); refine Kd.R_lit k52 _ 52 ?hg (N := 24) ?hd (xs := ([(⟨a0_0, a0_1⟩ : S52), (⟨a0_2, a0_1⟩ : S52), (⟨a0_2, a0_3⟩ : S52), (⟨a0_0, a0_3⟩ : S52)] : List (S52))) (inner := [.int .i64 a0_0, .int .i64 a0_1, .int .i64 a0_2, .int .i64 a0_1, .int .i64 a0_2, .int .i64 a0_3, .int .i64 a0_0, .int .i64 a0_3]) (ok := fun _ => True) (okp := fun _ => True) ?hr ?hp (fun _ hk => hk) trivial (Below.refl _ _) (Nat.le_refl _) (by simp) ?_; (case hd => rfl); (case hg => rfl); (case hr => first | (go_simp; done) | (go_simp; rfl)); (case hp => exact (Reps.c2 (show Kd.M k52 _ _ _ (⟨a0_0, a0_1⟩ : S52) [.int .i64 a0_0, .int .i64 a0_1] from (k52_mkM _ _ _ (⟨a0_0, a0_1⟩ : S52) )) (Reps.c2 (show Kd.M k52 _ _ _ (⟨a0_2, a0_1⟩ : S52) [.int .i64 a0_2, .int .i64 a0_1] from (k52_mkM _ _ _ (⟨a0_2, a0_1⟩ : S52) )) (Reps.c2 (show Kd.M k52 _ _ _ (⟨a0_2, a0_3⟩ : S52) [.int .i64 a0_2, .int .i64 a0_3] from (k52_mkM _ _ _ (⟨a0_2, a0_3⟩ : S52) )) (Reps.c2 (show Kd.M k52 _ _ _ (⟨a0_0, a0_3⟩ : S52) [.int .i64 a0_0, .int .i64 a0_3] from (k52_mkM _ _ _ (⟨a0_0, a0_3⟩ : S52) )) (Reps.none _ _)))))); intro v274 w38 ho39 hb hg_ hnew_; clear hg_ hnew_; (first | rw [← Ny273.out] at ho39 | (simp only [Int.reduceToNat] at ho39; rw [← Ny273.out] at ho39)); have HO275 := mk0 (Kd.R_lower ho39 (below_size z11_1)); replace BK271 := bB BK271 hb; replace BK272 := bB BK272 hb; replace HB := bS z11_1 hb; clear hb ho39; obtain ⟨_, _, _, _, _, _, _, _⟩ := be_4 BK271.out) | ((with_reducible refine gate_callee (f := 134) rfl ?_); refine gl_ (some 26) Try.func134 #[.agg #[.int .i64 a0_0, .int .i64 a0_1, .int .i64 a0_2, .int .i64 a0_3]] rfl q_0 ?_; (with_reducible refine (spec_Empty.calls a0_0 a0_1 a0_2 a0_3 false _ A2.out).mono ?_); rintro e w41 ⟨rfl, hb⟩; refine ⟨_, rfl, ?_⟩; replace HO275 := bR HO275 hb; replace BK271 := bB BK271 hb; replace BK272 := bB BK272 hb; replace HB := bS z11_1 hb; clear hb; (try clear hk); obtain ⟨Ao42, co42, eo42⟩ := Kd.R_slice HO275.out; subst eo42; have p277 : 0 ≤ (0 : Int) := (by omega); have q277 : 0 < (y273.length : Int) := of_decide_eq_true (by first | (with_reducible assumption) | assumption); obtain ⟨ad277, e277, hx277_0, hx277_1⟩ := at_T52 (Kd.R_reads' HO275.out).2.2 0 p277 q277; cases e277; have qi277 : (0 < y273.length) = True := eq_true (by omega); (try rw [show ((0 : Int)).toNat = 0 from rfl] at hx277_0); (try rw [show 0 * 2 = 0 from rfl] at hx277_0); (try rw [Addr.add_zero'] at hx277_0); (try rw [show ((0 : Int)).toNat = 0 from rfl] at hx277_1); (try rw [show 0 * 2 = 0 from rfl] at hx277_1); (try rw [Addr.add_zero'] at hx277_1); replace p277 := eq_true p277; replace q277 := eq_true q277) | (go_at_call 117; (with_reducible refine (spec_PointOk.calls ((rd_T52 y273 0).f0) ((rd_T52 y273 0).f1) true _ A14.out).mono ?_); rintro e w43 ⟨rfl, hb⟩; replace HO275 := bR HO275 hb; replace BK271 := bB BK271 hb; replace BK272 := bB BK272 hb; replace HB := bS z11_1 hb; clear hb; (try clear hk); have p279 : 0 ≤ (2 : Int) := (by omega); have q279 : 2 < (y273.length : Int) := of_decide_eq_true (by first | (with_reducible assumption) | assumption); obtain ⟨ad279, e279, hx279_0, hx279_1⟩ := at_T52 (Kd.R_reads' HO275.out).2.2 2 p279 q279; obtain rfl : ad277 = ad279 := (by injection e279); (try simp only [show (2 : Int).toNat = 2 from rfl, Nat.reduceMul, Nat.reduceEqDiff, Go.Addr.add, ↓reduceIte] at hx279_0); (try simp only [show (2 : Int).toNat = 2 from rfl, Nat.reduceMul, Nat.reduceEqDiff, Go.Addr.add, ↓reduceIte] at hx279_1); have qi279 : (2 < y273.length) = True := eq_true (by omega); (try rw [show ((2 : Int)).toNat = 2 from rfl] at hx279_0); (try rw [show 2 * 2 = 4 from rfl] at hx279_0); (try rw [show ((2 : Int)).toNat = 2 from rfl] at hx279_1); (try rw [show 2 * 2 = 4 from rfl] at hx279_1); replace p279 := eq_true p279; replace q279 := eq_true q279) | (go_at_call 117; (with_reducible refine (spec_PointOk.calls ((rd_T52 y273 2).f0) ((rd_T52 y273 2).f1) false _ A17.out).mono ?_); rintro e w44 ⟨rfl, hb⟩; replace HO275 := bR HO275 hb; replace BK271 := bB BK271 hb; replace BK272 := bB BK272 hb; replace HB := bS z11_1 hb; clear hb; (try clear hk); obtain ⟨_, _, _, _⟩ := be_2 BK272.out))
  refine bodyPost_ret (results_cell_row rfl _ _ gb272 31 #[.slice none 0 0, .slice none 0 0] (0, 0) _ rfl z11_15 Try.underlying31 rfl (by kernel_rfl)) rfl ?_
  exact ⟨_, _, q_71, q_70, q_70, z11_1⟩
 subst c18; rw [if_pos rfl] at H
 obtain ⟨y281, hy_⟩ : ∃ y_ : List Int, y_ = (([1, 2, 2, 2, 5] : List Int)) := ⟨_, rfl⟩
 replace H : (some (y281, y273)) = some (r1, r2) := q_69
 have Ny281 := mk0 hy_; clear hy_; simp only [Option.some.injEq, Prod.mk.injEq] at H; obtain ⟨rfl, rfl⟩ := H; go_enter Try.func148, Try.ntmps148
 go_wp2_with (first | ((with_reducible refine gate_dst (N := 1) rfl ?_); refine boxz (cs := #[.int .i64 a0_0, .int .i64 a0_1, .int .i64 a0_2, .int .i64 a0_3]) (t := 63) rfl ?_; intro gb271 hg w19 hbox hb; have GW271 := mk0 (ge_go (a := w.heap.size) hg (below_size q_149)); have GE271 := GW271; replace HB := bS q_149 hb; have BK271 := mk0 (hbox); clear hb hbox hg) | ((with_reducible refine gate_dst (N := 2) rfl ?_); refine boxz (cs := #[.slice none 0 0, .slice none 0 0]) (t := 31) rfl ?_; intro gb272 hg w20 hbox hb; have GW272 := mk0 (ge_go (a := w.heap.size) hg (below_size z11_5)); have GE272 := GW272; have NB271_272 := mk0 (nb_lt hg (blk_ltB BK271 (pkb BK271))); have NB272_271 := mk0 (nb_gt hg (blk_ltB BK271 (pkb BK271))); replace BK271 := bB BK271 hb; replace HB := bS z11_5 hb; have BK272 := mk0 (hbox); clear hb hbox hg; have hnb21 := NB271_272.out; have hnc21 := NB272_271.out; obtain ⟨_, _, _, _, _, _, _, _⟩ := be_4 BK271.out) | ((with_reducible refine gate_dst (N := 24) rfl ?_); refine Kd.R_lit k52 _ 52 ?hg (N := 24) ?hd (xs := ([(⟨a0_0, a0_1⟩ : S52), (⟨a0_2, a0_1⟩ : S52), (⟨a0_2, a0_3⟩ : S52), (⟨a0_0, a0_3⟩ : S52)] : List (S52))) (inner := [.int .i64 a0_0, .int .i64 a0_1, .int .i64 a0_2, .int .i64 a0_1, .int .i64 a0_2, .int .i64 a0_3, .int .i64 a0_0, .int .i64 a0_3]) (ok := fun _ => True) (okp := fun _ => True) ?hr ?hp (fun _ hk => hk) trivial (Below.refl _ _) (Nat.le_refl _) (by simp) ?_; (case hd => rfl); (case hg => rfl); (case hr => first | (go_simp; done) | (go_simp; rfl)); (case hp => exact (Reps.c2 (show Kd.M k52 _ _ _ (⟨a0_0, a0_1⟩ : S52) [.int .i64 a0_0, .int .i64 a0_1] from (k52_mkM _ _ _ (⟨a0_0, a0_1⟩ : S52) )) (Reps.c2 (show Kd.M k52 _ _ _ (⟨a0_2, a0_1⟩ : S52) [.int .i64 a0_2, .int .i64 a0_1] from (k52_mkM _ _ _ (⟨a0_2, a0_1⟩ : S52) )) (Reps.c2 (show Kd.M k52 _ _ _ (⟨a0_2, a0_3⟩ : S52) [.int .i64 a0_2, .int .i64 a0_3] from (k52_mkM _ _ _ (⟨a0_2, a0_3⟩ : S52) )) (Reps.c2 (show Kd.M k52 _ _ _ (⟨a0_0, a0_3⟩ : S52) [.int .i64 a0_0, .int .i64 a0_3] from (k52_mkM _ _ _ (⟨a0_0, a0_3⟩ : S52) )) (Reps.none _ _)))))); intro v274 w23 ho24 hb hg_ hnew_; clear hg_ hnew_; (first | rw [← Ny273.out] at ho24 | (simp only [Int.reduceToNat] at ho24; rw [← Ny273.out] at ho24)); have HO275 := mk0 (Kd.R_lower ho24 (below_size z11_1)); replace BK271 := bB BK271 hb; replace BK272 := bB BK272 hb; replace HB := bS z11_1 hb; clear hb ho24; obtain ⟨_, _, _, _, _, _, _, _⟩ := be_4 BK271.out) | ((with_reducible refine gate_callee (f := 134) rfl ?_); refine gl_ (some 26) Try.func134 #[.agg #[.int .i64 a0_0, .int .i64 a0_1, .int .i64 a0_2, .int .i64 a0_3]] rfl q_0 ?_; (with_reducible refine (spec_Empty.calls a0_0 a0_1 a0_2 a0_3 false _ A2.out).mono ?_); rintro e w26 ⟨rfl, hb⟩; refine ⟨_, rfl, ?_⟩; replace HO275 := bR HO275 hb; replace BK271 := bB BK271 hb; replace BK272 := bB BK272 hb; replace HB := bS z11_1 hb; clear hb; (try clear hk); obtain ⟨Ao27, co27, eo27⟩ := Kd.R_slice HO275.out; subst eo27; have p277 : 0 ≤ (0 : Int) := (by omega); have q277 : 0 < (y273.length : Int) := of_decide_eq_true (by first | (with_reducible assumption) | assumption); obtain ⟨ad277, e277, hx277_0, hx277_1⟩ := at_T52 (Kd.R_reads' HO275.out).2.2 0 p277 q277; cases e277; have qi277 : (0 < y273.length) = True := eq_true (by omega); (try rw [show ((0 : Int)).toNat = 0 from rfl] at hx277_0); (try rw [show 0 * 2 = 0 from rfl] at hx277_0); (try rw [Addr.add_zero'] at hx277_0); (try rw [show ((0 : Int)).toNat = 0 from rfl] at hx277_1); (try rw [show 0 * 2 = 0 from rfl] at hx277_1); (try rw [Addr.add_zero'] at hx277_1); replace p277 := eq_true p277; replace q277 := eq_true q277) | (go_at_call 117; (with_reducible refine (spec_PointOk.calls ((rd_T52 y273 0).f0) ((rd_T52 y273 0).f1) true _ A14.out).mono ?_); rintro e w28 ⟨rfl, hb⟩; replace HO275 := bR HO275 hb; replace BK271 := bB BK271 hb; replace BK272 := bB BK272 hb; replace HB := bS z11_1 hb; clear hb; (try clear hk); have p279 : 0 ≤ (2 : Int) := (by omega); have q279 : 2 < (y273.length : Int) := of_decide_eq_true (by first | (with_reducible assumption) | assumption); obtain ⟨ad279, e279, hx279_0, hx279_1⟩ := at_T52 (Kd.R_reads' HO275.out).2.2 2 p279 q279; obtain rfl : ad277 = ad279 := (by injection e279); (try simp only [show (2 : Int).toNat = 2 from rfl, Nat.reduceMul, Nat.reduceEqDiff, Go.Addr.add, ↓reduceIte] at hx279_0); (try simp only [show (2 : Int).toNat = 2 from rfl, Nat.reduceMul, Nat.reduceEqDiff, Go.Addr.add, ↓reduceIte] at hx279_1); have qi279 : (2 < y273.length) = True := eq_true (by omega); (try rw [show ((2 : Int)).toNat = 2 from rfl] at hx279_0); (try rw [show 2 * 2 = 4 from rfl] at hx279_0); (try rw [show ((2 : Int)).toNat = 2 from rfl] at hx279_1); (try rw [show 2 * 2 = 4 from rfl] at hx279_1); replace p279 := eq_true p279; replace q279 := eq_true q279) | (go_at_call 117; (with_reducible refine (spec_PointOk.calls ((rd_T52 y273 2).f0) ((rd_T52 y273 2).f1) true _ A17.out).mono ?_); rintro e w29 ⟨rfl, hb⟩; replace HO275 := bR HO275 hb; replace BK271 := bB BK271 hb; replace BK272 := bB BK272 hb; replace HB := bS z11_1 hb; clear hb; (try clear hk)) | ((with_reducible refine gate_dst (N := 42) rfl ?_); refine Kd.R_lit (Kd.int .i64) _ 3 ?hg (N := 42) ?hd (xs := ([1, 2, 2, 2, 5] : List Int)) (inner := [.int .i64 1, .int .i64 2, .int .i64 2, .int .i64 2, .int .i64 5]) (ok := fun _ => True) (okp := fun _ => True) ?hr ?hp (fun _ hk => hk) trivial (Below.refl _ _) (Nat.le_refl _) (by simp) ?_; (case hd => rfl); (case hg => rfl); (case hr => first | (go_simp; done) | (go_simp; rfl)); (case hp => exact (Reps.one (show Kd.M (Kd.int .i64) _ _ _ 1 [.int .i64 1] from rfl) (Reps.one (show Kd.M (Kd.int .i64) _ _ _ 2 [.int .i64 2] from rfl) (Reps.one (show Kd.M (Kd.int .i64) _ _ _ 2 [.int .i64 2] from rfl) (Reps.one (show Kd.M (Kd.int .i64) _ _ _ 2 [.int .i64 2] from rfl) (Reps.one (show Kd.M (Kd.int .i64) _ _ _ 5 [.int .i64 5] from rfl) (Reps.none _ _))))))); intro v282 w30 ho31 hb hg_ hnew_; clear hg_ hnew_; (first | rw [← Ny281.out] at ho31 | (simp only [Int.reduceToNat] at ho31; rw [← Ny281.out] at ho31)); replace HO275 := bR HO275 hb; have HO283 := mk0 (Kd.R_lower ho31 (below_size z11_1)); replace BK271 := bB BK271 hb; replace BK272 := bB BK272 hb; replace HB := bS z11_1 hb; clear hb ho31; obtain ⟨Ao32, co32, eo32⟩ := Kd.R_slice HO283.out; subst eo32; obtain ⟨_, _, _, _⟩ := be_2 BK272.out))
 refine bodyPost_ret (results_cell_row rfl _ _ gb272 31 #[.slice Ao32 y281.length co32, .slice (some ad277) y273.length co27] (0, 0) _ rfl z11_15 Try.underlying31 rfl (by kernel_rfl)) rfl ?_
 exact ⟨_, _, q_71, (by (with_reducible repeat (first | apply Kd.R_alloc | apply Kd.R_drewN | apply Kd.R_drew)); exact Kd.R_mono (R_f2 (Kd.R_types HO283.out BK272.out (by decide)) (fun _ hk => hk.2)) (fun _ hk => trivial)), (by (with_reducible repeat (first | apply Kd.R_alloc | apply Kd.R_drewN | apply Kd.R_drew)); exact Kd.R_mono (R_f2 (Kd.R_types HO275.out BK272.out (by decide)) (fun _ hk => hk.2)) (fun _ hk => trivial)), z11_1⟩

/-! ### spec_l04Point: function 149 -/
def spec_l04Point.f (s0_0 : List Int) (s0_1 : Int) (s0_2 : Int) : Option (Int × Int × Int × Int) := (spec_l01Below.f s0_0 s0_1 s0_2 3600).bind fun bt285 => ((spec_l01Below.f s0_0 bt285.2.1 bt285.2.2 3600).bind fun bt288 => (some (wrap64 (bt285.1 - 300), wrap64 (bt288.1 - 300), bt288.2.1, bt288.2.2)))
set_option maxHeartbeats 8000000 in
set_option maxRecDepth 100000 in
theorem spec_l04Point.calls (g : Nat) (s0_0 : List Int) (s0_1 : Int) (s0_2 : Int) (r1 : Int) (r2 : Int) (r3 : Int) (r4 : Int) (w0 w : World) (hI : IsS152 w0 w g s0_0 s0_1 s0_2) (hB : Below w0.heap.size w0 w) (h : spec_l04Point.f s0_0 s0_1 s0_2 = some (r1, r2, r3, r4)) :
  Calls Try.prog 149 #[.pointer (some ⟨g, 0, none⟩)] w fun e w' => e = .returned (.agg #[.int .i64 r1, .int .i64 r2]) ∧ IsS152 w0 w' g s0_0 r3 r4 ∧ Below w0.heap.size w0 w' ∧ KeepBut w w' g none := by
 have hu52 := Try.underlying52; have HI0 := mk0 hI; have HK := mk0 (KeepBut.refl w g none); have HL := mk0 hB.size; clear hI; have HW0 := mk0 hB.size; have HB := mk0 hB; clear hB
 have H := h; unfold spec_l04Point.f at H
 clear h
 obtain ⟨⟨t285, t286, t287⟩, A2, H⟩ := bnd H
 try dsimp only at H
 obtain ⟨⟨t288, t289, t290⟩, A3, H⟩ := bnd H
 try dsimp only at H
 simp only [Option.some.injEq, Prod.mk.injEq] at H; obtain ⟨rfl, rfl, rfl, rfl⟩ := H
 go_enter Try.func149, Try.ntmps149
 go_wp2_with (first | ((with_reducible refine gate_dst (N := 2) rfl ?_); refine boxz (cs := #[.int .i64 0, .int .i64 0]) (t := 52) rfl ?_; intro gb284 hg w4 hbox hb; replace HB := bS q_86 hb; have BK284 := mk0 (hbox); have GW284 := mk0 ((by rw [hg]; exact (keep_size (w := w) (g := g) (row := none) q_171) : w.heap.size ≤ gb284)); have GE284 := mk0 ((Nat.le_trans HW0.out (by rw [hg]; exact (keep_size (w := w) (g := g) (row := none) q_171) : w.heap.size ≤ gb284) : w0.heap.size ≤ gb284)); replace HK := mk0 (KeepBut.trans q_171 (KeepBut.of_below hb g none) (.inl rfl)); have NB0_284 := mk0 ((by rw [hg]; exact Nat.ne_of_lt (IsS152.lt (show IsS152 w0 _ g s0_0 s0_1 s0_2 from q_159)) : g ≠ gb284)); have NB284_0 := mk0 ((by rw [hg]; exact Nat.ne_of_gt (IsS152.lt (show IsS152 w0 _ g s0_0 s0_1 s0_2 from q_159)) : gb284 ≠ g)); replace HI0 := mk0 (IsS152.below q_159 hb); clear hb hbox hg) | ((with_reducible refine gate_callee (f := 94) rfl ?_); refine gl_ (some 4) Try.func94 #[.pointer (some ⟨g, 0, none⟩), .int .i64 3600] rfl q_0 ?_; (with_reducible refine (spec_l01Below.calls g s0_0 s0_1 s0_2 3600 t285 t286 t287 w0 _ ?side1 ?side2 A2.out).mono ?_); (case side1 => exact z11_19); (case side2 => exact z11_20); rintro e w5 ⟨rfl, hi, hb, hk⟩; refine ⟨_, rfl, ?_⟩; replace BK284 := kB BK284 hk (pkb BK284) NB284_0; replace HK := mk0 (KeepBut.trans z11_17 hk (.inl rfl)); replace HB := mk0 (hb); replace HI0 := mk0 (hi); clear hb hk hi) | ((with_reducible refine gate_callee (f := 94) rfl ?_); refine gl_ (some 7) Try.func94 #[.pointer (some ⟨g, 0, none⟩), .int .i64 3600] rfl q_0 ?_; (with_reducible refine (spec_l01Below.calls g s0_0 t286 t287 3600 t288 t289 t290 w0 _ ?side1 ?side2 A3.out).mono ?_); (case side1 => exact z11_19); (case side2 => exact z11_20); rintro e w6 ⟨rfl, hi, hb, hk⟩; refine ⟨_, rfl, ?_⟩; replace BK284 := kB BK284 hk (pkb BK284) NB284_0; replace HK := mk0 (KeepBut.trans z11_17 hk (.inl rfl)); replace HB := mk0 (hb); replace HI0 := mk0 (hi); clear hb hk hi; have hnb7 := NB284_0.out; have hnc7 := NB0_284.out; obtain ⟨_, _, _, _⟩ := be_2 BK284.out))
 refine bodyPost_ret (results_cell_row rfl _ _ gb284 52 #[.int .i64 (wrap64 (t285 - 300)), .int .i64 (wrap64 (t288 - 300))] (0, 0) _ rfl (by apply blk_fin; (focus ((with_reducible repeat (first | apply blk_putQ | refine blk_drewN ?_ _ | refine blk_drew ?_ | refine blk_alloc ?_ _)); exact BK284.out)); first | (simp only [List.setIfInBounds_toArray, List.set_cons_zero, List.set_cons_succ]; done) | rfl) Try.underlying52 rfl (by kernel_rfl)) rfl ?_
 exact ⟨q_71, (by repeat (first | (with_reducible first | exact HI0.out | apply IsS152.alloc | apply IsS152.drewN | apply IsS152.drew | apply IsS152.set_1 | apply IsS152.set_2 | apply IsS152.farB NB0_284.out) | exact HI0.out)), (by repeat (first | (with_reducible first | exact HB.out | apply below_alloc | apply pw_below_drewN | apply below_drew1 | refine below_set ?_ (IsS152.ge HI0.out) | refine below_set ?_ GE284.out) | exact HB.out)), z11_17⟩

end Go.Proofs.Ytghbenapnhcllaa.MFnMasks
