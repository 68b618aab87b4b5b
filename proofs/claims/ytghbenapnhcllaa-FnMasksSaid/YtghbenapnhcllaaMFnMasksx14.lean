/- Functions of the program as Lean functions, and the proof that a call comes to just these: machine text of this session's own program (myprint.py). -/
import Derived.Test.YtghbenapnhcllaaMFnMasksx0
import Derived.Test.YtghbenapnhcllaaMFnMasksx2
import Derived.Test.YtghbenapnhcllaaMFnMasksx4
import Derived.Test.YtghbenapnhcllaaMFnMasksx13
namespace Go.Proofs.Ytghbenapnhcllaa.MFnMasks
open Go.RowKit Go.Proofs.YtghbenapnhcllaaW.PrintWords Go.Proofs.YtghbenapnhcllaaW.PrintLast Go.Proofs.YtghbenapnhcllaaW.PrintMore
attribute [local go_sem] max2_int min2_int max_two min_two max_three min_three max_four min_four   -- for this text's walks alone
set_option linter.unusedVariables false
set_option linter.unusedSimpArgs false

attribute [local go_sem high] eqA63
theorem z14_1 {P : Prop} (h : P := by repeat (first | (with_reducible first | exact HB.out | apply below_alloc | apply pw_below_drewN | apply below_drew1 | refine below_set ?_ GE404.out) | exact HB.out)) : P := h
theorem z14_4 {P : Prop} (h : P := by repeat (first | (with_reducible first | exact HB.out | apply below_alloc | apply pw_below_drewN | apply below_drew1 | refine below_set ?_ GE415.out) | exact HB.out)) : P := h
theorem z14_5 {P : Prop} (h : P := by repeat (first | (with_reducible first | exact HB.out | apply below_alloc | apply pw_below_drewN | apply below_drew1 | refine below_set ?_ GE406.out) | exact HB.out)) : P := h
theorem z14_6 {P : Prop} (h : P := by repeat (first | (with_reducible first | exact HB.out | apply below_alloc | apply pw_below_drewN | apply below_drew1 | refine below_set ?_ GE412.out) | exact HB.out)) : P := h
theorem z14_7 {P : Prop} (h : P := by repeat (first | (with_reducible first | exact HB.out | apply below_alloc | apply pw_below_drewN | apply below_drew1 | refine below_set ?_ GE415.out | refine below_set ?_ GE416.out) | exact HB.out)) : P := h
theorem z14_10 {P : Prop} (h : P := by repeat (first | (with_reducible first | exact HB.out | apply below_alloc | apply pw_below_drewN | apply below_drew1 | refine below_set ?_ GE379.out) | exact HB.out)) : P := h
theorem z14_11 {P : Prop} (h : P := by repeat (first | (with_reducible first | exact HI384.out | apply IsS152.alloc | apply IsS152.drewN | apply IsS152.drew | apply IsS152.set_1 | apply IsS152.set_2 | apply IsS152.farB NB384_379.out | apply IsS152.farB NB384_380.out) | exact HI384.out)) : P := h
theorem z14_13 {P : Prop} (h : P := by repeat (first | (with_reducible first | exact HB.out | apply below_alloc | apply pw_below_drewN | apply below_drew1 | refine below_set ?_ GE412.out | refine below_set ?_ GE413.out) | exact HB.out)) : P := h
theorem z14_14 {P : Prop} (h : P := by repeat (first | (with_reducible first | exact HB.out | apply below_alloc | apply pw_below_drewN | apply below_drew1 | refine below_set ?_ GE403.out) | exact HB.out)) : P := h
/-! ### spec_DrawMasks: function 25 -/
def spec_DrawMasks.f (k : Nat) (l0 : List Int) : Option (Int × Int × Int × Int × List Int × Int × Int × Int × Int × List Int) := (spec_l01New.f k l0).bind fun bt381 => ((spec_l11Mask.f k bt381.1 bt381.2.1 bt381.2.2).bind fun bt385 => ((spec_l11Mask.f k bt381.1 bt385.2.2.2.2.2.1 bt385.2.2.2.2.2.2).bind fun bt394 => (some (bt385.1, bt385.2.1, bt385.2.2.1, bt385.2.2.2.1, bt385.2.2.2.2.1, bt394.1, bt394.2.1, bt394.2.2.1, bt394.2.2.2.1, bt394.2.2.2.2.1))))
theorem spec_DrawMasks.mono : ∀ a0 k, LeO (spec_DrawMasks.f k a0) (spec_DrawMasks.f (k + 1) a0) := by
 intro a0 k
 unfold spec_DrawMasks.f
 with_reducible repeat' first | apply spec_l01New.mono | apply spec_l11Mask.mono | exact LeO.refl _ | exact LeO.none _ | refine LeO.ite ?_ ?_ | refine LeO.bind ?_ (fun _ => ?_)
set_option maxHeartbeats 8000000 in
set_option maxRecDepth 100000 in
theorem spec_DrawMasks.calls (k : Nat) (A0 : Option Addr) (c0 : Nat) (l0 : List Int) (r1 : Int) (r2 : Int) (r3 : Int) (r4 : Int) (r5 : List Int) (r6 : Int) (r7 : Int) (r8 : Int) (r9 : Int) (r10 : List Int) (w : World) (hr0 : Kd.C (Kd.int .u8) w A0 l0.length l0) (hc0 : l0.length ≤ c0) (h : spec_DrawMasks.f k l0 = some (r1, r2, r3, r4, r5, r6, r7, r8, r9, r10)) :
  Calls Try.prog 25 #[.slice A0 l0.length c0] w fun e w' => ∃ v4_ v9_ : Value, e = .returned (.tuple #[.agg #[.int .i64 r1, .int .i64 r2, .int .i64 r3, .int .i64 r4, v4_], .agg #[.int .i64 r6, .int .i64 r7, .int .i64 r8, .int .i64 r9, v9_]]) ∧ Kd.R (Kd.int .i64) 3 w' w.heap.size (fun k_ => some k_ ≠ (v9_ : Value).ownBlock) v4_ r5 ∧ Kd.R (Kd.int .i64) 3 w' w.heap.size (fun k_ => some k_ ≠ (v4_ : Value).ownBlock) v9_ r10 ∧ Below w.heap.size w w' := by
 have hu65 := Try.underlying65; have HR0 := mk0 hr0; have HC0 := mk0 hc0; clear hr0 hc0; have HB := mk0 (Below.refl w.heap.size w)
 have H := h; unfold spec_DrawMasks.f at H
 clear h
 obtain ⟨⟨t381, t382, t383⟩, A2, H⟩ := bnd H
 try dsimp only at H
 obtain ⟨⟨t385, t386, t387, t388, t389, t392, t393⟩, A3, H⟩ := bnd H
 try dsimp only at H
 obtain ⟨⟨t394, t395, t396, t397, t398, t401, t402⟩, A4, H⟩ := bnd H
 try dsimp only at H
 simp only [Option.some.injEq, Prod.mk.injEq] at H; obtain ⟨rfl, rfl, rfl, rfl, rfl, rfl, rfl, rfl, rfl, rfl⟩ := H
 go_enter Try.func25, Try.ntmps25
 go_wp2_with (first | ((with_reducible refine gate_dst (N := 2) rfl ?_); refine boxz (cs := #[.int .i64 0, .int .i64 0, .int .i64 0, .int .i64 0, .slice none 0 0]) (t := 65) rfl ?_; intro gb379 hg w5 hbox hb; have GW379 := mk0 (ge_go (a := w.heap.size) hg (below_size q_149)); have GE379 := GW379; replace HB := bS q_149 hb; have BK379 := mk0 (hbox); clear hb hbox hg) | ((with_reducible refine gate_dst (N := 3) rfl ?_); refine boxz (cs := #[.int .i64 0, .int .i64 0, .int .i64 0, .int .i64 0, .slice none 0 0]) (t := 65) rfl ?_; intro gb380 hg w6 hbox hb; have GW380 := mk0 (ge_go (a := w.heap.size) hg (below_size z14_10)); have GE380 := GW380; have NB379_380 := mk0 (nb_lt hg (blk_ltB BK379 (pkb BK379))); have NB380_379 := mk0 (nb_gt hg (blk_ltB BK379 (pkb BK379))); replace BK379 := bB BK379 hb; replace HB := bS z14_10 hb; have BK380 := mk0 (hbox); clear hb hbox hg) | ((with_reducible refine gate_callee (f := 81) rfl ?_); refine gl_ (some 6) Try.func81 #[.slice A0 l0.length c0] rfl q_0 ?_; (with_reducible refine (spec_l01New.calls k _ _ l0 t381 t382 t383 w _ ?side1 ?side2 ?side3 A2.out).mono ?_); (case side1 => repeat (first | (with_reducible first | exact HB.out | apply below_alloc | apply pw_below_drewN | apply below_drew1 | refine below_set ?_ GE379.out | refine below_set ?_ GE380.out) | exact HB.out)); (case side2 => exact HR0.out); (case side3 => exact HC0.out); rintro e w7 ⟨g384, rfl, hi, hb, hb2⟩; refine ⟨_, rfl, ?_⟩; replace HB := mk0 (hb); have HI384 := mk0 (hi); have NB384_379 := mk0 (IsS152.ne_blk hi (blk_belowB BK379 (pkb BK379) hb2) (by decide)); have NB379_384 := mk0 (Ne.symm (IsS152.ne_blk hi (blk_belowB BK379 (pkb BK379) hb2) (by decide))); replace BK379 := mk0 (blk_belowB BK379 (pkb BK379) hb2); have NB384_380 := mk0 (IsS152.ne_blk hi (blk_belowB BK380 (pkb BK380) hb2) (by decide)); have NB380_384 := mk0 (Ne.symm (IsS152.ne_blk hi (blk_belowB BK380 (pkb BK380) hb2) (by decide))); replace BK380 := mk0 (blk_belowB BK380 (pkb BK380) hb2); clear hb hb2 hi; (try clear hk)) | ((with_reducible refine gate_callee (f := 82) rfl ?_); refine gl_ (some 8) Try.func82 #[.pointer (some ⟨g384, 0, none⟩)] rfl q_0 ?_; (with_reducible refine (spec_l11Mask.calls k g384 t381 t382 t383 t385 t386 t387 t388 t389 t392 t393 w _ ?side1 ?side2 A3.out).mono ?_); (case side1 => exact z14_11); (case side2 => exact q_87); rintro e w8 ⟨v390, rfl, ho0, hi, hb, hk⟩; refine ⟨_, rfl, ?_⟩; replace BK379 := kB BK379 hk (pkb BK379) NB379_384; replace BK380 := kB BK380 hk (pkb BK380) NB380_384; have HO391 := mk0 (Kd.R_lower ho0 (below_size q_87)); replace HB := mk0 (hb); replace HI384 := mk0 (hi); clear hb hk hi ho0; (try clear hb2)) | ((with_reducible refine gate_callee (f := 82) rfl ?_); refine gl_ (some 10) Try.func82 #[.pointer (some ⟨g384, 0, none⟩)] rfl q_0 ?_; (with_reducible refine (spec_l11Mask.calls k g384 t381 t392 t393 t394 t395 t396 t397 t398 t401 t402 w _ ?side1 ?side2 A4.out).mono ?_); (case side1 => exact z14_11); (case side2 => exact q_87); rintro e w9 ⟨v399, rfl, ho0, hi, hb, hk⟩; refine ⟨_, rfl, ?_⟩; replace BK379 := kB BK379 hk (pkb BK379) NB379_384; replace BK380 := kB BK380 hk (pkb BK380) NB380_384; have HO400 := mk0 (Kd.R_lower (Kd.R_new' ho0 (Kd.R_lt (pkR HO391))) (below_size q_87)); replace HO391 := mk0 (Kd.R_mono (Kd.R_told (Kd.R_oldK (IsS152.apart (show IsS152 w _ g384 t381 t392 t393 from by repeat (first | (with_reducible first | exact HI384.out | apply IsS152.alloc | apply IsS152.drewN | apply IsS152.drew | apply IsS152.set_1 | apply IsS152.set_2 | apply IsS152.farB NB384_379.out | apply IsS152.farB NB384_380.out) | exact HI384.out)) (pkR HO391) (by decide)) hk) (Kd.R_base ho0)) (fun _ h_ => h_.1)); replace HB := mk0 (hb); replace HI384 := mk0 (hi); clear hb hk hi ho0; (try clear hb2); have hnb10 := NB379_380.out; have hnc10 := NB380_379.out; have hnb11 := NB379_384.out; have hnc11 := NB384_379.out; obtain ⟨_, _, _, _, _, _, _, _, _, _⟩ := be_5 BK379.out; obtain ⟨Ao13, co13, eo13⟩ := Kd.R_slice HO391.out; subst eo13; have hnb14 := NB380_384.out; have hnc14 := NB384_380.out; obtain ⟨_, _, _, _, _, _, _, _, _, _⟩ := be_5 BK380.out; obtain ⟨Ao16, co16, eo16⟩ := Kd.R_slice HO400.out; subst eo16))
 refine bodyPost_ret (results_cc rfl _ _ gb379 gb380 65 65 #[.int .i64 t385, .int .i64 t386, .int .i64 t387, .int .i64 t388, .slice Ao13 t389.length co13] #[.int .i64 t394, .int .i64 t395, .int .i64 t396, .int .i64 t397, .slice Ao16 t398.length co16] (0, 0) (0, 0) _ _ rfl (by apply blk_fin; (focus ((with_reducible repeat (first | apply blk_putQ | refine blk_farQ NB379_380.out ?_ | refine blk_drewN ?_ _ | refine blk_drew ?_ | refine blk_alloc ?_ _)); exact BK379.out)); first | (simp only [List.setIfInBounds_toArray, List.set_cons_zero, List.set_cons_succ]; done) | rfl) Try.underlying65 rfl (by kernel_rfl) rfl (by apply blk_fin; (focus ((with_reducible repeat (first | apply blk_putQ | refine blk_farQ NB380_379.out ?_ | refine blk_drewN ?_ _ | refine blk_drew ?_ | refine blk_alloc ?_ _)); exact BK380.out)); first | (simp only [List.setIfInBounds_toArray, List.set_cons_zero, List.set_cons_succ]; done) | rfl) Try.underlying65 rfl (by kernel_rfl)) rfl ?_
 exact ⟨_, _, q_71, (by (with_reducible repeat (first | apply Kd.R_alloc | apply Kd.R_drewN | apply Kd.R_drew)); exact Kd.R_mono (R_f5 (Kd.R_far (p := ⟨gb379, 4, none⟩) (Kd.R_far (p := ⟨gb379, 3, none⟩) (Kd.R_far (p := ⟨gb379, 2, none⟩) (Kd.R_far (p := ⟨gb379, 1, none⟩) (Kd.R_far (p := ⟨gb379, 0, none⟩) (Kd.R_types (Kd.R_types HO391.out BK379.out (by decide)) BK380.out (by decide)) (fun _ hk => hk.1.2) (.int .i64 t385)) (fun _ hk => hk.1.2) (.int .i64 t386)) (fun _ hk => hk.1.2) (.int .i64 t387)) (fun _ hk => hk.1.2) (.int .i64 t388)) (fun _ hk => hk.1.2) (.slice Ao13 t389.length co13)) (fun _ hk => hk.2)) (fun _ hk => hk.1.1.2)), (by (with_reducible repeat (first | apply Kd.R_alloc | apply Kd.R_drewN | apply Kd.R_drew)); exact Kd.R_mono (R_f5 (Kd.R_far (p := ⟨gb379, 4, none⟩) (Kd.R_far (p := ⟨gb379, 3, none⟩) (Kd.R_far (p := ⟨gb379, 2, none⟩) (Kd.R_far (p := ⟨gb379, 1, none⟩) (Kd.R_far (p := ⟨gb379, 0, none⟩) (Kd.R_types (Kd.R_types HO400.out BK379.out (by decide)) BK380.out (by decide)) (fun _ hk => hk.1.2) (.int .i64 t385)) (fun _ hk => hk.1.2) (.int .i64 t386)) (fun _ hk => hk.1.2) (.int .i64 t387)) (fun _ hk => hk.1.2) (.int .i64 t388)) (fun _ hk => hk.1.2) (.slice Ao13 t389.length co13)) (fun _ hk => hk.2)) (fun _ hk => hk.1.1.2)), q_87⟩

/-! ### impl_inRange: function 72 -/
def impl_inRange.f (a0 : Int) (a1 : Int) (a2 : Int) : Option (Bool) := if a0 ≥ a1 then (some (decide (a0 ≤ a2))) else (some false)
set_option maxHeartbeats 8000000 in
set_option maxRecDepth 100000 in
theorem impl_inRange.calls (a0 : Int) (a1 : Int) (a2 : Int) (r : Bool) (w : World) (h : impl_inRange.f a0 a1 a2 = some r) :
  Calls Try.prog 72 #[.int .i64 a0, .int .i64 a1, .int .i64 a2] w fun e w' => e = .returned (.bool r) ∧ Drawn0 w w' := by
 have H : (if a0 ≥ a1 then (some (decide (a0 ≤ a2))) else (some false)) = some r := h
 clear h
 by_cases c4 : a0 ≥ a1
 ·rw [if_pos c4] at H; have c4b0 := decide_eq_true c4; clear c4
  obtain rfl := Option.some.inj H
  simp only [Option.some.injEq, Prod.mk.injEq] at H; obtain ⟨rfl⟩ := H
  go_enter Try.func72, Try.ntmps72
  go_wp2
  go_ret
  exact ⟨rs0, q_183⟩
 ·rw [if_neg c4] at H; have c4b0 := decide_eq_false c4; clear c4
  obtain rfl := Option.some.inj H
  simp only [Option.some.injEq, Prod.mk.injEq] at H; obtain ⟨rfl⟩ := H
  go_enter Try.func72, Try.ntmps72
  go_wp2
  go_ret
  exact ⟨rs0, q_183⟩

/-! ### impl_Empty: function 84 -/
def impl_Empty.f (a0_0 : Int) (a0_1 : Int) (a0_2 : Int) (a0_3 : Int) : Option (Bool) := if a0_0 ≥ a0_2 then (some true) else (some (decide (a0_1 ≥ a0_3)))
set_option maxHeartbeats 8000000 in
set_option maxRecDepth 100000 in
theorem impl_Empty.calls (a0_0 : Int) (a0_1 : Int) (a0_2 : Int) (a0_3 : Int) (r : Bool) (w : World) (h : impl_Empty.f a0_0 a0_1 a0_2 a0_3 = some r) :
  Calls Try.prog 84 #[.agg #[.int .i64 a0_0, .int .i64 a0_1, .int .i64 a0_2, .int .i64 a0_3]] w fun e w' => e = .returned (.bool r) ∧ Below w.heap.size w w' := by
 have hu63 := Try.underlying63; have HB := mk0 (Below.refl w.heap.size w)
 have H := h; unfold impl_Empty.f at H
 clear h
 by_cases c2 : a0_0 ≥ a0_2
 ·rw [if_pos c2] at H; have c2b0 := decide_eq_true c2; clear c2
  obtain rfl := Option.some.inj H
  simp only [Option.some.injEq, Prod.mk.injEq] at H; obtain ⟨rfl⟩ := H
  go_enter Try.func84, Try.ntmps84
  go_wp2_with (first | ((with_reducible refine gate_dst (N := 1) rfl ?_); refine boxz (cs := #[.int .i64 a0_0, .int .i64 a0_1, .int .i64 a0_2, .int .i64 a0_3]) (t := 63) rfl ?_; intro gb403 hg w3 hbox hb; have GW403 := mk0 (ge_go (a := w.heap.size) hg (below_size q_149)); have GE403 := GW403; replace HB := bS q_149 hb; have BK403 := mk0 (hbox); clear hb hbox hg; obtain ⟨_, _, _, _, _, _, _, _⟩ := be_4 BK403.out))
  go_ret
  exact ⟨q_71, z14_14⟩
 rw [if_neg c2] at H; have c2b0 := decide_eq_false c2; clear c2
 obtain rfl := Option.some.inj H
 simp only [Option.some.injEq, Prod.mk.injEq] at H; obtain ⟨rfl⟩ := H
 go_enter Try.func84, Try.ntmps84
 go_wp2_with (first | ((with_reducible refine gate_dst (N := 1) rfl ?_); refine boxz (cs := #[.int .i64 a0_0, .int .i64 a0_1, .int .i64 a0_2, .int .i64 a0_3]) (t := 63) rfl ?_; intro gb403 hg w5 hbox hb; have GW403 := mk0 (ge_go (a := w.heap.size) hg (below_size q_149)); have GE403 := GW403; replace HB := bS q_149 hb; have BK403 := mk0 (hbox); clear hb hbox hg; obtain ⟨_, _, _, _, _, _, _, _⟩ := be_4 BK403.out))
 go_ret
 exact ⟨q_71, z14_14⟩

/-! ### impl_isMaskBox: function 88 -/
def impl_isMaskBox.f (a0_0 : Int) (a0_1 : Int) (a0_2 : Int) (a0_3 : Int) : Option (Bool) := (impl_Empty.f a0_0 a0_1 a0_2 a0_3).bind fun t405 => (if t405 = true then (some false) else (if a0_0 < (-2000) then (some false) else (if a0_1 < (-2000) then (some false) else (if a0_2 > 2000 then (some false) else (if a0_3 > 2000 then (some false) else (if (wrap64 (a0_2 - a0_0)) ≤ 60 then (some (decide ((wrap64 (a0_3 - a0_1)) ≤ 60))) else (some false)))))))
set_option maxHeartbeats 8000000 in
set_option maxRecDepth 100000 in
theorem impl_isMaskBox.calls (a0_0 : Int) (a0_1 : Int) (a0_2 : Int) (a0_3 : Int) (r : Bool) (w : World) (h : impl_isMaskBox.f a0_0 a0_1 a0_2 a0_3 = some r) :
  Calls Try.prog 88 #[.agg #[.int .i64 a0_0, .int .i64 a0_1, .int .i64 a0_2, .int .i64 a0_3]] w fun e w' => e = .returned (.bool r) ∧ Below w.heap.size w w' := by
 have hu63 := Try.underlying63; have HB := mk0 (Below.refl w.heap.size w)
 have H := h; unfold impl_isMaskBox.f at H
 clear h; obtain ⟨t405, A2, H⟩ := bnd H
 try dsimp only at H
 by_cases c3 : t405 = true
 ·subst c3; rw [if_pos rfl] at H
  obtain rfl := Option.some.inj H
  simp only [Option.some.injEq, Prod.mk.injEq] at H; obtain ⟨rfl⟩ := H
  go_enter Try.func88, Try.ntmps88
  go_wp2_with (first | ((with_reducible refine gate_dst (N := 1) rfl ?_); refine boxz (cs := #[.int .i64 a0_0, .int .i64 a0_1, .int .i64 a0_2, .int .i64 a0_3]) (t := 63) rfl ?_; intro gb404 hg w4 hbox hb; have GW404 := mk0 (ge_go (a := w.heap.size) hg (below_size q_149)); have GE404 := GW404; replace HB := bS q_149 hb; have BK404 := mk0 (hbox); clear hb hbox hg; obtain ⟨_, _, _, _, _, _, _, _⟩ := be_4 BK404.out) | ((with_reducible refine gate_callee (f := 84) rfl ?_); refine gl_ (some 4) Try.func84 #[.agg #[.int .i64 a0_0, .int .i64 a0_1, .int .i64 a0_2, .int .i64 a0_3]] rfl q_0 ?_; (with_reducible refine (impl_Empty.calls a0_0 a0_1 a0_2 a0_3 true _ A2.out).mono ?_); rintro e w6 ⟨rfl, hb⟩; refine ⟨_, rfl, ?_⟩; replace BK404 := bB BK404 hb; replace HB := bS z14_1 hb; clear hb))
  go_ret
  exact ⟨q_71, z14_1⟩
 replace c3 := Bool.eq_false_iff.mpr c3; subst c3; rw [if_neg (show ¬ (false = true) by decide)] at H
 by_cases c7 : a0_0 < (-2000)
 ·rw [if_pos c7] at H; have c7b0 := decide_eq_true c7; clear c7
  obtain rfl := Option.some.inj H
  simp only [Option.some.injEq, Prod.mk.injEq] at H; obtain ⟨rfl⟩ := H
  go_enter Try.func88, Try.ntmps88
  go_wp2_with (first | ((with_reducible refine gate_dst (N := 1) rfl ?_); refine boxz (cs := #[.int .i64 a0_0, .int .i64 a0_1, .int .i64 a0_2, .int .i64 a0_3]) (t := 63) rfl ?_; intro gb404 hg w8 hbox hb; have GW404 := mk0 (ge_go (a := w.heap.size) hg (below_size q_149)); have GE404 := GW404; replace HB := bS q_149 hb; have BK404 := mk0 (hbox); clear hb hbox hg; obtain ⟨_, _, _, _, _, _, _, _⟩ := be_4 BK404.out) | ((with_reducible refine gate_callee (f := 84) rfl ?_); refine gl_ (some 4) Try.func84 #[.agg #[.int .i64 a0_0, .int .i64 a0_1, .int .i64 a0_2, .int .i64 a0_3]] rfl q_0 ?_; (with_reducible refine (impl_Empty.calls a0_0 a0_1 a0_2 a0_3 false _ A2.out).mono ?_); rintro e w10 ⟨rfl, hb⟩; refine ⟨_, rfl, ?_⟩; replace BK404 := bB BK404 hb; replace HB := bS z14_1 hb; clear hb; obtain ⟨_, _, _, _, _, _, _, _⟩ := be_4 BK404.out))
  go_ret
  exact ⟨q_71, z14_1⟩
 rw [if_neg c7] at H; have c7b0 := decide_eq_false c7; clear c7
 by_cases c12 : a0_1 < (-2000)
 ·rw [if_pos c12] at H; have c12b0 := decide_eq_true c12; clear c12
  obtain rfl := Option.some.inj H
  simp only [Option.some.injEq, Prod.mk.injEq] at H; obtain ⟨rfl⟩ := H
  go_enter Try.func88, Try.ntmps88
  go_wp2_with (first | ((with_reducible refine gate_dst (N := 1) rfl ?_); refine boxz (cs := #[.int .i64 a0_0, .int .i64 a0_1, .int .i64 a0_2, .int .i64 a0_3]) (t := 63) rfl ?_; intro gb404 hg w13 hbox hb; have GW404 := mk0 (ge_go (a := w.heap.size) hg (below_size q_149)); have GE404 := GW404; replace HB := bS q_149 hb; have BK404 := mk0 (hbox); clear hb hbox hg; obtain ⟨_, _, _, _, _, _, _, _⟩ := be_4 BK404.out) | ((with_reducible refine gate_callee (f := 84) rfl ?_); refine gl_ (some 4) Try.func84 #[.agg #[.int .i64 a0_0, .int .i64 a0_1, .int .i64 a0_2, .int .i64 a0_3]] rfl q_0 ?_; (with_reducible refine (impl_Empty.calls a0_0 a0_1 a0_2 a0_3 false _ A2.out).mono ?_); rintro e w15 ⟨rfl, hb⟩; refine ⟨_, rfl, ?_⟩; replace BK404 := bB BK404 hb; replace HB := bS z14_1 hb; clear hb; obtain ⟨_, _, _, _, _, _, _, _⟩ := be_4 BK404.out))
  go_ret
  exact ⟨q_71, z14_1⟩
 rw [if_neg c12] at H; have c12b0 := decide_eq_false c12; clear c12
 by_cases c17 : a0_2 > 2000
 ·rw [if_pos c17] at H; have c17b0 := decide_eq_true c17; clear c17
  obtain rfl := Option.some.inj H
  simp only [Option.some.injEq, Prod.mk.injEq] at H; obtain ⟨rfl⟩ := H
  go_enter Try.func88, Try.ntmps88
  go_wp2_with (first | ((with_reducible refine gate_dst (N := 1) rfl ?_); refine boxz (cs := #[.int .i64 a0_0, .int .i64 a0_1, .int .i64 a0_2, .int .i64 a0_3]) (t := 63) rfl ?_; intro gb404 hg w18 hbox hb; have GW404 := mk0 (ge_go (a := w.heap.size) hg (below_size q_149)); have GE404 := GW404; replace HB := bS q_149 hb; have BK404 := mk0 (hbox); clear hb hbox hg; obtain ⟨_, _, _, _, _, _, _, _⟩ := be_4 BK404.out) | ((with_reducible refine gate_callee (f := 84) rfl ?_); refine gl_ (some 4) Try.func84 #[.agg #[.int .i64 a0_0, .int .i64 a0_1, .int .i64 a0_2, .int .i64 a0_3]] rfl q_0 ?_; (with_reducible refine (impl_Empty.calls a0_0 a0_1 a0_2 a0_3 false _ A2.out).mono ?_); rintro e w20 ⟨rfl, hb⟩; refine ⟨_, rfl, ?_⟩; replace BK404 := bB BK404 hb; replace HB := bS z14_1 hb; clear hb; obtain ⟨_, _, _, _, _, _, _, _⟩ := be_4 BK404.out))
  go_ret
  exact ⟨q_71, z14_1⟩
 rw [if_neg c17] at H; have c17b0 := decide_eq_false c17; clear c17
 by_cases c22 : a0_3 > 2000
 ·rw [if_pos c22] at H; have c22b0 := decide_eq_true c22; clear c22
  obtain rfl := Option.some.inj H
  simp only [Option.some.injEq, Prod.mk.injEq] at H; obtain ⟨rfl⟩ := H
  go_enter Try.func88, Try.ntmps88
  go_wp2_with (first | ((with_reducible refine gate_dst (N := 1) rfl ?_); refine boxz (cs := #[.int .i64 a0_0, .int .i64 a0_1, .int .i64 a0_2, .int .i64 a0_3]) (t := 63) rfl ?_; intro gb404 hg w23 hbox hb; have GW404 := mk0 (ge_go (a := w.heap.size) hg (below_size q_149)); have GE404 := GW404; replace HB := bS q_149 hb; have BK404 := mk0 (hbox); clear hb hbox hg; obtain ⟨_, _, _, _, _, _, _, _⟩ := be_4 BK404.out) | ((with_reducible refine gate_callee (f := 84) rfl ?_); refine gl_ (some 4) Try.func84 #[.agg #[.int .i64 a0_0, .int .i64 a0_1, .int .i64 a0_2, .int .i64 a0_3]] rfl q_0 ?_; (with_reducible refine (impl_Empty.calls a0_0 a0_1 a0_2 a0_3 false _ A2.out).mono ?_); rintro e w25 ⟨rfl, hb⟩; refine ⟨_, rfl, ?_⟩; replace BK404 := bB BK404 hb; replace HB := bS z14_1 hb; clear hb; obtain ⟨_, _, _, _, _, _, _, _⟩ := be_4 BK404.out))
  go_ret
  exact ⟨q_71, z14_1⟩
 rw [if_neg c22] at H; have c22b0 := decide_eq_false c22; clear c22
 by_cases c27 : (wrap64 (a0_2 - a0_0)) ≤ 60
 ·rw [if_pos c27] at H; have c27b0 := decide_eq_true c27; clear c27
  obtain rfl := Option.some.inj H
  simp only [Option.some.injEq, Prod.mk.injEq] at H; obtain ⟨rfl⟩ := H
  go_enter Try.func88, Try.ntmps88
  go_wp2_with (first | ((with_reducible refine gate_dst (N := 1) rfl ?_); refine boxz (cs := #[.int .i64 a0_0, .int .i64 a0_1, .int .i64 a0_2, .int .i64 a0_3]) (t := 63) rfl ?_; intro gb404 hg w28 hbox hb; have GW404 := mk0 (ge_go (a := w.heap.size) hg (below_size q_149)); have GE404 := GW404; replace HB := bS q_149 hb; have BK404 := mk0 (hbox); clear hb hbox hg; obtain ⟨_, _, _, _, _, _, _, _⟩ := be_4 BK404.out) | ((with_reducible refine gate_callee (f := 84) rfl ?_); refine gl_ (some 4) Try.func84 #[.agg #[.int .i64 a0_0, .int .i64 a0_1, .int .i64 a0_2, .int .i64 a0_3]] rfl q_0 ?_; (with_reducible refine (impl_Empty.calls a0_0 a0_1 a0_2 a0_3 false _ A2.out).mono ?_); rintro e w30 ⟨rfl, hb⟩; refine ⟨_, rfl, ?_⟩; replace BK404 := bB BK404 hb; replace HB := bS z14_1 hb; clear hb; obtain ⟨_, _, _, _, _, _, _, _⟩ := be_4 BK404.out))
  go_ret
  exact ⟨q_71, z14_1⟩
 rw [if_neg c27] at H; have c27b0 := decide_eq_false c27; clear c27
 obtain rfl := Option.some.inj H
 simp only [Option.some.injEq, Prod.mk.injEq] at H; obtain ⟨rfl⟩ := H
 go_enter Try.func88, Try.ntmps88
 go_wp2_with (first | ((with_reducible refine gate_dst (N := 1) rfl ?_); refine boxz (cs := #[.int .i64 a0_0, .int .i64 a0_1, .int .i64 a0_2, .int .i64 a0_3]) (t := 63) rfl ?_; intro gb404 hg w32 hbox hb; have GW404 := mk0 (ge_go (a := w.heap.size) hg (below_size q_149)); have GE404 := GW404; replace HB := bS q_149 hb; have BK404 := mk0 (hbox); clear hb hbox hg; obtain ⟨_, _, _, _, _, _, _, _⟩ := be_4 BK404.out) | ((with_reducible refine gate_callee (f := 84) rfl ?_); refine gl_ (some 4) Try.func84 #[.agg #[.int .i64 a0_0, .int .i64 a0_1, .int .i64 a0_2, .int .i64 a0_3]] rfl q_0 ?_; (with_reducible refine (impl_Empty.calls a0_0 a0_1 a0_2 a0_3 false _ A2.out).mono ?_); rintro e w34 ⟨rfl, hb⟩; refine ⟨_, rfl, ?_⟩; replace BK404 := bB BK404 hb; replace HB := bS z14_1 hb; clear hb; obtain ⟨_, _, _, _, _, _, _, _⟩ := be_4 BK404.out))
 go_ret
 exact ⟨q_71, z14_1⟩

/-! ### impl_MaskOk: function 27 -/
mutual
def impl_MaskOk.j0 : Nat → Bool → Int → Int → Int → Int → List Int → Option (Bool)
 | 0, _, _, _, _, _, _ => none
 | k + 1, x37, x407000, x407001, x407002, x407003, x407004 => if x37 = true then (some false) else (impl_MaskOk.l0 k x407004 (x407004.length : Int) 0)
def impl_MaskOk.l0 : Nat → List Int → Int → Int → Option (Bool)
 | 0, _, _, _ => none
 | k + 1, x39, x40, x41 => if x41 < x40 then (if 0 ≤ x41 then (if x41 < (x39.length : Int) then ((impl_inRange.f (rd x39 x41) 0 15).bind fun t409 => (if t409 = true then (impl_MaskOk.l0 k x39 x40 (wrap64 (x41 + 1))) else (some false))) else (none)) else (none)) else (some true)
end
def impl_MaskOk.f (k : Nat) (a0_0 : Int) (a0_1 : Int) (a0_2 : Int) (a0_3 : Int) (l0_4 : List Int) : Option (Bool) := if (a0_0 == 0 && (a0_1 == 0 && (a0_2 == 0 && (a0_3 == 0)))) = true then (some ((l0_4.length : Int) == 0)) else ((impl_isMaskBox.f a0_0 a0_1 a0_2 a0_3).bind fun t407 => (if t407 = true then (impl_MaskOk.j0 k ((l0_4.length : Int) != (wrap64 ((wrap64 (a0_2 - a0_0)) * (wrap64 (a0_3 - a0_1))))) a0_0 a0_1 a0_2 a0_3 l0_4) else (impl_MaskOk.j0 k true a0_0 a0_1 a0_2 a0_3 l0_4)))
theorem impl_MaskOk.mono_l : ∀ k, (∀ y0 y1 y2 y3 y4 y5, LeO (impl_MaskOk.j0 k y0 y1 y2 y3 y4 y5) (impl_MaskOk.j0 (k + 1) y0 y1 y2 y3 y4 y5)) ∧ (∀ y0 y1 y2, LeO (impl_MaskOk.l0 k y0 y1 y2) (impl_MaskOk.l0 (k + 1) y0 y1 y2))
 | 0 => ⟨fun _ _ _ _ _ _ r h => by simp [impl_MaskOk.j0] at h, fun _ _ _ r h => by simp [impl_MaskOk.l0] at h⟩
 | k + 1 => by
  obtain ⟨ih0, ih1⟩ := impl_MaskOk.mono_l k
  refine ⟨?_, ?_⟩
  ·intro y0 y1 y2 y3 y4 y5
   unfold impl_MaskOk.j0
   with_reducible repeat' first | apply ih0 | apply ih1 | exact LeO.refl _ | exact LeO.none _ | refine LeO.ite ?_ ?_ | refine LeO.bind ?_ (fun _ => ?_)
  ·intro y0 y1 y2
   unfold impl_MaskOk.l0
   with_reducible repeat' first | apply ih0 | apply ih1 | exact LeO.refl _ | exact LeO.none _ | refine LeO.ite ?_ ?_ | refine LeO.bind ?_ (fun _ => ?_)
theorem impl_MaskOk.mono : ∀ a0 a1 a2 a3 a4 k, LeO (impl_MaskOk.f k a0 a1 a2 a3 a4) (impl_MaskOk.f (k + 1) a0 a1 a2 a3 a4) := by
 intro a0 a1 a2 a3 a4 k; obtain ⟨ih0, ih1⟩ := impl_MaskOk.mono_l k
 unfold impl_MaskOk.f
 with_reducible repeat' first | apply ih0 | apply ih1 | exact LeO.refl _ | exact LeO.none _ | refine LeO.ite ?_ ?_ | refine LeO.bind ?_ (fun _ => ?_)
set_option maxHeartbeats 8000000 in
set_option maxRecDepth 100000 in
theorem impl_MaskOk.calls (k : Nat) (a0_0 : Int) (a0_1 : Int) (a0_2 : Int) (a0_3 : Int) (A0_4 : Option Addr) (c0_4 : Nat) (l0_4 : List Int) (r : Bool) (w : World) (hr0_4 : Kd.C (Kd.int .i64) w A0_4 l0_4.length l0_4) (hc0_4 : l0_4.length ≤ c0_4) (h : impl_MaskOk.f k a0_0 a0_1 a0_2 a0_3 l0_4 = some r) :
  Calls Try.prog 27 #[.agg #[.int .i64 a0_0, .int .i64 a0_1, .int .i64 a0_2, .int .i64 a0_3, .slice A0_4 l0_4.length c0_4]] w fun e w' => e = .returned (.bool r) ∧ Below w.heap.size w w' := by
 have hu65 := Try.underlying65; have hu63 := Try.underlying63; have HR0_4 := mk0 hr0_4; have HC0_4 := mk0 hc0_4; clear hr0_4 hc0_4; have HB := mk0 (Below.refl w.heap.size w)
 have H := h; unfold impl_MaskOk.f at H
 clear h
 by_cases c2 : (a0_0 == 0 && (a0_1 == 0 && (a0_2 == 0 && (a0_3 == 0)))) = true
 ·rw [if_pos c2] at H
  have c2b0 : (a0_0 == 0 && (a0_1 == 0 && (a0_2 == 0 && (a0_3 == 0)))) = true := c2
  (try (have c2b1 : decide (a0_0 = 0 && (a0_1 == 0 && (a0_2 == 0 && (a0_3 == 0)))) = true := by simpa using c2))
  (try (have c2b2 : (a0_0 == 0 && (a0_1 == 0 && (a0_2 == 0 && (a0_3 == 0)))) = true := by simpa using c2))
  clear c2
  obtain rfl := Option.some.inj H
  simp only [Option.some.injEq, Prod.mk.injEq] at H; obtain ⟨rfl⟩ := H
  go_enter Try.func27, Try.ntmps27
  go_wp2_with (first | ((with_reducible refine gate_dst (N := 1) rfl ?_); (try (refine gate_guard (by rfl) ?_; dsimp only)); refine boxz (cs := #[.int .i64 a0_0, .int .i64 a0_1, .int .i64 a0_2, .int .i64 a0_3, .slice A0_4 l0_4.length c0_4]) (t := 65) rfl ?_; intro gb406 hg w3 hbox hb; have GW406 := mk0 (ge_go (a := w.heap.size) hg (below_size q_149)); have GE406 := GW406; replace HB := bS q_149 hb; have BK406 := mk0 (hbox); clear hb hbox hg; obtain ⟨_, _, _, _, _, _, _, _, _, _⟩ := be_5 BK406.out))
  go_ret
  exact ⟨q_71, z14_5⟩
 rw [if_neg c2] at H
 have c2b0 : (a0_0 == 0 && (a0_1 == 0 && (a0_2 == 0 && (a0_3 == 0)))) = false := by simpa using c2
 (try (have c2b1 : decide (a0_0 = 0 && (a0_1 == 0 && (a0_2 == 0 && (a0_3 == 0)))) = false := by simpa using c2))
 (try (have c2b2 : (a0_0 == 0 && (a0_1 == 0 && (a0_2 == 0 && (a0_3 == 0)))) = false := by simpa using c2))
 (try (have c2b3 : ¬ (a0_0 = 0 && (a0_1 == 0 && (a0_2 == 0 && (a0_3 == 0)))) := by simpa using c2))
 clear c2; have HC5 := mk0 H; clear H; go_enter Try.func27, Try.ntmps27
 go_upto_region 3 with (first | ((with_reducible refine gate_dst (N := 1) rfl ?_); (try (refine gate_guard (by rfl) ?_; dsimp only)); refine boxz (cs := #[.int .i64 a0_0, .int .i64 a0_1, .int .i64 a0_2, .int .i64 a0_3, .slice A0_4 l0_4.length c0_4]) (t := 65) rfl ?_; intro gb406 hg w6 hbox hb; have GW406 := mk0 (ge_go (a := w.heap.size) hg (below_size q_149)); have GE406 := GW406; replace HB := bS q_149 hb; have BK406 := mk0 (hbox); clear hb hbox hg; obtain ⟨_, _, _, _, _, _, _, _, _, _⟩ := be_5 BK406.out))
 (try simp only [Act.put, List.setIfInBounds_toArray, List.set_cons_zero, List.set_cons_succ])
 go_cut [37] (fun v37 wc => ∃ (kq : Nat) (x37_4 : Bool), v37 = .bool x37_4 ∧ Aside0 (impl_MaskOk.j0 kq x37_4 a0_0 a0_1 a0_2 a0_3 l0_4 = some r) ∧ Aside0 (kq ≤ k) ∧ Aside0 (wc.heap[gb406]? = some (.cells #[.int .i64 a0_0, .int .i64 a0_1, .int .i64 a0_2, .int .i64 a0_3, (.slice A0_4 l0_4.length c0_4)] 65 (0, 0))) ∧ Aside0 (Below w.heap.size w wc))
 case first =>
  have H := HC5.out; clear HC5; obtain ⟨t407, A8, H⟩ := bnd H
  try dsimp only at H
  by_cases c9 : t407 = true
  rotate_left
  ·replace c9 := Bool.eq_false_iff.mpr c9; subst c9; rw [if_neg (show ¬ (false = true) by decide)] at H
   have H' := mk0 H
   clear H; obtain ⟨_, _, _, _, _, _, _, _, _, _⟩ := be_5 BK406.out
   go_wp2_with (first | ((with_reducible refine gate_callee (f := 88) rfl ?_); refine gl_ (some 15) Try.func88 #[.agg #[.int .i64 a0_0, .int .i64 a0_1, .int .i64 a0_2, .int .i64 a0_3]] rfl q_0 ?_; (with_reducible refine (impl_isMaskBox.calls a0_0 a0_1 a0_2 a0_3 false _ A8.out).mono ?_); rintro e w14 ⟨rfl, hb⟩; refine ⟨_, rfl, ?_⟩; replace BK406 := bB BK406 hb; replace HB := bS z14_5 hb; clear hb))
   go_meet
   case rel => exact ⟨_, (true), rs0, H', ⟨(by first | omega | exact Nat.le_refl _)⟩, ⟨pkb BK406⟩, ⟨z14_5⟩⟩
  subst c9; rw [if_pos rfl] at H
  have H' := mk0 H
  clear H; obtain ⟨_, _, _, _, _, _, _, _, _, _⟩ := be_5 BK406.out
  go_wp2_with (first | ((with_reducible refine gate_callee (f := 88) rfl ?_); refine gl_ (some 15) Try.func88 #[.agg #[.int .i64 a0_0, .int .i64 a0_1, .int .i64 a0_2, .int .i64 a0_3]] rfl q_0 ?_; (with_reducible refine (impl_isMaskBox.calls a0_0 a0_1 a0_2 a0_3 true _ A8.out).mono ?_); rintro e w11 ⟨rfl, hb⟩; refine ⟨_, rfl, ?_⟩; replace BK406 := bB BK406 hb; replace HB := bS z14_5 hb; clear hb; obtain ⟨_, _, _, _, _, _, _, _, _, _⟩ := be_5 BK406.out))
  go_meet
  case rel => exact ⟨_, (((l0_4.length : Int) != (wrap64 ((wrap64 (a0_2 - a0_0)) * (wrap64 (a0_3 - a0_1)))))), rs0, H', ⟨(by first | omega | exact Nat.le_refl _)⟩, ⟨pkb BK406⟩, ⟨z14_5⟩⟩
 case rest =>
  clear HC5; try clear c2
  try clear c2b0
  try clear c2b1
  try clear c2b2
  obtain ⟨kq, x37_4, rfl, HA, HJ4, BK406, HB⟩ := hcut
  cases kq with
  | zero => exact absurd HA.out (by simp [impl_MaskOk.j0])
  | succ kj4 =>
   have H := HA.out; clear HA; simp only [impl_MaskOk.j0] at H
   by_cases c15 : x37_4 = true
   ·subst c15; rw [if_pos rfl] at H
    obtain rfl := Option.some.inj H
    simp only [Option.some.injEq, Prod.mk.injEq] at H; obtain ⟨rfl⟩ := H
    go_wp2
    go_ret
    exact ⟨q_71, z14_5⟩
   replace c15 := Bool.eq_false_iff.mpr c15; subst c15; rw [if_neg (show ¬ (false = true) by decide)] at H
   have H' := mk0 H
   clear H; obtain ⟨_, _, _, _, _, _, _, _, _, _⟩ := be_5 BK406.out
   go_wp2
   go_loopg [41] kj4 (fun kq v41 w' => ∃ (x41_2 : Int), v41 = .int .i64 x41_2 ∧ Aside0 (impl_MaskOk.l0 kq l0_4 (l0_4.length : Int) x41_2 = some r) ∧ Aside0 (kq ≤ kj4) ∧ Aside0 (w'.heap[gb406]? = some (.cells #[.int .i64 a0_0, .int .i64 a0_1, .int .i64 a0_2, .int .i64 a0_3, (.slice A0_4 l0_4.length c0_4)] 65 (0, 0))) ∧ Aside0 (Below w.heap.size w w'))
   case atStart => exact ⟨(0), rs0, H', ⟨Nat.le_refl _⟩, ⟨pkb BK406⟩, ⟨z14_5⟩⟩
   case round =>
    clear H'; (try clear c15); obtain ⟨x41_2, rfl, HA, HK2, BK406, HB⟩ := hrel
    cases gk with
    | zero => exact absurd HA.out (by simp [impl_MaskOk.l0])
    | succ k2 =>
     have H := HA.out; clear HA; simp only [impl_MaskOk.l0] at H
     by_cases c17 : x41_2 < (l0_4.length : Int)
     rotate_left
     ·rw [if_neg c17] at H; have c17b0 := decide_eq_false c17; clear c17
      obtain rfl := Option.some.inj H
      simp only [Option.some.injEq, Prod.mk.injEq] at H; obtain ⟨rfl⟩ := H
      go_wp2
      go_ret
      exact ⟨q_71, z14_5⟩
     rw [if_pos c17] at H; have c17b0 := decide_eq_true c17; clear c17
     by_cases c18 : 0 ≤ x41_2
     rotate_left
     ·rw [if_neg c18] at H
      exact absurd H (by simp)
     rw [if_pos c18] at H; have c18b0 := decide_eq_true c18; clear c18
     by_cases c19 : x41_2 < (l0_4.length : Int)
     rotate_left
     ·rw [if_neg c19] at H
      exact absurd H (by simp)
     rw [if_pos c19] at H; have c19b0 := decide_eq_true c19; clear c19; obtain ⟨t409, A20, H⟩ := bnd H
     try dsimp only at H
     by_cases c21 : t409 = true
     rotate_left
     ·replace c21 := Bool.eq_false_iff.mpr c21; subst c21; rw [if_neg (show ¬ (false = true) by decide)] at H
      obtain rfl := Option.some.inj H
      simp only [Option.some.injEq, Prod.mk.injEq] at H; obtain ⟨rfl⟩ := H
      have p408 : 0 ≤ (x41_2 : Int) := of_decide_eq_true (by first | (with_reducible assumption) | assumption)
      have q408 : x41_2 < (l0_4.length : Int) := of_decide_eq_true (by first | (with_reducible assumption) | assumption)
      obtain ⟨ad408, e408, hx408_0⟩ := Kd.at_int HR0_4.out x41_2 p408 q408
      cases e408
      replace hx408_0 := cell_go HB hx408_0; replace p408 := eq_true p408; replace q408 := eq_true q408
      go_wp2_with (first | ((with_reducible refine gate_callee (f := 72) rfl ?_); refine gl_ (some 46) Try.func72 #[.int .i64 (rd l0_4 x41_2), .int .i64 0, .int .i64 15] rfl q_0 ?_; (with_reducible refine (impl_inRange.calls (rd l0_4 x41_2) 0 15 false _ A20.out).mono ?_); rintro e w' ⟨rfl, ⟨nd, rfl⟩⟩; refine ⟨_, rfl, ?_⟩))
      go_ret
      exact ⟨q_71, z14_5⟩
     subst c21; rw [if_pos rfl] at H
     have H' := mk0 H
     clear H
     have p408 : 0 ≤ (x41_2 : Int) := of_decide_eq_true (by first | (with_reducible assumption) | assumption)
     have q408 : x41_2 < (l0_4.length : Int) := of_decide_eq_true (by first | (with_reducible assumption) | assumption)
     obtain ⟨ad408, e408, hx408_0⟩ := Kd.at_int HR0_4.out x41_2 p408 q408
     cases e408
     replace hx408_0 := cell_go HB hx408_0; replace p408 := eq_true p408; replace q408 := eq_true q408
     go_wp2_with (first | ((with_reducible refine gate_callee (f := 72) rfl ?_); refine gl_ (some 46) Try.func72 #[.int .i64 (rd l0_4 x41_2), .int .i64 0, .int .i64 15] rfl q_0 ?_; (with_reducible refine (impl_inRange.calls (rd l0_4 x41_2) 0 15 true _ A20.out).mono ?_); rintro e w' ⟨rfl, ⟨nd, rfl⟩⟩; refine ⟨_, rfl, ?_⟩))
     go_roundg k2
     case measure => have := HJ4.out; have := HK2.out; omega
     case rel => exact ⟨(wrap64 (x41_2 + 1)), rs0, H', ⟨(by have := HJ4.out; have := HK2.out; omega)⟩, ⟨pkb BK406⟩, ⟨z14_5⟩⟩

/-! ### laws_sameInts: function 89 -/
def laws_sameInts.l0 : Nat → List Int → List Int → Int → Option (Bool)
 | 0, _, _, _ => none
 | k + 1, x0, x1, x5 => if x5 < (x0.length : Int) then (if 0 ≤ x5 then (if x5 < (x1.length : Int) then (if (rd x0 x5) = (rd x1 x5) then (laws_sameInts.l0 k x0 x1 (wrap64 (x5 + 1))) else (some false)) else (none)) else (none)) else (some true)
def laws_sameInts.f (k : Nat) (l0 : List Int) (l1 : List Int) : Option (Bool) := if (l0.length : Int) = (l1.length : Int) then (laws_sameInts.l0 k l0 l1 0) else (some false)
theorem laws_sameInts.mono_l : ∀ k, (∀ y0 y1 y2, LeO (laws_sameInts.l0 k y0 y1 y2) (laws_sameInts.l0 (k + 1) y0 y1 y2))
 | 0 => fun _ _ _ r h => by simp [laws_sameInts.l0] at h
 | k + 1 => by
  have ih0 := laws_sameInts.mono_l k
  ·intro y0 y1 y2
   unfold laws_sameInts.l0
   with_reducible repeat' first | apply ih0 | exact LeO.refl _ | exact LeO.none _ | refine LeO.ite ?_ ?_ | refine LeO.bind ?_ (fun _ => ?_)
theorem laws_sameInts.mono : ∀ a0 a1 k, LeO (laws_sameInts.f k a0 a1) (laws_sameInts.f (k + 1) a0 a1) := by
 intro a0 a1 k; have ih0 := laws_sameInts.mono_l k
 unfold laws_sameInts.f
 with_reducible repeat' first | apply ih0 | exact LeO.refl _ | exact LeO.none _ | refine LeO.ite ?_ ?_ | refine LeO.bind ?_ (fun _ => ?_)
set_option maxHeartbeats 8000000 in
set_option maxRecDepth 100000 in
theorem laws_sameInts.calls (k : Nat) (A0 : Option Addr) (c0 : Nat) (l0 : List Int) (A1 : Option Addr) (c1 : Nat) (l1 : List Int) (r : Bool) (w : World) (hr0 : Kd.C (Kd.int .i64) w A0 l0.length l0) (hc0 : l0.length ≤ c0) (hr1 : Kd.C (Kd.int .i64) w A1 l1.length l1) (hc1 : l1.length ≤ c1) (h : laws_sameInts.f k l0 l1 = some r) :
  Calls Try.prog 89 #[.slice A0 l0.length c0, .slice A1 l1.length c1] w fun e w' => e = .returned (.bool r) ∧ Drawn0 w w' := by
 have HR0 := mk0 hr0; have HC0 := mk0 hc0; clear hr0 hc0; have HR1 := mk0 hr1; have HC1 := mk0 hc1; clear hr1 hc1
 have H := h; unfold laws_sameInts.f at H
 clear h
 by_cases c3 : (l0.length : Int) = (l1.length : Int)
 rotate_left
 ·rw [if_neg c3] at H
  have c3b0 : ((l0.length : Int) == (l1.length : Int)) = false := beq_eq_false_iff_ne.mpr c3
  have c3b1 : ((l0.length : Int) != (l1.length : Int)) = true := bne_iff_ne.mpr c3
  have c3b2 : (l0.length == l1.length) = false := by first | simpa using c3 | (simp at c3 ⊢; omega)
  obtain rfl := Option.some.inj H
  simp only [Option.some.injEq, Prod.mk.injEq] at H; obtain ⟨rfl⟩ := H
  go_enter Try.func89, Try.ntmps89
  go_wp2
  repeat (go_quiet (fail); try go_wp2)
  go_ret
  exact ⟨rs0, q_183⟩
 rw [if_pos c3] at H
 have c3b0 : ((l0.length : Int) == (l1.length : Int)) = true := beq_iff_eq.mpr c3
 have c3b1 : ((l0.length : Int) != (l1.length : Int)) = false := bne_eq_false_iff_eq.mpr c3
 have c3b2 : (l0.length == l1.length) = true := by first | simpa using c3 | (simp at c3 ⊢; omega)
 clear c3
 have H' := mk0 H
 clear H; go_enter Try.func89, Try.ntmps89
 go_wp2
 repeat (go_quiet (fail); try go_wp2)
 go_loopg [5] k (fun kq v5 w' => ∃ (x5_1 : Int), v5 = .int .i64 x5_1 ∧ Aside0 (laws_sameInts.l0 kq l0 l1 x5_1 = some r) ∧ Aside0 (kq ≤ k) ∧ Drawn0 w w')
 case atStart => exact ⟨(0), rs0, H', ⟨Nat.le_refl _⟩, q_183⟩
 case round =>
  clear H'
  try clear c1
  try clear c3b0
  try clear c3b1
  try clear c3b2
  obtain ⟨x5_1, rfl, HA, HK1, ⟨m1, rfl⟩⟩ := hrel
  cases gk with
  | zero => exact absurd HA.out (by simp [laws_sameInts.l0])
  | succ k1 =>
   have H := HA.out; clear HA; simp only [laws_sameInts.l0] at H
   by_cases c4 : x5_1 < (l0.length : Int)
   rotate_left
   ·rw [if_neg c4] at H; have c4b0 := decide_eq_false c4; clear c4
    obtain rfl := Option.some.inj H
    simp only [Option.some.injEq, Prod.mk.injEq] at H; obtain ⟨rfl⟩ := H
    go_wp2
    repeat (go_quiet (fail); try go_wp2)
    go_ret
    exact ⟨rs0, q_183⟩
   rw [if_pos c4] at H; have c4b0 := decide_eq_true c4; clear c4
   by_cases c5 : 0 ≤ x5_1
   rotate_left
   ·rw [if_neg c5] at H
    exact absurd H (by simp)
   rw [if_pos c5] at H; have c5b0 := decide_eq_true c5; clear c5
   by_cases c6 : x5_1 < (l1.length : Int)
   rotate_left
   ·rw [if_neg c6] at H
    exact absurd H (by simp)
   rw [if_pos c6] at H; have c6b0 := decide_eq_true c6; clear c6
   by_cases c7 : (rd l0 x5_1) = (rd l1 x5_1)
   rotate_left
   ·rw [if_neg c7] at H
    have c7b0 : ((rd l0 x5_1) == (rd l1 x5_1)) = false := beq_eq_false_iff_ne.mpr c7
    have c7b1 : ((rd l0 x5_1) != (rd l1 x5_1)) = true := bne_iff_ne.mpr c7
    obtain rfl := Option.some.inj H
    simp only [Option.some.injEq, Prod.mk.injEq] at H; obtain ⟨rfl⟩ := H
    have p410 : 0 ≤ (x5_1 : Int) := of_decide_eq_true (by first | (with_reducible assumption) | assumption)
    have q410 : x5_1 < (l0.length : Int) := of_decide_eq_true (by first | (with_reducible assumption) | assumption)
    obtain ⟨ad410, e410, hx410_0⟩ := Kd.at_int HR0.out x5_1 p410 q410
    cases e410
    replace p410 := eq_true p410; replace q410 := eq_true q410
    have p411 : 0 ≤ (x5_1 : Int) := of_decide_eq_true (by first | (with_reducible assumption) | assumption)
    have q411 : x5_1 < (l1.length : Int) := of_decide_eq_true (by first | (with_reducible assumption) | assumption)
    obtain ⟨ad411, e411, hx411_0⟩ := Kd.at_int HR1.out x5_1 p411 q411
    cases e411
    replace p411 := eq_true p411; replace q411 := eq_true q411
    go_wp2
    repeat (go_quiet (fail); try go_wp2)
    go_ret
    exact ⟨rs0, q_183⟩
   rw [if_pos c7] at H
   have c7b0 : ((rd l0 x5_1) == (rd l1 x5_1)) = true := beq_iff_eq.mpr c7
   have c7b1 : ((rd l0 x5_1) != (rd l1 x5_1)) = false := bne_eq_false_iff_eq.mpr c7
   clear c7
   have H' := mk0 H
   clear H
   have p410 : 0 ≤ (x5_1 : Int) := of_decide_eq_true (by first | (with_reducible assumption) | assumption)
   have q410 : x5_1 < (l0.length : Int) := of_decide_eq_true (by first | (with_reducible assumption) | assumption)
   obtain ⟨ad410, e410, hx410_0⟩ := Kd.at_int HR0.out x5_1 p410 q410
   cases e410
   replace p410 := eq_true p410; replace q410 := eq_true q410
   have p411 : 0 ≤ (x5_1 : Int) := of_decide_eq_true (by first | (with_reducible assumption) | assumption)
   have q411 : x5_1 < (l1.length : Int) := of_decide_eq_true (by first | (with_reducible assumption) | assumption)
   obtain ⟨ad411, e411, hx411_0⟩ := Kd.at_int HR1.out x5_1 p411 q411
   cases e411
   replace p411 := eq_true p411; replace q411 := eq_true q411
   go_wp2
   repeat (go_quiet (fail); try go_wp2)
   go_roundg k1
   case measure => have := HK1.out; omega
   case rel => exact ⟨(wrap64 (x5_1 + 1)), rs0, H', ⟨(by have := HK1.out; omega)⟩, q_183⟩

/-! ### laws_sameMask: function 28 -/
def laws_sameMask.f (k : Nat) (a0_0 : Int) (a0_1 : Int) (a0_2 : Int) (a0_3 : Int) (l0_4 : List Int) (a1_0 : Int) (a1_1 : Int) (a1_2 : Int) (a1_3 : Int) (l1_4 : List Int) : Option (Bool) := if (a0_0 == a1_0 && (a0_1 == a1_1 && (a0_2 == a1_2 && (a0_3 == a1_3)))) = true then ((laws_sameInts.f k l0_4 l1_4).bind fun t414 => (some t414)) else (some false)
theorem laws_sameMask.mono : ∀ a0 a1 a2 a3 a4 a5 a6 a7 a8 a9 k, LeO (laws_sameMask.f k a0 a1 a2 a3 a4 a5 a6 a7 a8 a9) (laws_sameMask.f (k + 1) a0 a1 a2 a3 a4 a5 a6 a7 a8 a9) := by
 intro a0 a1 a2 a3 a4 a5 a6 a7 a8 a9 k
 unfold laws_sameMask.f
 with_reducible repeat' first | apply laws_sameInts.mono | exact LeO.refl _ | exact LeO.none _ | refine LeO.ite ?_ ?_ | refine LeO.bind ?_ (fun _ => ?_)
set_option maxHeartbeats 8000000 in
set_option maxRecDepth 100000 in
theorem laws_sameMask.calls (k : Nat) (a0_0 : Int) (a0_1 : Int) (a0_2 : Int) (a0_3 : Int) (A0_4 : Option Addr) (c0_4 : Nat) (l0_4 : List Int) (a1_0 : Int) (a1_1 : Int) (a1_2 : Int) (a1_3 : Int) (A1_4 : Option Addr) (c1_4 : Nat) (l1_4 : List Int) (r : Bool) (w : World) (hr0_4 : Kd.C (Kd.int .i64) w A0_4 l0_4.length l0_4) (hc0_4 : l0_4.length ≤ c0_4) (hr1_4 : Kd.C (Kd.int .i64) w A1_4 l1_4.length l1_4) (hc1_4 : l1_4.length ≤ c1_4) (h : laws_sameMask.f k a0_0 a0_1 a0_2 a0_3 l0_4 a1_0 a1_1 a1_2 a1_3 l1_4 = some r) :
  Calls Try.prog 28 #[.agg #[.int .i64 a0_0, .int .i64 a0_1, .int .i64 a0_2, .int .i64 a0_3, .slice A0_4 l0_4.length c0_4], .agg #[.int .i64 a1_0, .int .i64 a1_1, .int .i64 a1_2, .int .i64 a1_3, .slice A1_4 l1_4.length c1_4]] w fun e w' => e = .returned (.bool r) ∧ Below w.heap.size w w' := by
 have hu65 := Try.underlying65; have hu63 := Try.underlying63; have HR0_4 := mk0 hr0_4; have HC0_4 := mk0 hc0_4; clear hr0_4 hc0_4; have HR1_4 := mk0 hr1_4; have HC1_4 := mk0 hc1_4; clear hr1_4 hc1_4; have HB := mk0 (Below.refl w.heap.size w)
 have H := h; unfold laws_sameMask.f at H
 clear h
 by_cases c3 : (a0_0 == a1_0 && (a0_1 == a1_1 && (a0_2 == a1_2 && (a0_3 == a1_3)))) = true
 rotate_left
 ·rw [if_neg c3] at H
  have c3b0 : (a0_0 == a1_0 && (a0_1 == a1_1 && (a0_2 == a1_2 && (a0_3 == a1_3)))) = false := by simpa using c3
  (try (have c3b1 : decide (a0_0 = a1_0 && (a0_1 == a1_1 && (a0_2 == a1_2 && (a0_3 == a1_3)))) = false := by simpa using c3))
  (try (have c3b2 : (a0_0 == a1_0 && (a0_1 == a1_1 && (a0_2 == a1_2 && (a0_3 == a1_3)))) = false := by simpa using c3))
  (try (have c3b3 : ¬ (a0_0 = a1_0 && (a0_1 == a1_1 && (a0_2 == a1_2 && (a0_3 == a1_3)))) := by simpa using c3))
  clear c3
  obtain rfl := Option.some.inj H
  simp only [Option.some.injEq, Prod.mk.injEq] at H; obtain ⟨rfl⟩ := H
  go_enter Try.func28, Try.ntmps28
  go_wp2_with (first | ((with_reducible refine gate_dst (N := 2) rfl ?_); refine boxz (cs := #[.int .i64 a0_0, .int .i64 a0_1, .int .i64 a0_2, .int .i64 a0_3, .slice A0_4 l0_4.length c0_4]) (t := 65) rfl ?_; intro gb412 hg w10 hbox hb; have GW412 := mk0 (ge_go (a := w.heap.size) hg (below_size q_149)); have GE412 := GW412; replace HB := bS q_149 hb; have BK412 := mk0 (hbox); clear hb hbox hg) | ((with_reducible refine gate_dst (N := 3) rfl ?_); refine boxz (cs := #[.int .i64 a1_0, .int .i64 a1_1, .int .i64 a1_2, .int .i64 a1_3, .slice A1_4 l1_4.length c1_4]) (t := 65) rfl ?_; intro gb413 hg w11 hbox hb; have GW413 := mk0 (ge_go (a := w.heap.size) hg (below_size z14_6)); have GE413 := GW413; have NB412_413 := mk0 (nb_lt hg (blk_ltB BK412 (pkb BK412))); have NB413_412 := mk0 (nb_gt hg (blk_ltB BK412 (pkb BK412))); replace BK412 := bB BK412 hb; replace HB := bS z14_6 hb; have BK413 := mk0 (hbox); clear hb hbox hg; have hnb12 := NB412_413.out; have hnc12 := NB413_412.out; obtain ⟨_, _, _, _, _, _, _, _, _, _⟩ := be_5 BK412.out; obtain ⟨_, _, _, _, _, _, _, _, _, _⟩ := be_5 BK413.out))
  go_ret
  exact ⟨q_71, z14_13⟩
 rw [if_pos c3] at H
 have c3b0 : (a0_0 == a1_0 && (a0_1 == a1_1 && (a0_2 == a1_2 && (a0_3 == a1_3)))) = true := c3
 (try (have c3b1 : decide (a0_0 = a1_0 && (a0_1 == a1_1 && (a0_2 == a1_2 && (a0_3 == a1_3)))) = true := by simpa using c3))
 (try (have c3b2 : (a0_0 == a1_0 && (a0_1 == a1_1 && (a0_2 == a1_2 && (a0_3 == a1_3)))) = true := by simpa using c3))
 clear c3; obtain ⟨t414, A4, H⟩ := bnd H
 try dsimp only at H
 obtain rfl := Option.some.inj H
 simp only [Option.some.injEq, Prod.mk.injEq] at H; obtain ⟨rfl⟩ := H
 go_enter Try.func28, Try.ntmps28
 go_wp2_with (first | ((with_reducible refine gate_dst (N := 2) rfl ?_); refine boxz (cs := #[.int .i64 a0_0, .int .i64 a0_1, .int .i64 a0_2, .int .i64 a0_3, .slice A0_4 l0_4.length c0_4]) (t := 65) rfl ?_; intro gb412 hg w5 hbox hb; have GW412 := mk0 (ge_go (a := w.heap.size) hg (below_size q_149)); have GE412 := GW412; replace HB := bS q_149 hb; have BK412 := mk0 (hbox); clear hb hbox hg) | ((with_reducible refine gate_dst (N := 3) rfl ?_); refine boxz (cs := #[.int .i64 a1_0, .int .i64 a1_1, .int .i64 a1_2, .int .i64 a1_3, .slice A1_4 l1_4.length c1_4]) (t := 65) rfl ?_; intro gb413 hg w6 hbox hb; have GW413 := mk0 (ge_go (a := w.heap.size) hg (below_size z14_6)); have GE413 := GW413; have NB412_413 := mk0 (nb_lt hg (blk_ltB BK412 (pkb BK412))); have NB413_412 := mk0 (nb_gt hg (blk_ltB BK412 (pkb BK412))); replace BK412 := bB BK412 hb; replace HB := bS z14_6 hb; have BK413 := mk0 (hbox); clear hb hbox hg; have hnb7 := NB412_413.out; have hnc7 := NB413_412.out; obtain ⟨_, _, _, _, _, _, _, _, _, _⟩ := be_5 BK412.out; obtain ⟨_, _, _, _, _, _, _, _, _, _⟩ := be_5 BK413.out) | (go_at_call 89; (with_reducible refine (laws_sameInts.calls k _ _ l0_4 _ _ l1_4 t414 _ ?side1 ?side2 ?side3 ?side4 A4.out).mono ?_); (case side1 => repeat (first | exact (Kd.C_below HR0_4.out HB.out) | (with_reducible refine Kd.C_alloc ?_ _) | (with_reducible refine Kd.C_drewN ?_ _) | (with_reducible refine Kd.C_drew ?_))); (case side2 => exact HC0_4.out); (case side3 => repeat (first | exact (Kd.C_below HR1_4.out HB.out) | (with_reducible refine Kd.C_alloc ?_ _) | (with_reducible refine Kd.C_drewN ?_ _) | (with_reducible refine Kd.C_drew ?_))); (case side4 => exact HC1_4.out); rintro e w' ⟨rfl, ⟨nd, rfl⟩⟩))
 go_ret
 exact ⟨q_71, z14_13⟩

/-! ### impl_InBox: function 110 -/
def impl_InBox.f (a0_0 : Int) (a0_1 : Int) (a0_2 : Int) (a0_3 : Int) (a1_0 : Int) (a1_1 : Int) : Option (Bool) := if a1_0 ≥ a0_0 then (if a1_0 < a0_2 then (if a1_1 ≥ a0_1 then (some (decide (a1_1 < a0_3))) else (some false)) else (some false)) else (some false)
set_option maxHeartbeats 8000000 in
set_option maxRecDepth 100000 in
theorem impl_InBox.calls (a0_0 : Int) (a0_1 : Int) (a0_2 : Int) (a0_3 : Int) (a1_0 : Int) (a1_1 : Int) (r : Bool) (w : World) (h : impl_InBox.f a0_0 a0_1 a0_2 a0_3 a1_0 a1_1 = some r) :
  Calls Try.prog 110 #[.agg #[.int .i64 a0_0, .int .i64 a0_1, .int .i64 a0_2, .int .i64 a0_3], .agg #[.int .i64 a1_0, .int .i64 a1_1]] w fun e w' => e = .returned (.bool r) ∧ Below w.heap.size w w' := by
 have hu63 := Try.underlying63; have hu52 := Try.underlying52; have HB := mk0 (Below.refl w.heap.size w)
 have H := h; unfold impl_InBox.f at H
 clear h
 by_cases c3 : a1_0 ≥ a0_0
 rotate_left
 ·rw [if_neg c3] at H; have c3b0 := decide_eq_false c3; clear c3
  obtain rfl := Option.some.inj H
  simp only [Option.some.injEq, Prod.mk.injEq] at H; obtain ⟨rfl⟩ := H
  go_enter Try.func110, Try.ntmps110
  go_wp2_with (first | ((with_reducible refine gate_dst (N := 2) rfl ?_); refine boxz (cs := #[.int .i64 a0_0, .int .i64 a0_1, .int .i64 a0_2, .int .i64 a0_3]) (t := 63) rfl ?_; intro gb415 hg w21 hbox hb; have GW415 := mk0 (ge_go (a := w.heap.size) hg (below_size q_149)); have GE415 := GW415; replace HB := bS q_149 hb; have BK415 := mk0 (hbox); clear hb hbox hg) | ((with_reducible refine gate_dst (N := 3) rfl ?_); refine boxz (cs := #[.int .i64 a1_0, .int .i64 a1_1]) (t := 52) rfl ?_; intro gb416 hg w22 hbox hb; have GW416 := mk0 (ge_go (a := w.heap.size) hg (below_size z14_4)); have GE416 := GW416; have NB415_416 := mk0 (nb_lt hg (blk_ltB BK415 (pkb BK415))); have NB416_415 := mk0 (nb_gt hg (blk_ltB BK415 (pkb BK415))); replace BK415 := bB BK415 hb; replace HB := bS z14_4 hb; have BK416 := mk0 (hbox); clear hb hbox hg; have hnb23 := NB416_415.out; have hnc23 := NB415_416.out; obtain ⟨_, _, _, _⟩ := be_2 BK416.out; obtain ⟨_, _, _, _, _, _, _, _⟩ := be_4 BK415.out))
  go_ret
  exact ⟨q_71, z14_7⟩
 rw [if_pos c3] at H; have c3b0 := decide_eq_true c3; clear c3
 by_cases c4 : a1_0 < a0_2
 rotate_left
 ·rw [if_neg c4] at H; have c4b0 := decide_eq_false c4; clear c4
  obtain rfl := Option.some.inj H
  simp only [Option.some.injEq, Prod.mk.injEq] at H; obtain ⟨rfl⟩ := H
  go_enter Try.func110, Try.ntmps110
  go_wp2_with (first | ((with_reducible refine gate_dst (N := 2) rfl ?_); refine boxz (cs := #[.int .i64 a0_0, .int .i64 a0_1, .int .i64 a0_2, .int .i64 a0_3]) (t := 63) rfl ?_; intro gb415 hg w16 hbox hb; have GW415 := mk0 (ge_go (a := w.heap.size) hg (below_size q_149)); have GE415 := GW415; replace HB := bS q_149 hb; have BK415 := mk0 (hbox); clear hb hbox hg) | ((with_reducible refine gate_dst (N := 3) rfl ?_); refine boxz (cs := #[.int .i64 a1_0, .int .i64 a1_1]) (t := 52) rfl ?_; intro gb416 hg w17 hbox hb; have GW416 := mk0 (ge_go (a := w.heap.size) hg (below_size z14_4)); have GE416 := GW416; have NB415_416 := mk0 (nb_lt hg (blk_ltB BK415 (pkb BK415))); have NB416_415 := mk0 (nb_gt hg (blk_ltB BK415 (pkb BK415))); replace BK415 := bB BK415 hb; replace HB := bS z14_4 hb; have BK416 := mk0 (hbox); clear hb hbox hg; have hnb18 := NB416_415.out; have hnc18 := NB415_416.out; obtain ⟨_, _, _, _⟩ := be_2 BK416.out; obtain ⟨_, _, _, _, _, _, _, _⟩ := be_4 BK415.out))
  go_ret
  exact ⟨q_71, z14_7⟩
 rw [if_pos c4] at H; have c4b0 := decide_eq_true c4; clear c4
 by_cases c5 : a1_1 ≥ a0_1
 ·rw [if_pos c5] at H; have c5b0 := decide_eq_true c5; clear c5
  obtain rfl := Option.some.inj H
  simp only [Option.some.injEq, Prod.mk.injEq] at H; obtain ⟨rfl⟩ := H
  go_enter Try.func110, Try.ntmps110
  go_wp2_with (first | ((with_reducible refine gate_dst (N := 2) rfl ?_); refine boxz (cs := #[.int .i64 a0_0, .int .i64 a0_1, .int .i64 a0_2, .int .i64 a0_3]) (t := 63) rfl ?_; intro gb415 hg w6 hbox hb; have GW415 := mk0 (ge_go (a := w.heap.size) hg (below_size q_149)); have GE415 := GW415; replace HB := bS q_149 hb; have BK415 := mk0 (hbox); clear hb hbox hg) | ((with_reducible refine gate_dst (N := 3) rfl ?_); refine boxz (cs := #[.int .i64 a1_0, .int .i64 a1_1]) (t := 52) rfl ?_; intro gb416 hg w7 hbox hb; have GW416 := mk0 (ge_go (a := w.heap.size) hg (below_size z14_4)); have GE416 := GW416; have NB415_416 := mk0 (nb_lt hg (blk_ltB BK415 (pkb BK415))); have NB416_415 := mk0 (nb_gt hg (blk_ltB BK415 (pkb BK415))); replace BK415 := bB BK415 hb; replace HB := bS z14_4 hb; have BK416 := mk0 (hbox); clear hb hbox hg; have hnb8 := NB416_415.out; have hnc8 := NB415_416.out; obtain ⟨_, _, _, _⟩ := be_2 BK416.out; obtain ⟨_, _, _, _, _, _, _, _⟩ := be_4 BK415.out))
  go_ret
  exact ⟨q_71, z14_7⟩
 rw [if_neg c5] at H; have c5b0 := decide_eq_false c5; clear c5
 obtain rfl := Option.some.inj H
 simp only [Option.some.injEq, Prod.mk.injEq] at H; obtain ⟨rfl⟩ := H
 go_enter Try.func110, Try.ntmps110
 go_wp2_with (first | ((with_reducible refine gate_dst (N := 2) rfl ?_); refine boxz (cs := #[.int .i64 a0_0, .int .i64 a0_1, .int .i64 a0_2, .int .i64 a0_3]) (t := 63) rfl ?_; intro gb415 hg w11 hbox hb; have GW415 := mk0 (ge_go (a := w.heap.size) hg (below_size q_149)); have GE415 := GW415; replace HB := bS q_149 hb; have BK415 := mk0 (hbox); clear hb hbox hg) | ((with_reducible refine gate_dst (N := 3) rfl ?_); refine boxz (cs := #[.int .i64 a1_0, .int .i64 a1_1]) (t := 52) rfl ?_; intro gb416 hg w12 hbox hb; have GW416 := mk0 (ge_go (a := w.heap.size) hg (below_size z14_4)); have GE416 := GW416; have NB415_416 := mk0 (nb_lt hg (blk_ltB BK415 (pkb BK415))); have NB416_415 := mk0 (nb_gt hg (blk_ltB BK415 (pkb BK415))); replace BK415 := bB BK415 hb; replace HB := bS z14_4 hb; have BK416 := mk0 (hbox); clear hb hbox hg; have hnb13 := NB416_415.out; have hnc13 := NB415_416.out; obtain ⟨_, _, _, _⟩ := be_2 BK416.out; obtain ⟨_, _, _, _, _, _, _, _⟩ := be_4 BK415.out))
 go_ret
 exact ⟨q_71, z14_7⟩

end Go.Proofs.Ytghbenapnhcllaa.MFnMasks
