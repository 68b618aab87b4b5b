/- Functions of the program as Lean functions, and the proof that a call comes to just these: machine text of this session's own program (myprint.py). -/
import Derived.Test.YtghbenapnhcllaaMFnMeetsx0
import Derived.Test.YtghbenapnhcllaaMFnMeetsx2
import Derived.Test.YtghbenapnhcllaaMFnMeetsx3
import Derived.Test.YtghbenapnhcllaaMFnMeetsx12
namespace Go.Proofs.Ytghbenapnhcllaa.MFnMeets
open Go.RowKit Go.Proofs.YtghbenapnhcllaaW.PrintWords Go.Proofs.YtghbenapnhcllaaW.PrintLast Go.Proofs.YtghbenapnhcllaaW.PrintMore
attribute [local go_sem] max2_int min2_int max_two min_two max_three min_three max_four min_four   -- for this text's walks alone
set_option linter.unusedVariables false
set_option linter.unusedSimpArgs false

attribute [local go_sem high] eqA63
theorem z13_0 {P : Prop} (h : P := by repeat (first | (with_reducible first | exact HB.out | apply below_alloc | apply pw_below_drewN | apply below_drew1) | exact HB.out)) : P := h
theorem z13_1 {P : Prop} (h : P := by repeat (first | (with_reducible first | exact HB.out | apply below_alloc | apply pw_below_drewN | apply below_drew1 | refine below_set ?_ GE404.out) | exact HB.out)) : P := h
theorem z13_2 {P : Prop} (h : P := by (try simp only [List.map_toArray, List.map_cons, List.map_nil]); first | done | rfl | (simp only [List.length_drop, List.length_take]; rfl)) : P := h
theorem z13_3 {P : Prop} (h : P := by first | rfl | (simp [errW_none, errW_some] <;> rfl) | (simp [*, errW_none, errW_some] <;> rfl)) : P := h
theorem z13_4 {P : Prop} (h : P := by repeat (first | (with_reducible first | exact HB.out | apply below_alloc | apply pw_below_drewN | apply below_drew1 | refine below_set ?_ GE415.out) | exact HB.out)) : P := h
theorem z13_5 {P : Prop} (h : P := by repeat (first | (with_reducible first | exact HB.out | apply below_alloc | apply pw_below_drewN | apply below_drew1 | refine below_set ?_ GE406.out) | exact HB.out)) : P := h
theorem z13_6 {P : Prop} (h : P := by repeat (first | (with_reducible first | exact HB.out | apply below_alloc | apply pw_below_drewN | apply below_drew1 | refine below_set ?_ GE0.out) | exact HB.out)) : P := h
theorem z13_7 {P : Prop} (h : P := by repeat (first | (with_reducible first | exact HB.out | apply below_alloc | apply pw_below_drewN | apply below_drew1 | refine below_set ?_ GE410.out | refine below_set ?_ GE411.out | refine below_set ?_ GE412.out) | exact HB.out)) : P := h
theorem z13_8 {P : Prop} (h : P := by repeat (first | (with_reducible first | exact HB.out | apply below_alloc | apply pw_below_drewN | apply below_drew1 | refine below_set ?_ GE410.out | refine below_set ?_ GE411.out) | exact HB.out)) : P := h
theorem z13_9 {P : Prop} (h : P := by repeat (first | (with_reducible first | exact HB.out | apply below_alloc | apply pw_below_drewN | apply below_drew1 | refine below_set ?_ GE410.out) | exact HB.out)) : P := h
theorem z13_10 {P : Prop} (h : P := by repeat (first | (with_reducible first | exact HB.out | apply below_alloc | apply pw_below_drewN | apply below_drew1 | refine below_set ?_ GE410.out | refine below_set ?_ GE411.out | refine below_set ?_ GE412.out | refine below_set ?_ GE413.out) | exact HB.out)) : P := h
theorem z13_11 {P : Prop} (h : P := by (with_reducible repeat (first | refine blk_drewN ?_ _ | refine blk_drew ?_ | refine blk_alloc ?_ _)); refine blk_far ?_ NB410_413.out _; (with_reducible repeat (first | refine blk_drewN ?_ _ | refine blk_drew ?_ | refine blk_alloc ?_ _)); refine blk_far ?_ NB410_413.out _; (with_reducible repeat (first | refine blk_drewN ?_ _ | refine blk_drew ?_ | refine blk_alloc ?_ _)); refine blk_far ?_ NB410_413.out _; (with_reducible repeat (first | refine blk_drewN ?_ _ | refine blk_drew ?_ | refine blk_alloc ?_ _)); refine blk_far ?_ NB410_413.out _; (with_reducible repeat (first | refine blk_drewN ?_ _ | refine blk_drew ?_ | refine blk_alloc ?_ _)); exact BK410.out) : P := h
theorem z13_12 {P : Prop} (h : P := by (with_reducible repeat (first | refine blk_drewN ?_ _ | refine blk_drew ?_ | refine blk_alloc ?_ _)); refine blk_far ?_ NB411_413.out _; (with_reducible repeat (first | refine blk_drewN ?_ _ | refine blk_drew ?_ | refine blk_alloc ?_ _)); refine blk_far ?_ NB411_413.out _; (with_reducible repeat (first | refine blk_drewN ?_ _ | refine blk_drew ?_ | refine blk_alloc ?_ _)); refine blk_far ?_ NB411_413.out _; (with_reducible repeat (first | refine blk_drewN ?_ _ | refine blk_drew ?_ | refine blk_alloc ?_ _)); refine blk_far ?_ NB411_413.out _; (with_reducible repeat (first | refine blk_drewN ?_ _ | refine blk_drew ?_ | refine blk_alloc ?_ _)); exact BK411.out) : P := h
theorem z13_13 {P : Prop} (h : P := by (with_reducible repeat (first | refine blk_drewN ?_ _ | refine blk_drew ?_ | refine blk_alloc ?_ _)); refine blk_far ?_ NB412_413.out _; (with_reducible repeat (first | refine blk_drewN ?_ _ | refine blk_drew ?_ | refine blk_alloc ?_ _)); refine blk_far ?_ NB412_413.out _; (with_reducible repeat (first | refine blk_drewN ?_ _ | refine blk_drew ?_ | refine blk_alloc ?_ _)); refine blk_far ?_ NB412_413.out _; (with_reducible repeat (first | refine blk_drewN ?_ _ | refine blk_drew ?_ | refine blk_alloc ?_ _)); refine blk_far ?_ NB412_413.out _; (with_reducible repeat (first | refine blk_drewN ?_ _ | refine blk_drew ?_ | refine blk_alloc ?_ _)); exact BK412.out) : P := h
theorem z13_14 {P : Prop} (h : P := by repeat (first | (with_reducible first | exact HB.out | apply below_alloc | apply pw_below_drewN | apply below_drew1 | refine below_set ?_ GE415.out | refine below_set ?_ GE416.out) | exact HB.out)) : P := h
theorem z13_15 {P : Prop} (h : P := by repeat (first | (with_reducible first | exact HB.out | apply below_alloc | apply pw_below_drewN | apply below_drew1 | refine below_set ?_ (IsS152.ge HI384.out) | refine below_set ?_ GE379.out | refine below_set ?_ GE380.out) | exact HB.out)) : P := h
theorem z13_16 {P : Prop} (h : P := by repeat (first | (with_reducible first | exact HB.out | apply below_alloc | apply pw_below_drewN | apply below_drew1 | refine below_set ?_ GE2.out | refine below_set ?_ GE3.out) | exact HB.out)) : P := h
theorem z13_17 {P : Prop} (h : P := by repeat (first | (with_reducible first | exact HB.out | apply below_alloc | apply pw_below_drewN | apply below_drew1 | refine below_set ?_ GE379.out) | exact HB.out)) : P := h
theorem z13_18 {P : Prop} (h : P := by apply blk_fin; (focus ((with_reducible repeat (first | apply blk_putQ | refine blk_drewN ?_ _ | refine blk_drew ?_ | refine blk_alloc ?_ _)); exact BK413.out)); first | (simp only [List.setIfInBounds_toArray, List.set_cons_zero, List.set_cons_succ]; done) | rfl) : P := h
theorem z13_19 {P : Prop} (h : P := by apply blk_fin; (focus ((with_reducible repeat (first | apply blk_putQ | refine blk_drewN ?_ _ | refine blk_drew ?_ | refine blk_alloc ?_ _)); exact BK412.out)); first | (simp only [List.setIfInBounds_toArray, List.set_cons_zero, List.set_cons_succ]; done) | rfl) : P := h
theorem z13_20 {P : Prop} (h : P := by repeat (first | (with_reducible first | exact HI384.out | apply IsS152.alloc | apply IsS152.drewN | apply IsS152.drew | apply IsS152.set_1 | apply IsS152.set_2 | apply IsS152.farB NB384_379.out | apply IsS152.farB NB384_380.out) | exact HI384.out)) : P := h
theorem z13_21 {P : Prop} (h : P := by repeat (first | (with_reducible first | exact HB.out | apply below_alloc | apply pw_below_drewN | apply below_drew1 | refine below_set ?_ (IsS152.ge HI384.out) | refine below_set ?_ GE379.out | refine below_set ?_ GE380.out) | exact HB.out)) : P := h
theorem z13_22 {P : Prop} (h : P := by first | rfl | (simp [errW_none, errW_some] <;> rfl) | (simp only [← hji3, ← hji4, ← hji5, ← hji6]; first | rfl | (simp [errW_none, errW_some] <;> rfl)) | (simp [*, errW_none, errW_some] <;> rfl)) : P := h
theorem z13_23 {P : Prop} (h : P := by (try simp only [List.map_toArray, List.map_cons, List.map_nil]); first | done | (simp only [hji3, hji4, hji5, hji6]; rfl) | rfl | (simp only [List.length_drop, List.length_take]; rfl)) : P := h
theorem z13_24 {P : Prop} (h : P := by repeat (first | (with_reducible first | exact HB.out | apply below_alloc | apply pw_below_drewN | apply below_drew1 | refine below_set ?_ GE403.out) | exact HB.out)) : P := h
/-! ### spec_DrawMasks: function 25 -/
def spec_DrawMasks.f (k : Nat) (l0 : List Int) : Option (Int × Int × Int × Int × List Int × Int × Int × Int × Int × List Int) := (spec_l01New.f k l0).bind fun bt381 => ((spec_l11Mask.f k bt381.1 bt381.2.1 bt381.2.2).bind fun bt385 => ((spec_l11Mask.f k bt381.1 bt385.2.2.2.2.2.1 bt385.2.2.2.2.2.2).bind fun bt394 => (some (bt385.1, bt385.2.1, bt385.2.2.1, bt385.2.2.2.1, bt385.2.2.2.2.1, bt394.1, bt394.2.1, bt394.2.2.1, bt394.2.2.2.1, bt394.2.2.2.2.1))))
theorem spec_DrawMasks.mono : ∀ a0 k, LeO (spec_DrawMasks.f k a0) (spec_DrawMasks.f (k + 1) a0) := by
 intro a0 k
 unfold spec_DrawMasks.f
 repeat' first
   | (with_reducible exact spec_l01New.mono _ _)
   | (with_reducible exact spec_l11Mask.mono _ _ _ _)
   | (with_reducible exact LeO.refl _)
   | (with_reducible exact LeO.none _)
   | (with_reducible refine LeO.ite ?_ ?_)
   | (with_reducible refine LeO.bind ?_ (fun _ => ?_))
set_option maxHeartbeats 8000000 in
set_option maxRecDepth 100000 in
theorem spec_DrawMasks.calls (k : Nat) (A0 : Option Addr) (c0 : Nat) (l0 : List Int) (r1 : Int) (r2 : Int) (r3 : Int) (r4 : Int) (r5 : List Int) (r6 : Int) (r7 : Int) (r8 : Int) (r9 : Int) (r10 : List Int) (w : World) (hr0 : Kd.C (Kd.int .u8) w A0 l0.length l0) (hc0 : l0.length ≤ c0) (h : spec_DrawMasks.f k l0 = some (r1, r2, r3, r4, r5, r6, r7, r8, r9, r10)) :
  Calls Try.prog 25 #[.slice A0 l0.length c0] w fun e w' => ∃ v4_ v9_ : Value, e = .returned (.tuple #[.agg #[.int .i64 r1, .int .i64 r2, .int .i64 r3, .int .i64 r4, v4_], .agg #[.int .i64 r6, .int .i64 r7, .int .i64 r8, .int .i64 r9, v9_]]) ∧ Kd.R (Kd.int .i64) 3 w' w.heap.size (fun k_ => some k_ ≠ (v9_ : Value).ownBlock) v4_ r5 ∧ Kd.R (Kd.int .i64) 3 w' w.heap.size (fun k_ => some k_ ≠ (v4_ : Value).ownBlock) v9_ r10 ∧ Below w.heap.size w w' := by
 have hu65 := Try.underlying65
 have HR0 := mk0 hr0
 have HC0 := mk0 hc0
 clear hr0 hc0
 have HB := mk0 (Below.refl w.heap.size w)
 have H : ((spec_l01New.f k l0).bind fun bt381 => ((spec_l11Mask.f k bt381.1 bt381.2.1 bt381.2.2).bind fun bt385 => ((spec_l11Mask.f k bt381.1 bt385.2.2.2.2.2.1 bt385.2.2.2.2.2.2).bind fun bt394 => (some (bt385.1, bt385.2.1, bt385.2.2.1, bt385.2.2.2.1, bt385.2.2.2.2.1, bt394.1, bt394.2.1, bt394.2.2.1, bt394.2.2.2.1, bt394.2.2.2.2.1))))) = some (r1, r2, r3, r4, r5, r6, r7, r8, r9, r10) := h
 clear h
 replace H := Option.bind_eq_some_iff.mp H
 obtain ⟨⟨t381, t382, t383⟩, A20, H⟩ := H
 try dsimp only at H
 have A2 := mk0 A20
 clear A20
 replace H := Option.bind_eq_some_iff.mp H
 obtain ⟨⟨t385, t386, t387, t388, t389, t392, t393⟩, A30, H⟩ := H
 try dsimp only at H
 have A3 := mk0 A30
 clear A30
 replace H := Option.bind_eq_some_iff.mp H
 obtain ⟨⟨t394, t395, t396, t397, t398, t401, t402⟩, A40, H⟩ := H
 try dsimp only at H
 have A4 := mk0 A40
 clear A40
 simp only [Option.some.injEq, Prod.mk.injEq] at H
 obtain ⟨rfl, rfl, rfl, rfl, rfl, rfl, rfl, rfl, rfl, rfl⟩ := H
 go_enter Try.func25, Try.ntmps25
 go_wp2_with (first | ((with_reducible refine gate_dst (N := 2) rfl ?_); refine boxz (cs := #[.int .i64 0, .int .i64 0, .int .i64 0, .int .i64 0, .slice none 0 0]) (t := 65) rfl ?_; intro gb379 hg w5 hbox hb; have n0_ := mk0 (below_step z13_0 hb); have n1_ := mk0 (hbox); have GW379 := mk0 (ge_go (a := w.heap.size) hg (below_size z13_0)); have GE379 := GW379; clear HB; have HB := n0_; have BK379 := n1_; clear n0_ n1_ ; clear hb hbox hg) | ((with_reducible refine gate_dst (N := 3) rfl ?_); refine boxz (cs := #[.int .i64 0, .int .i64 0, .int .i64 0, .int .i64 0, .slice none 0 0]) (t := 65) rfl ?_; intro gb380 hg w6 hbox hb; have n0_ := mk0 (blk_belowB BK379 (pkb BK379) hb); have n1_ := mk0 (below_step z13_17 hb); have n2_ := mk0 (hbox); have GW380 := mk0 (ge_go (a := w.heap.size) hg (below_size z13_17)); have GE380 := GW380; have NB379_380 := mk0 (nb_lt hg (blk_ltB BK379 (pkb BK379))); have NB380_379 := mk0 (nb_gt hg (blk_ltB BK379 (pkb BK379))); clear BK379 HB; have BK379 := n0_; have HB := n1_; have BK380 := n2_; clear n0_ n1_ n2_ ; clear hb hbox hg) | ((with_reducible refine gate_callee (f := 81) rfl ?_); refine goesL_ (some 6) rfl rfl Try.func81 (by kernel_rfl) rfl #[.slice A0 l0.length c0] rfl z13_2 ?_; (with_reducible refine (spec_l01New.calls k _ _ l0 t381 t382 t383 w _ ?side1 ?side2 ?side3 A2.out).mono ?_); (case side1 => repeat (first | (with_reducible first | exact HB.out | apply below_alloc | apply pw_below_drewN | apply below_drew1 | refine below_set ?_ GE379.out | refine below_set ?_ GE380.out) | exact HB.out)); (case side2 => exact HR0.out); (case side3 => exact HC0.out); rintro e w7 ⟨g384, rfl, hi, hb, hb2⟩; refine ⟨_, rfl, ?_⟩; have n0_ := mk0 (blk_belowB BK379 (pkb BK379) hb2); have n1_ := mk0 (blk_belowB BK380 (pkb BK380) hb2); have n2_ := mk0 (hb); have n3_ := mk0 (hi); have n4_ := mk0 (IsS152.ne_blk hi (blk_belowB BK379 (pkb BK379) hb2) (by decide)); have n5_ := mk0 (Ne.symm (IsS152.ne_blk hi (blk_belowB BK379 (pkb BK379) hb2) (by decide))); have n6_ := mk0 (IsS152.ne_blk hi (blk_belowB BK380 (pkb BK380) hb2) (by decide)); have n7_ := mk0 (Ne.symm (IsS152.ne_blk hi (blk_belowB BK380 (pkb BK380) hb2) (by decide))); clear BK379 BK380 HB; have BK379 := n0_; have BK380 := n1_; have HB := n2_; have HI384 := n3_; have NB384_379 := n4_; have NB379_384 := n5_; have NB384_380 := n6_; have NB380_384 := n7_; clear n0_ n1_ n2_ n3_ n4_ n5_ n6_ n7_; (try clear hb); (try clear hb2); (try clear hk); (try clear hi)) | ((with_reducible refine gate_callee (f := 82) rfl ?_); refine goesL_ (some 8) rfl rfl Try.func82 (by kernel_rfl) rfl #[.pointer (some ⟨g384, 0, none⟩)] rfl z13_2 ?_; (with_reducible refine (spec_l11Mask.calls k g384 t381 t382 t383 t385 t386 t387 t388 t389 t392 t393 w _ ?side1 ?side2 A3.out).mono ?_); (case side1 => exact z13_20); (case side2 => exact z13_21); rintro e w8 ⟨v390, rfl, ho0, hi, hb, hk⟩; refine ⟨_, rfl, ?_⟩; have n0_ := mk0 (KeepBut.blk hk (g' := gb379) (o := .cells #[.int .i64 0, .int .i64 0, .int .i64 0, .int .i64 0, .slice none 0 0] 65 (0, 0)) (pkb BK379) NB379_384.out (by simp)); have n1_ := mk0 (KeepBut.blk hk (g' := gb380) (o := .cells #[.int .i64 0, .int .i64 0, .int .i64 0, .int .i64 0, .slice none 0 0] 65 (0, 0)) (pkb BK380) NB380_384.out (by simp)); have n2_ := mk0 (Kd.R_lower ho0 (below_size z13_15)); have n3_ := mk0 (hb); have n4_ := mk0 (hi); clear BK379 BK380 HB HI384; have BK379 := n0_; have BK380 := n1_; have HO391 := n2_; have HB := n3_; have HI384 := n4_; clear n0_ n1_ n2_ n3_ n4_; (try clear hb); (try clear hb2); (try clear hk); (try clear hi); (try clear ho0)) | ((with_reducible refine gate_callee (f := 82) rfl ?_); refine goesL_ (some 10) rfl rfl Try.func82 (by kernel_rfl) rfl #[.pointer (some ⟨g384, 0, none⟩)] rfl z13_2 ?_; (with_reducible refine (spec_l11Mask.calls k g384 t381 t392 t393 t394 t395 t396 t397 t398 t401 t402 w _ ?side1 ?side2 A4.out).mono ?_); (case side1 => exact z13_20); (case side2 => exact z13_21); rintro e w9 ⟨v399, rfl, ho0, hi, hb, hk⟩; refine ⟨_, rfl, ?_⟩; have n0_ := mk0 (KeepBut.blk hk (g' := gb379) (o := .cells #[.int .i64 0, .int .i64 0, .int .i64 0, .int .i64 0, .slice none 0 0] 65 (0, 0)) (pkb BK379) NB379_384.out (by simp)); have n1_ := mk0 (KeepBut.blk hk (g' := gb380) (o := .cells #[.int .i64 0, .int .i64 0, .int .i64 0, .int .i64 0, .slice none 0 0] 65 (0, 0)) (pkb BK380) NB380_384.out (by simp)); have n2_ := mk0 (Kd.R_mono (Kd.R_told (Kd.R_oldK (IsS152.apart (show IsS152 w _ g384 t381 t392 t393 from by repeat (first | (with_reducible first | exact HI384.out | apply IsS152.alloc | apply IsS152.drewN | apply IsS152.drew | apply IsS152.set_1 | apply IsS152.set_2 | apply IsS152.farB NB384_379.out | apply IsS152.farB NB384_380.out) | exact HI384.out)) (pkR HO391) (by decide)) hk) (Kd.R_base ho0)) (fun _ h_ => h_.1)); have n3_ := mk0 (Kd.R_lower (Kd.R_new' ho0 (Kd.R_lt (pkR HO391))) (below_size z13_15)); have n4_ := mk0 (hb); have n5_ := mk0 (hi); clear BK379 BK380 HO391 HB HI384; have BK379 := n0_; have BK380 := n1_; have HO391 := n2_; have HO400 := n3_; have HB := n4_; have HI384 := n5_; clear n0_ n1_ n2_ n3_ n4_ n5_; (try clear hb); (try clear hb2); (try clear hk); (try clear hi); (try clear ho0); have hnb10 := NB379_380.out; have hnc10 := NB380_379.out; have hnb11 := NB379_384.out; have hnc11 := NB384_379.out; obtain ⟨_, _, _, _, _, _, _, _, _, _⟩ := be_5 BK379.out; obtain ⟨Ao13, co13, eo13⟩ := Kd.R_slice HO391.out; subst eo13; have hnb14 := NB380_384.out; have hnc14 := NB384_380.out; obtain ⟨_, _, _, _, _, _, _, _, _, _⟩ := be_5 BK380.out; obtain ⟨Ao16, co16, eo16⟩ := Kd.R_slice HO400.out; subst eo16))
 refine bodyPost_ret (results_cc rfl _ _ gb379 gb380 65 65 #[.int .i64 t385, .int .i64 t386, .int .i64 t387, .int .i64 t388, .slice Ao13 t389.length co13] #[.int .i64 t394, .int .i64 t395, .int .i64 t396, .int .i64 t397, .slice Ao16 t398.length co16] (0, 0) (0, 0) _ _ rfl (by apply blk_fin; (focus ((with_reducible repeat (first | apply blk_putQ | refine blk_farQ NB379_380.out ?_ | refine blk_drewN ?_ _ | refine blk_drew ?_ | refine blk_alloc ?_ _)); exact BK379.out)); first | (simp only [List.setIfInBounds_toArray, List.set_cons_zero, List.set_cons_succ]; done) | rfl) Try.underlying65 rfl (by kernel_rfl) rfl (by apply blk_fin; (focus ((with_reducible repeat (first | apply blk_putQ | refine blk_farQ NB380_379.out ?_ | refine blk_drewN ?_ _ | refine blk_drew ?_ | refine blk_alloc ?_ _)); exact BK380.out)); first | (simp only [List.setIfInBounds_toArray, List.set_cons_zero, List.set_cons_succ]; done) | rfl) Try.underlying65 rfl (by kernel_rfl)) rfl ?_
 exact ⟨_, _, z13_3, (by (with_reducible repeat (first | apply Kd.R_alloc | apply Kd.R_drewN | apply Kd.R_drew)); exact Kd.R_mono (Kd.R_far (p := ⟨gb380, 4, none⟩) (Kd.R_far (p := ⟨gb380, 3, none⟩) (Kd.R_far (p := ⟨gb380, 2, none⟩) (Kd.R_far (p := ⟨gb380, 1, none⟩) (Kd.R_far (p := ⟨gb380, 0, none⟩) (Kd.R_far (p := ⟨gb379, 4, none⟩) (Kd.R_far (p := ⟨gb379, 3, none⟩) (Kd.R_far (p := ⟨gb379, 2, none⟩) (Kd.R_far (p := ⟨gb379, 1, none⟩) (Kd.R_far (p := ⟨gb379, 0, none⟩) (Kd.R_types (Kd.R_types HO391.out BK379.out (by decide)) BK380.out (by decide)) (fun _ hk => hk.1.2) (.int .i64 t385)) (fun _ hk => hk.1.2) (.int .i64 t386)) (fun _ hk => hk.1.2) (.int .i64 t387)) (fun _ hk => hk.1.2) (.int .i64 t388)) (fun _ hk => hk.1.2) (.slice Ao13 t389.length co13)) (fun _ hk => hk.2) (.int .i64 t394)) (fun _ hk => hk.2) (.int .i64 t395)) (fun _ hk => hk.2) (.int .i64 t396)) (fun _ hk => hk.2) (.int .i64 t397)) (fun _ hk => hk.2) (.slice Ao16 t398.length co16)) (fun _ hk => hk.1.1.2)), (by (with_reducible repeat (first | apply Kd.R_alloc | apply Kd.R_drewN | apply Kd.R_drew)); exact Kd.R_mono (Kd.R_far (p := ⟨gb380, 4, none⟩) (Kd.R_far (p := ⟨gb380, 3, none⟩) (Kd.R_far (p := ⟨gb380, 2, none⟩) (Kd.R_far (p := ⟨gb380, 1, none⟩) (Kd.R_far (p := ⟨gb380, 0, none⟩) (Kd.R_far (p := ⟨gb379, 4, none⟩) (Kd.R_far (p := ⟨gb379, 3, none⟩) (Kd.R_far (p := ⟨gb379, 2, none⟩) (Kd.R_far (p := ⟨gb379, 1, none⟩) (Kd.R_far (p := ⟨gb379, 0, none⟩) (Kd.R_types (Kd.R_types HO400.out BK379.out (by decide)) BK380.out (by decide)) (fun _ hk => hk.1.2) (.int .i64 t385)) (fun _ hk => hk.1.2) (.int .i64 t386)) (fun _ hk => hk.1.2) (.int .i64 t387)) (fun _ hk => hk.1.2) (.int .i64 t388)) (fun _ hk => hk.1.2) (.slice Ao13 t389.length co13)) (fun _ hk => hk.2) (.int .i64 t394)) (fun _ hk => hk.2) (.int .i64 t395)) (fun _ hk => hk.2) (.int .i64 t396)) (fun _ hk => hk.2) (.int .i64 t397)) (fun _ hk => hk.2) (.slice Ao16 t398.length co16)) (fun _ hk => hk.1.1.2)), z13_15⟩

/-! ### impl_inRange: function 72 -/
def impl_inRange.f (a0 : Int) (a1 : Int) (a2 : Int) : Option (Bool) := if a0 ≥ a1 then (some (decide (a0 ≤ a2))) else (some false)
set_option maxHeartbeats 8000000 in
set_option maxRecDepth 100000 in
theorem impl_inRange.calls (a0 : Int) (a1 : Int) (a2 : Int) (r : Bool) (w : World) (h : impl_inRange.f a0 a1 a2 = some r) :
  Calls Try.prog 72 #[.int .i64 a0, .int .i64 a1, .int .i64 a2] w fun e w' => e = .returned (.bool r) ∧ Drawn0 w w' := by
 have H : (if a0 ≥ a1 then (some (decide (a0 ≤ a2))) else (some false)) = some r := h
 clear h
 by_cases c4 : a0 ≥ a1
 ·rw [if_pos c4] at H
  have c4b0 := decide_eq_true c4
  clear c4
  obtain rfl := Option.some.inj H
  simp only [Option.some.injEq, Prod.mk.injEq] at H
  obtain ⟨rfl⟩ := H
  go_enter Try.func72, Try.ntmps72
  go_wp2
  go_ret
  exact ⟨rs0, (by repeat (first | exact Drawn0.refl _ | apply Drawn0.step))⟩
 ·rw [if_neg c4] at H
  have c4b0 := decide_eq_false c4
  clear c4
  obtain rfl := Option.some.inj H
  simp only [Option.some.injEq, Prod.mk.injEq] at H
  obtain ⟨rfl⟩ := H
  go_enter Try.func72, Try.ntmps72
  go_wp2
  go_ret
  exact ⟨rs0, (by repeat (first | exact Drawn0.refl _ | apply Drawn0.step))⟩

/-! ### impl_Empty: function 84 -/
def impl_Empty.f (a0_0 : Int) (a0_1 : Int) (a0_2 : Int) (a0_3 : Int) : Option (Bool) := if a0_0 ≥ a0_2 then (some true) else (some (decide (a0_1 ≥ a0_3)))
set_option maxHeartbeats 8000000 in
set_option maxRecDepth 100000 in
theorem impl_Empty.calls (a0_0 : Int) (a0_1 : Int) (a0_2 : Int) (a0_3 : Int) (r : Bool) (w : World) (h : impl_Empty.f a0_0 a0_1 a0_2 a0_3 = some r) :
  Calls Try.prog 84 #[.agg #[.int .i64 a0_0, .int .i64 a0_1, .int .i64 a0_2, .int .i64 a0_3]] w fun e w' => e = .returned (.bool r) ∧ Below w.heap.size w w' := by
 have hu63 := Try.underlying63
 have HB := mk0 (Below.refl w.heap.size w)
 have H : (if a0_0 ≥ a0_2 then (some true) else (some (decide (a0_1 ≥ a0_3)))) = some r := h
 clear h
 by_cases c2 : a0_0 ≥ a0_2
 ·rw [if_pos c2] at H
  have c2b0 := decide_eq_true c2
  clear c2
  obtain rfl := Option.some.inj H
  simp only [Option.some.injEq, Prod.mk.injEq] at H
  obtain ⟨rfl⟩ := H
  go_enter Try.func84, Try.ntmps84
  go_wp2_with (first | ((with_reducible refine gate_dst (N := 1) rfl ?_); refine boxz (cs := #[.int .i64 a0_0, .int .i64 a0_1, .int .i64 a0_2, .int .i64 a0_3]) (t := 63) rfl ?_; intro gb403 hg w3 hbox hb; have n0_ := mk0 (below_step z13_0 hb); have n1_ := mk0 (hbox); have GW403 := mk0 (ge_go (a := w.heap.size) hg (below_size z13_0)); have GE403 := GW403; clear HB; have HB := n0_; have BK403 := n1_; clear n0_ n1_ ; clear hb hbox hg; obtain ⟨_, _, _, _, _, _, _, _⟩ := be_4 BK403.out))
  go_ret
  exact ⟨z13_3, z13_24⟩
 rw [if_neg c2] at H
 have c2b0 := decide_eq_false c2
 clear c2
 obtain rfl := Option.some.inj H
 simp only [Option.some.injEq, Prod.mk.injEq] at H
 obtain ⟨rfl⟩ := H
 go_enter Try.func84, Try.ntmps84
 go_wp2_with (first | ((with_reducible refine gate_dst (N := 1) rfl ?_); refine boxz (cs := #[.int .i64 a0_0, .int .i64 a0_1, .int .i64 a0_2, .int .i64 a0_3]) (t := 63) rfl ?_; intro gb403 hg w5 hbox hb; have n0_ := mk0 (below_step z13_0 hb); have n1_ := mk0 (hbox); have GW403 := mk0 (ge_go (a := w.heap.size) hg (below_size z13_0)); have GE403 := GW403; clear HB; have HB := n0_; have BK403 := n1_; clear n0_ n1_ ; clear hb hbox hg; obtain ⟨_, _, _, _, _, _, _, _⟩ := be_4 BK403.out))
 go_ret
 exact ⟨z13_3, z13_24⟩

/-! ### impl_isMaskBox: function 88 -/
def impl_isMaskBox.f (a0_0 : Int) (a0_1 : Int) (a0_2 : Int) (a0_3 : Int) : Option (Bool) := (impl_Empty.f a0_0 a0_1 a0_2 a0_3).bind fun t405 => (if t405 = true then (some false) else (if a0_0 < (-2000) then (some false) else (if a0_1 < (-2000) then (some false) else (if a0_2 > 2000 then (some false) else (if a0_3 > 2000 then (some false) else (if (wrap64 (a0_2 - a0_0)) ≤ 60 then (some (decide ((wrap64 (a0_3 - a0_1)) ≤ 60))) else (some false)))))))
set_option maxHeartbeats 8000000 in
set_option maxRecDepth 100000 in
theorem impl_isMaskBox.calls (a0_0 : Int) (a0_1 : Int) (a0_2 : Int) (a0_3 : Int) (r : Bool) (w : World) (h : impl_isMaskBox.f a0_0 a0_1 a0_2 a0_3 = some r) :
  Calls Try.prog 88 #[.agg #[.int .i64 a0_0, .int .i64 a0_1, .int .i64 a0_2, .int .i64 a0_3]] w fun e w' => e = .returned (.bool r) ∧ Below w.heap.size w w' := by
 have hu63 := Try.underlying63
 have HB := mk0 (Below.refl w.heap.size w)
 have H : ((impl_Empty.f a0_0 a0_1 a0_2 a0_3).bind fun t405 => (if t405 = true then (some false) else (if a0_0 < (-2000) then (some false) else (if a0_1 < (-2000) then (some false) else (if a0_2 > 2000 then (some false) else (if a0_3 > 2000 then (some false) else (if (wrap64 (a0_2 - a0_0)) ≤ 60 then (some (decide ((wrap64 (a0_3 - a0_1)) ≤ 60))) else (some false)))))))) = some r := h
 clear h
 replace H := Option.bind_eq_some_iff.mp H
 obtain ⟨t405, A20, H⟩ := H
 try dsimp only at H
 have A2 := mk0 A20
 clear A20
 by_cases c3 : t405 = true
 ·subst c3
  rw [if_pos rfl] at H
  obtain rfl := Option.some.inj H
  simp only [Option.some.injEq, Prod.mk.injEq] at H
  obtain ⟨rfl⟩ := H
  go_enter Try.func88, Try.ntmps88
  go_wp2_with (first | ((with_reducible refine gate_dst (N := 1) rfl ?_); refine boxz (cs := #[.int .i64 a0_0, .int .i64 a0_1, .int .i64 a0_2, .int .i64 a0_3]) (t := 63) rfl ?_; intro gb404 hg w4 hbox hb; have n0_ := mk0 (below_step z13_0 hb); have n1_ := mk0 (hbox); have GW404 := mk0 (ge_go (a := w.heap.size) hg (below_size z13_0)); have GE404 := GW404; clear HB; have HB := n0_; have BK404 := n1_; clear n0_ n1_ ; clear hb hbox hg; obtain ⟨_, _, _, _, _, _, _, _⟩ := be_4 BK404.out) | ((with_reducible refine gate_callee (f := 84) rfl ?_); refine goesL_ (some 4) rfl rfl Try.func84 (by kernel_rfl) rfl #[.agg #[.int .i64 a0_0, .int .i64 a0_1, .int .i64 a0_2, .int .i64 a0_3]] rfl z13_2 ?_; (with_reducible refine (impl_Empty.calls a0_0 a0_1 a0_2 a0_3 true _ A2.out).mono ?_); rintro e w6 ⟨rfl, hb⟩; refine ⟨_, rfl, ?_⟩; have n0_ := mk0 (blk_belowB BK404 (pkb BK404) hb); have n1_ := mk0 (below_step z13_1 hb); clear BK404 HB; have BK404 := n0_; have HB := n1_; clear n0_ n1_; (try clear hb)))
  go_ret
  exact ⟨z13_3, z13_1⟩
 replace c3 := Bool.eq_false_iff.mpr c3
 subst c3
 rw [if_neg (show ¬ (false = true) by decide)] at H
 by_cases c7 : a0_0 < (-2000)
 ·rw [if_pos c7] at H
  have c7b0 := decide_eq_true c7
  clear c7
  obtain rfl := Option.some.inj H
  simp only [Option.some.injEq, Prod.mk.injEq] at H
  obtain ⟨rfl⟩ := H
  go_enter Try.func88, Try.ntmps88
  go_wp2_with (first | ((with_reducible refine gate_dst (N := 1) rfl ?_); refine boxz (cs := #[.int .i64 a0_0, .int .i64 a0_1, .int .i64 a0_2, .int .i64 a0_3]) (t := 63) rfl ?_; intro gb404 hg w8 hbox hb; have n0_ := mk0 (below_step z13_0 hb); have n1_ := mk0 (hbox); have GW404 := mk0 (ge_go (a := w.heap.size) hg (below_size z13_0)); have GE404 := GW404; clear HB; have HB := n0_; have BK404 := n1_; clear n0_ n1_ ; clear hb hbox hg; obtain ⟨_, _, _, _, _, _, _, _⟩ := be_4 BK404.out) | ((with_reducible refine gate_callee (f := 84) rfl ?_); refine goesL_ (some 4) rfl rfl Try.func84 (by kernel_rfl) rfl #[.agg #[.int .i64 a0_0, .int .i64 a0_1, .int .i64 a0_2, .int .i64 a0_3]] rfl z13_2 ?_; (with_reducible refine (impl_Empty.calls a0_0 a0_1 a0_2 a0_3 false _ A2.out).mono ?_); rintro e w10 ⟨rfl, hb⟩; refine ⟨_, rfl, ?_⟩; have n0_ := mk0 (blk_belowB BK404 (pkb BK404) hb); have n1_ := mk0 (below_step z13_1 hb); clear BK404 HB; have BK404 := n0_; have HB := n1_; clear n0_ n1_; (try clear hb); obtain ⟨_, _, _, _, _, _, _, _⟩ := be_4 BK404.out))
  go_ret
  exact ⟨z13_3, z13_1⟩
 rw [if_neg c7] at H
 have c7b0 := decide_eq_false c7
 clear c7
 by_cases c12 : a0_1 < (-2000)
 ·rw [if_pos c12] at H
  have c12b0 := decide_eq_true c12
  clear c12
  obtain rfl := Option.some.inj H
  simp only [Option.some.injEq, Prod.mk.injEq] at H
  obtain ⟨rfl⟩ := H
  go_enter Try.func88, Try.ntmps88
  go_wp2_with (first | ((with_reducible refine gate_dst (N := 1) rfl ?_); refine boxz (cs := #[.int .i64 a0_0, .int .i64 a0_1, .int .i64 a0_2, .int .i64 a0_3]) (t := 63) rfl ?_; intro gb404 hg w13 hbox hb; have n0_ := mk0 (below_step z13_0 hb); have n1_ := mk0 (hbox); have GW404 := mk0 (ge_go (a := w.heap.size) hg (below_size z13_0)); have GE404 := GW404; clear HB; have HB := n0_; have BK404 := n1_; clear n0_ n1_ ; clear hb hbox hg; obtain ⟨_, _, _, _, _, _, _, _⟩ := be_4 BK404.out) | ((with_reducible refine gate_callee (f := 84) rfl ?_); refine goesL_ (some 4) rfl rfl Try.func84 (by kernel_rfl) rfl #[.agg #[.int .i64 a0_0, .int .i64 a0_1, .int .i64 a0_2, .int .i64 a0_3]] rfl z13_2 ?_; (with_reducible refine (impl_Empty.calls a0_0 a0_1 a0_2 a0_3 false _ A2.out).mono ?_); rintro e w15 ⟨rfl, hb⟩; refine ⟨_, rfl, ?_⟩; have n0_ := mk0 (blk_belowB BK404 (pkb BK404) hb); have n1_ := mk0 (below_step z13_1 hb); clear BK404 HB; have BK404 := n0_; have HB := n1_; clear n0_ n1_; (try clear hb); obtain ⟨_, _, _, _, _, _, _, _⟩ := be_4 BK404.out))
  go_ret
  exact ⟨z13_3, z13_1⟩
 rw [if_neg c12] at H
 have c12b0 := decide_eq_false c12
 clear c12
 by_cases c17 : a0_2 > 2000
 ·rw [if_pos c17] at H
  have c17b0 := decide_eq_true c17
  clear c17
  obtain rfl := Option.some.inj H
  simp only [Option.some.injEq, Prod.mk.injEq] at H
  obtain ⟨rfl⟩ := H
  go_enter Try.func88, Try.ntmps88
  go_wp2_with (first | ((with_reducible refine gate_dst (N := 1) rfl ?_); refine boxz (cs := #[.int .i64 a0_0, .int .i64 a0_1, .int .i64 a0_2, .int .i64 a0_3]) (t := 63) rfl ?_; intro gb404 hg w18 hbox hb; have n0_ := mk0 (below_step z13_0 hb); have n1_ := mk0 (hbox); have GW404 := mk0 (ge_go (a := w.heap.size) hg (below_size z13_0)); have GE404 := GW404; clear HB; have HB := n0_; have BK404 := n1_; clear n0_ n1_ ; clear hb hbox hg; obtain ⟨_, _, _, _, _, _, _, _⟩ := be_4 BK404.out) | ((with_reducible refine gate_callee (f := 84) rfl ?_); refine goesL_ (some 4) rfl rfl Try.func84 (by kernel_rfl) rfl #[.agg #[.int .i64 a0_0, .int .i64 a0_1, .int .i64 a0_2, .int .i64 a0_3]] rfl z13_2 ?_; (with_reducible refine (impl_Empty.calls a0_0 a0_1 a0_2 a0_3 false _ A2.out).mono ?_); rintro e w20 ⟨rfl, hb⟩; refine ⟨_, rfl, ?_⟩; have n0_ := mk0 (blk_belowB BK404 (pkb BK404) hb); have n1_ := mk0 (below_step z13_1 hb); clear BK404 HB; have BK404 := n0_; have HB := n1_; clear n0_ n1_; (try clear hb); obtain ⟨_, _, _, _, _, _, _, _⟩ := be_4 BK404.out))
  go_ret
  exact ⟨z13_3, z13_1⟩
 rw [if_neg c17] at H
 have c17b0 := decide_eq_false c17
 clear c17
 by_cases c22 : a0_3 > 2000
 ·rw [if_pos c22] at H
  have c22b0 := decide_eq_true c22
  clear c22
  obtain rfl := Option.some.inj H
  simp only [Option.some.injEq, Prod.mk.injEq] at H
  obtain ⟨rfl⟩ := H
  go_enter Try.func88, Try.ntmps88
  go_wp2_with (first | ((with_reducible refine gate_dst (N := 1) rfl ?_); refine boxz (cs := #[.int .i64 a0_0, .int .i64 a0_1, .int .i64 a0_2, .int .i64 a0_3]) (t := 63) rfl ?_; intro gb404 hg w23 hbox hb; have n0_ := mk0 (below_step z13_0 hb); have n1_ := mk0 (hbox); have GW404 := mk0 (ge_go (a := w.heap.size) hg (below_size z13_0)); have GE404 := GW404; clear HB; have HB := n0_; have BK404 := n1_; clear n0_ n1_ ; clear hb hbox hg; obtain ⟨_, _, _, _, _, _, _, _⟩ := be_4 BK404.out) | ((with_reducible refine gate_callee (f := 84) rfl ?_); refine goesL_ (some 4) rfl rfl Try.func84 (by kernel_rfl) rfl #[.agg #[.int .i64 a0_0, .int .i64 a0_1, .int .i64 a0_2, .int .i64 a0_3]] rfl z13_2 ?_; (with_reducible refine (impl_Empty.calls a0_0 a0_1 a0_2 a0_3 false _ A2.out).mono ?_); rintro e w25 ⟨rfl, hb⟩; refine ⟨_, rfl, ?_⟩; have n0_ := mk0 (blk_belowB BK404 (pkb BK404) hb); have n1_ := mk0 (below_step z13_1 hb); clear BK404 HB; have BK404 := n0_; have HB := n1_; clear n0_ n1_; (try clear hb); obtain ⟨_, _, _, _, _, _, _, _⟩ := be_4 BK404.out))
  go_ret
  exact ⟨z13_3, z13_1⟩
 rw [if_neg c22] at H
 have c22b0 := decide_eq_false c22
 clear c22
 by_cases c27 : (wrap64 (a0_2 - a0_0)) ≤ 60
 ·rw [if_pos c27] at H
  have c27b0 := decide_eq_true c27
  clear c27
  obtain rfl := Option.some.inj H
  simp only [Option.some.injEq, Prod.mk.injEq] at H
  obtain ⟨rfl⟩ := H
  go_enter Try.func88, Try.ntmps88
  go_wp2_with (first | ((with_reducible refine gate_dst (N := 1) rfl ?_); refine boxz (cs := #[.int .i64 a0_0, .int .i64 a0_1, .int .i64 a0_2, .int .i64 a0_3]) (t := 63) rfl ?_; intro gb404 hg w28 hbox hb; have n0_ := mk0 (below_step z13_0 hb); have n1_ := mk0 (hbox); have GW404 := mk0 (ge_go (a := w.heap.size) hg (below_size z13_0)); have GE404 := GW404; clear HB; have HB := n0_; have BK404 := n1_; clear n0_ n1_ ; clear hb hbox hg; obtain ⟨_, _, _, _, _, _, _, _⟩ := be_4 BK404.out) | ((with_reducible refine gate_callee (f := 84) rfl ?_); refine goesL_ (some 4) rfl rfl Try.func84 (by kernel_rfl) rfl #[.agg #[.int .i64 a0_0, .int .i64 a0_1, .int .i64 a0_2, .int .i64 a0_3]] rfl z13_2 ?_; (with_reducible refine (impl_Empty.calls a0_0 a0_1 a0_2 a0_3 false _ A2.out).mono ?_); rintro e w30 ⟨rfl, hb⟩; refine ⟨_, rfl, ?_⟩; have n0_ := mk0 (blk_belowB BK404 (pkb BK404) hb); have n1_ := mk0 (below_step z13_1 hb); clear BK404 HB; have BK404 := n0_; have HB := n1_; clear n0_ n1_; (try clear hb); obtain ⟨_, _, _, _, _, _, _, _⟩ := be_4 BK404.out))
  go_ret
  exact ⟨z13_3, z13_1⟩
 rw [if_neg c27] at H
 have c27b0 := decide_eq_false c27
 clear c27
 obtain rfl := Option.some.inj H
 simp only [Option.some.injEq, Prod.mk.injEq] at H
 obtain ⟨rfl⟩ := H
 go_enter Try.func88, Try.ntmps88
 go_wp2_with (first | ((with_reducible refine gate_dst (N := 1) rfl ?_); refine boxz (cs := #[.int .i64 a0_0, .int .i64 a0_1, .int .i64 a0_2, .int .i64 a0_3]) (t := 63) rfl ?_; intro gb404 hg w32 hbox hb; have n0_ := mk0 (below_step z13_0 hb); have n1_ := mk0 (hbox); have GW404 := mk0 (ge_go (a := w.heap.size) hg (below_size z13_0)); have GE404 := GW404; clear HB; have HB := n0_; have BK404 := n1_; clear n0_ n1_ ; clear hb hbox hg; obtain ⟨_, _, _, _, _, _, _, _⟩ := be_4 BK404.out) | ((with_reducible refine gate_callee (f := 84) rfl ?_); refine goesL_ (some 4) rfl rfl Try.func84 (by kernel_rfl) rfl #[.agg #[.int .i64 a0_0, .int .i64 a0_1, .int .i64 a0_2, .int .i64 a0_3]] rfl z13_2 ?_; (with_reducible refine (impl_Empty.calls a0_0 a0_1 a0_2 a0_3 false _ A2.out).mono ?_); rintro e w34 ⟨rfl, hb⟩; refine ⟨_, rfl, ?_⟩; have n0_ := mk0 (blk_belowB BK404 (pkb BK404) hb); have n1_ := mk0 (below_step z13_1 hb); clear BK404 HB; have BK404 := n0_; have HB := n1_; clear n0_ n1_; (try clear hb); obtain ⟨_, _, _, _, _, _, _, _⟩ := be_4 BK404.out))
 go_ret
 exact ⟨z13_3, z13_1⟩

/-! ### impl_MaskOk: function 27 -/
mutual
def impl_MaskOk.j0 : Nat → Bool → Int → Int → Int → Int → List Int → Option (Bool)
 | 0, _, _, _, _, _, _ => none
 | k + 1, x37, x407000, x407001, x407002, x407003, x407004 => if x37 = true then (some false) else (impl_MaskOk.l0 k x407004 (x407004.length : Int) 0)
def impl_MaskOk.l0 : Nat → List Int → Int → Int → Option (Bool)
 | 0, _, _, _ => none
 | k + 1, x39, x40, x41 => if x41 < x40 then (if 0 ≤ x41 then (if x41 < (x39.length : Int) then ((impl_inRange.f (rd x39 x41) 0 15).bind fun t409 => (if t409 = true then (impl_MaskOk.l0 k x39 x40 (wrap64 (x41 + 1))) else (some false))) else (none)) else (none)) else (some true)
end
def impl_MaskOk.f (k : Nat) (a0_0 : Int) (a0_1 : Int) (a0_2 : Int) (a0_3 : Int) (l0_4 : List Int) : Option (Bool) := if (a0_0 == 0 && (a0_1 == 0 && (a0_2 == 0 && (a0_3 == 0)))) = true then (some ((l0_4.length : Int) == 0)) else ((impl_isMaskBox.f a0_0 a0_1 a0_2 a0_3).bind fun t407 => (if t407 = true then (impl_MaskOk.j0 k ((l0_4.length : Int) != (wrap64 ((wrap64 (a0_2 - a0_0)) * (wrap64 (a0_3 - a0_1))))) a0_0 a0_1 a0_2 a0_3 l0_4) else (impl_MaskOk.j0 k true a0_0 a0_1 a0_2 a0_3 l0_4)))
theorem impl_MaskOk.mono_l : ∀ k, (∀ y0 y1 y2 y3 y4 y5, LeO (impl_MaskOk.j0 k y0 y1 y2 y3 y4 y5) (impl_MaskOk.j0 (k + 1) y0 y1 y2 y3 y4 y5)) ∧ (∀ y0 y1 y2, LeO (impl_MaskOk.l0 k y0 y1 y2) (impl_MaskOk.l0 (k + 1) y0 y1 y2))
 | 0 => ⟨fun _ _ _ _ _ _ r h => by simp [impl_MaskOk.j0] at h, fun _ _ _ r h => by simp [impl_MaskOk.l0] at h⟩
 | k + 1 => by
  obtain ⟨ih0, ih1⟩ := impl_MaskOk.mono_l k
  refine ⟨?_, ?_⟩
  ·intro y0 y1 y2 y3 y4 y5
   unfold impl_MaskOk.j0
   repeat' first
   | (with_reducible exact ih0 _ _ _ _ _ _)
   | (with_reducible exact ih1 _ _ _)
   | (with_reducible exact LeO.refl _)
   | (with_reducible exact LeO.none _)
   | (with_reducible refine LeO.ite ?_ ?_)
   | (with_reducible refine LeO.bind ?_ (fun _ => ?_))
  ·intro y0 y1 y2
   unfold impl_MaskOk.l0
   repeat' first
   | (with_reducible exact ih0 _ _ _ _ _ _)
   | (with_reducible exact ih1 _ _ _)
   | (with_reducible exact LeO.refl _)
   | (with_reducible exact LeO.none _)
   | (with_reducible refine LeO.ite ?_ ?_)
   | (with_reducible refine LeO.bind ?_ (fun _ => ?_))
theorem impl_MaskOk.mono : ∀ a0 a1 a2 a3 a4 k, LeO (impl_MaskOk.f k a0 a1 a2 a3 a4) (impl_MaskOk.f (k + 1) a0 a1 a2 a3 a4) := by
 intro a0 a1 a2 a3 a4 k
 obtain ⟨ih0, ih1⟩ := impl_MaskOk.mono_l k
 unfold impl_MaskOk.f
 repeat' first
   | (with_reducible exact ih0 _ _ _ _ _ _)
   | (with_reducible exact ih1 _ _ _)
   | (with_reducible exact LeO.refl _)
   | (with_reducible exact LeO.none _)
   | (with_reducible refine LeO.ite ?_ ?_)
   | (with_reducible refine LeO.bind ?_ (fun _ => ?_))
set_option maxHeartbeats 8000000 in
set_option maxRecDepth 100000 in
theorem impl_MaskOk.calls (k : Nat) (a0_0 : Int) (a0_1 : Int) (a0_2 : Int) (a0_3 : Int) (A0_4 : Option Addr) (c0_4 : Nat) (l0_4 : List Int) (r : Bool) (w : World) (hr0_4 : Kd.C (Kd.int .i64) w A0_4 l0_4.length l0_4) (hc0_4 : l0_4.length ≤ c0_4) (h : impl_MaskOk.f k a0_0 a0_1 a0_2 a0_3 l0_4 = some r) :
  Calls Try.prog 27 #[.agg #[.int .i64 a0_0, .int .i64 a0_1, .int .i64 a0_2, .int .i64 a0_3, .slice A0_4 l0_4.length c0_4]] w fun e w' => e = .returned (.bool r) ∧ Below w.heap.size w w' := by
 have hu65 := Try.underlying65
 have hu63 := Try.underlying63
 have HR0_4 := mk0 hr0_4
 have HC0_4 := mk0 hc0_4
 clear hr0_4 hc0_4
 have HB := mk0 (Below.refl w.heap.size w)
 have H : (if (a0_0 == 0 && (a0_1 == 0 && (a0_2 == 0 && (a0_3 == 0)))) = true then (some ((l0_4.length : Int) == 0)) else ((impl_isMaskBox.f a0_0 a0_1 a0_2 a0_3).bind fun t407 => (if t407 = true then (impl_MaskOk.j0 k ((l0_4.length : Int) != (wrap64 ((wrap64 (a0_2 - a0_0)) * (wrap64 (a0_3 - a0_1))))) a0_0 a0_1 a0_2 a0_3 l0_4) else (impl_MaskOk.j0 k true a0_0 a0_1 a0_2 a0_3 l0_4)))) = some r := h
 clear h
 by_cases c2 : (a0_0 == 0 && (a0_1 == 0 && (a0_2 == 0 && (a0_3 == 0)))) = true
 ·rw [if_pos c2] at H
  have c2b0 : (a0_0 == 0 && (a0_1 == 0 && (a0_2 == 0 && (a0_3 == 0)))) = true := c2
  (try (have c2b1 : decide (a0_0 = 0 && (a0_1 == 0 && (a0_2 == 0 && (a0_3 == 0)))) = true := by simpa using c2))
  (try (have c2b2 : (a0_0 == 0 && (a0_1 == 0 && (a0_2 == 0 && (a0_3 == 0)))) = true := by simpa using c2))
  clear c2
  obtain rfl := Option.some.inj H
  simp only [Option.some.injEq, Prod.mk.injEq] at H
  obtain ⟨rfl⟩ := H
  go_enter Try.func27, Try.ntmps27
  go_wp2_with (first | ((with_reducible refine gate_dst (N := 1) rfl ?_); (try (refine gate_guard (by rfl) ?_; dsimp only)); refine boxz (cs := #[.int .i64 a0_0, .int .i64 a0_1, .int .i64 a0_2, .int .i64 a0_3, .slice A0_4 l0_4.length c0_4]) (t := 65) rfl ?_; intro gb406 hg w3 hbox hb; have n0_ := mk0 (below_step z13_0 hb); have n1_ := mk0 (hbox); have GW406 := mk0 (ge_go (a := w.heap.size) hg (below_size z13_0)); have GE406 := GW406; clear HB; have HB := n0_; have BK406 := n1_; clear n0_ n1_ ; clear hb hbox hg; obtain ⟨_, _, _, _, _, _, _, _, _, _⟩ := be_5 BK406.out))
  go_ret
  exact ⟨z13_3, z13_5⟩
 rw [if_neg c2] at H
 have c2b0 : (a0_0 == 0 && (a0_1 == 0 && (a0_2 == 0 && (a0_3 == 0)))) = false := by simpa using c2
 (try (have c2b1 : decide (a0_0 = 0 && (a0_1 == 0 && (a0_2 == 0 && (a0_3 == 0)))) = false := by simpa using c2))
 (try (have c2b2 : (a0_0 == 0 && (a0_1 == 0 && (a0_2 == 0 && (a0_3 == 0)))) = false := by simpa using c2))
 (try (have c2b3 : ¬ (a0_0 = 0 && (a0_1 == 0 && (a0_2 == 0 && (a0_3 == 0)))) := by simpa using c2))
 clear c2
 have HC5 := mk0 H
 clear H
 go_enter Try.func27, Try.ntmps27
 go_upto_region 3 with (first | ((with_reducible refine gate_dst (N := 1) rfl ?_); (try (refine gate_guard (by rfl) ?_; dsimp only)); refine boxz (cs := #[.int .i64 a0_0, .int .i64 a0_1, .int .i64 a0_2, .int .i64 a0_3, .slice A0_4 l0_4.length c0_4]) (t := 65) rfl ?_; intro gb406 hg w6 hbox hb; have n0_ := mk0 (below_step z13_0 hb); have n1_ := mk0 (hbox); have GW406 := mk0 (ge_go (a := w.heap.size) hg (below_size z13_0)); have GE406 := GW406; clear HB; have HB := n0_; have BK406 := n1_; clear n0_ n1_ ; clear hb hbox hg; obtain ⟨_, _, _, _, _, _, _, _, _, _⟩ := be_5 BK406.out))
 (try simp only [Act.put, List.setIfInBounds_toArray, List.set_cons_zero, List.set_cons_succ])
 go_cut [37] (fun v37 wc => ∃ (kq : Nat) (x37_4 : Bool), v37 = .bool x37_4 ∧ Aside0 (impl_MaskOk.j0 kq x37_4 a0_0 a0_1 a0_2 a0_3 l0_4 = some r) ∧ Aside0 (kq ≤ k) ∧ Aside0 (wc.heap[gb406]? = some (.cells #[.int .i64 a0_0, .int .i64 a0_1, .int .i64 a0_2, .int .i64 a0_3, (.slice A0_4 l0_4.length c0_4)] 65 (0, 0))) ∧ Aside0 (Below w.heap.size w wc))
 case first =>
  have H := HC5.out; clear HC5
  replace H := Option.bind_eq_some_iff.mp H
  obtain ⟨t407, A80, H⟩ := H
  try dsimp only at H
  have A8 := mk0 A80
  clear A80
  by_cases c9 : t407 = true
  rotate_left
  ·replace c9 := Bool.eq_false_iff.mpr c9
   subst c9
   rw [if_neg (show ¬ (false = true) by decide)] at H
   have H' := mk0 H
   clear H
   obtain ⟨_, _, _, _, _, _, _, _, _, _⟩ := be_5 BK406.out
   go_wp2_with (first | ((with_reducible refine gate_callee (f := 88) rfl ?_); refine goesL_ (some 15) rfl rfl Try.func88 (by kernel_rfl) rfl #[.agg #[.int .i64 a0_0, .int .i64 a0_1, .int .i64 a0_2, .int .i64 a0_3]] rfl z13_2 ?_; (with_reducible refine (impl_isMaskBox.calls a0_0 a0_1 a0_2 a0_3 false _ A8.out).mono ?_); rintro e w14 ⟨rfl, hb⟩; refine ⟨_, rfl, ?_⟩; have n0_ := mk0 (blk_belowB BK406 (pkb BK406) hb); have n1_ := mk0 (below_step z13_5 hb); clear BK406 HB; have BK406 := n0_; have HB := n1_; clear n0_ n1_; (try clear hb)))
   go_meet
   case rel => exact ⟨_, (true), rs0, H', ⟨(by first | omega | exact Nat.le_refl _)⟩, ⟨pkb BK406⟩, ⟨z13_5⟩⟩
  subst c9
  rw [if_pos rfl] at H
  have H' := mk0 H
  clear H
  obtain ⟨_, _, _, _, _, _, _, _, _, _⟩ := be_5 BK406.out
  go_wp2_with (first | ((with_reducible refine gate_callee (f := 88) rfl ?_); refine goesL_ (some 15) rfl rfl Try.func88 (by kernel_rfl) rfl #[.agg #[.int .i64 a0_0, .int .i64 a0_1, .int .i64 a0_2, .int .i64 a0_3]] rfl z13_2 ?_; (with_reducible refine (impl_isMaskBox.calls a0_0 a0_1 a0_2 a0_3 true _ A8.out).mono ?_); rintro e w11 ⟨rfl, hb⟩; refine ⟨_, rfl, ?_⟩; have n0_ := mk0 (blk_belowB BK406 (pkb BK406) hb); have n1_ := mk0 (below_step z13_5 hb); clear BK406 HB; have BK406 := n0_; have HB := n1_; clear n0_ n1_; (try clear hb); obtain ⟨_, _, _, _, _, _, _, _, _, _⟩ := be_5 BK406.out))
  go_meet
  case rel => exact ⟨_, (((l0_4.length : Int) != (wrap64 ((wrap64 (a0_2 - a0_0)) * (wrap64 (a0_3 - a0_1)))))), rs0, H', ⟨(by first | omega | exact Nat.le_refl _)⟩, ⟨pkb BK406⟩, ⟨z13_5⟩⟩
 case rest =>
  clear HC5; try clear c2
  try clear c2b0
  try clear c2b1
  try clear c2b2
  try clear p2
  try clear p6
  try clear c8
  try clear c9
  obtain ⟨kq, x37_4, rfl, HA, HJ4, BK406, HB⟩ := hcut
  cases kq with
  | zero => exact absurd HA.out (by simp [impl_MaskOk.j0])
  | succ kj4 =>
   have H := HA.out; clear HA
   simp only [impl_MaskOk.j0] at H
   by_cases c15 : x37_4 = true
   ·subst c15
    rw [if_pos rfl] at H
    obtain rfl := Option.some.inj H
    simp only [Option.some.injEq, Prod.mk.injEq] at H
    obtain ⟨rfl⟩ := H
    go_wp2
    go_ret
    exact ⟨z13_3, z13_5⟩
   replace c15 := Bool.eq_false_iff.mpr c15
   subst c15
   rw [if_neg (show ¬ (false = true) by decide)] at H
   have H' := mk0 H
   clear H
   obtain ⟨_, _, _, _, _, _, _, _, _, _⟩ := be_5 BK406.out
   go_wp2
   go_loopg [41] kj4 (fun kq v41 w' => ∃ (x41_2 : Int), v41 = .int .i64 x41_2 ∧ Aside0 (impl_MaskOk.l0 kq l0_4 (l0_4.length : Int) x41_2 = some r) ∧ Aside0 (kq ≤ kj4) ∧ Aside0 (w'.heap[gb406]? = some (.cells #[.int .i64 a0_0, .int .i64 a0_1, .int .i64 a0_2, .int .i64 a0_3, (.slice A0_4 l0_4.length c0_4)] 65 (0, 0))) ∧ Aside0 (Below w.heap.size w w'))
   case atStart => exact ⟨(0), rs0, H', ⟨Nat.le_refl _⟩, ⟨pkb BK406⟩, ⟨z13_5⟩⟩
   case round =>
    clear H'
    try clear c1
    try clear c2
    try clear c2b0
    try clear c2b1
    try clear c2b2
    try clear p2
    try clear p6
    try clear c8
    try clear c9
    try clear c15
    try clear p2
    try clear p6
    obtain ⟨x41_2, rfl, HA, HK2, BK406, HB⟩ := hrel
    cases gk with
    | zero => exact absurd HA.out (by simp [impl_MaskOk.l0])
    | succ k2 =>
     have H := HA.out; clear HA
     simp only [impl_MaskOk.l0] at H
     by_cases c17 : x41_2 < (l0_4.length : Int)
     rotate_left
     ·rw [if_neg c17] at H
      have c17b0 := decide_eq_false c17
      clear c17
      obtain rfl := Option.some.inj H
      simp only [Option.some.injEq, Prod.mk.injEq] at H
      obtain ⟨rfl⟩ := H
      go_wp2
      go_ret
      exact ⟨z13_3, z13_5⟩
     rw [if_pos c17] at H
     have c17b0 := decide_eq_true c17
     clear c17
     by_cases c18 : 0 ≤ x41_2
     rotate_left
     ·rw [if_neg c18] at H
      exact absurd H (by simp)
     rw [if_pos c18] at H
     have c18b0 := decide_eq_true c18
     clear c18
     by_cases c19 : x41_2 < (l0_4.length : Int)
     rotate_left
     ·rw [if_neg c19] at H
      exact absurd H (by simp)
     rw [if_pos c19] at H
     have c19b0 := decide_eq_true c19
     clear c19
     replace H := Option.bind_eq_some_iff.mp H
     obtain ⟨t409, A200, H⟩ := H
     try dsimp only at H
     have A20 := mk0 A200
     clear A200
     by_cases c21 : t409 = true
     rotate_left
     ·replace c21 := Bool.eq_false_iff.mpr c21
      subst c21
      rw [if_neg (show ¬ (false = true) by decide)] at H
      obtain rfl := Option.some.inj H
      simp only [Option.some.injEq, Prod.mk.injEq] at H
      obtain ⟨rfl⟩ := H
      have p408 : 0 ≤ (x41_2 : Int) := of_decide_eq_true (by first | (with_reducible assumption) | assumption)
      have q408 : x41_2 < (l0_4.length : Int) := of_decide_eq_true (by first | (with_reducible assumption) | assumption)
      obtain ⟨ad408, e408, hx408_0⟩ := Kd.at_int HR0_4.out x41_2 p408 q408
      cases e408
      replace hx408_0 := cell_go HB hx408_0
      replace p408 := eq_true p408
      replace q408 := eq_true q408
      go_wp2_with (first | ((with_reducible refine gate_callee (f := 72) rfl ?_); refine goesL_ (some 46) rfl rfl Try.func72 (by kernel_rfl) rfl #[.int .i64 (rd l0_4 x41_2), .int .i64 0, .int .i64 15] rfl z13_2 ?_; (with_reducible refine (impl_inRange.calls (rd l0_4 x41_2) 0 15 false _ A20.out).mono ?_); rintro e w' ⟨rfl, ⟨nd, rfl⟩⟩; refine ⟨_, rfl, ?_⟩))
      go_ret
      exact ⟨z13_3, z13_5⟩
     subst c21
     rw [if_pos rfl] at H
     have H' := mk0 H
     clear H
     have p408 : 0 ≤ (x41_2 : Int) := of_decide_eq_true (by first | (with_reducible assumption) | assumption)
     have q408 : x41_2 < (l0_4.length : Int) := of_decide_eq_true (by first | (with_reducible assumption) | assumption)
     obtain ⟨ad408, e408, hx408_0⟩ := Kd.at_int HR0_4.out x41_2 p408 q408
     cases e408
     replace hx408_0 := cell_go HB hx408_0
     replace p408 := eq_true p408
     replace q408 := eq_true q408
     go_wp2_with (first | ((with_reducible refine gate_callee (f := 72) rfl ?_); refine goesL_ (some 46) rfl rfl Try.func72 (by kernel_rfl) rfl #[.int .i64 (rd l0_4 x41_2), .int .i64 0, .int .i64 15] rfl z13_2 ?_; (with_reducible refine (impl_inRange.calls (rd l0_4 x41_2) 0 15 true _ A20.out).mono ?_); rintro e w' ⟨rfl, ⟨nd, rfl⟩⟩; refine ⟨_, rfl, ?_⟩))
     go_roundg k2
     case measure => have := HJ4.out; have := HK2.out; omega
     case rel => exact ⟨(wrap64 (x41_2 + 1)), rs0, H', ⟨(by have := HJ4.out; have := HK2.out; omega)⟩, ⟨pkb BK406⟩, ⟨z13_5⟩⟩

/-! ### impl_MeetBox: function 83 -/
def impl_MeetBox.f (a0_0 : Int) (a0_1 : Int) (a0_2 : Int) (a0_3 : Int) (a1_0 : Int) (a1_1 : Int) (a1_2 : Int) (a1_3 : Int) : Option (Int × Int × Int × Int) := (impl_Empty.f (mx a0_0 a1_0) (mx a0_1 a1_1) (mn a0_2 a1_2) (mn a0_3 a1_3)).bind fun t414 => (if t414 = true then (some (0, 0, 0, 0)) else (some (mx a0_0 a1_0, mx a0_1 a1_1, mn a0_2 a1_2, mn a0_3 a1_3)))
set_option maxHeartbeats 8000000 in
set_option maxRecDepth 100000 in
theorem impl_MeetBox.calls (a0_0 : Int) (a0_1 : Int) (a0_2 : Int) (a0_3 : Int) (a1_0 : Int) (a1_1 : Int) (a1_2 : Int) (a1_3 : Int) (r1 : Int) (r2 : Int) (r3 : Int) (r4 : Int) (w : World) (h : impl_MeetBox.f a0_0 a0_1 a0_2 a0_3 a1_0 a1_1 a1_2 a1_3 = some (r1, r2, r3, r4)) :
  Calls Try.prog 83 #[.agg #[.int .i64 a0_0, .int .i64 a0_1, .int .i64 a0_2, .int .i64 a0_3], .agg #[.int .i64 a1_0, .int .i64 a1_1, .int .i64 a1_2, .int .i64 a1_3]] w fun e w' => e = .returned (.agg #[.int .i64 r1, .int .i64 r2, .int .i64 r3, .int .i64 r4]) ∧ Below w.heap.size w w' := by
 have hu63 := Try.underlying63
 have HB := mk0 (Below.refl w.heap.size w)
 have H : ((impl_Empty.f (mx a0_0 a1_0) (mx a0_1 a1_1) (mn a0_2 a1_2) (mn a0_3 a1_3)).bind fun t414 => (if t414 = true then (some (0, 0, 0, 0)) else (some (mx a0_0 a1_0, mx a0_1 a1_1, mn a0_2 a1_2, mn a0_3 a1_3)))) = some (r1, r2, r3, r4) := h
 clear h
 obtain ⟨ji3, hji3⟩ : ∃ j_ : Int, (mx a0_0 a1_0) = j_ := ⟨_, rfl⟩
 replace H : ((impl_Empty.f (ji3) (mx a0_1 a1_1) (mn a0_2 a1_2) (mn a0_3 a1_3)).bind fun t414 => (if t414 = true then (some (0, 0, 0, 0)) else (some (ji3, mx a0_1 a1_1, mn a0_2 a1_2, mn a0_3 a1_3)))) = some (r1, r2, r3, r4) := by first | (rw [hji3] at H; exact H) | (simp only [hji3] at H ⊢; exact H)
 have hji3_ : (if a0_0 < a1_0 then a1_0 else a0_0) = ji3 := hji3
 obtain ⟨ji4, hji4⟩ : ∃ j_ : Int, (mx a0_1 a1_1) = j_ := ⟨_, rfl⟩
 replace H : ((impl_Empty.f (ji3) (ji4) (mn a0_2 a1_2) (mn a0_3 a1_3)).bind fun t414 => (if t414 = true then (some (0, 0, 0, 0)) else (some (ji3, ji4, mn a0_2 a1_2, mn a0_3 a1_3)))) = some (r1, r2, r3, r4) := by first | (rw [hji4] at H; exact H) | (simp only [hji4] at H ⊢; exact H)
 have hji4_ : (if a0_1 < a1_1 then a1_1 else a0_1) = ji4 := hji4
 obtain ⟨ji5, hji5⟩ : ∃ j_ : Int, (mn a0_2 a1_2) = j_ := ⟨_, rfl⟩
 replace H : ((impl_Empty.f (ji3) (ji4) (ji5) (mn a0_3 a1_3)).bind fun t414 => (if t414 = true then (some (0, 0, 0, 0)) else (some (ji3, ji4, ji5, mn a0_3 a1_3)))) = some (r1, r2, r3, r4) := by first | (rw [hji5] at H; exact H) | (simp only [hji5] at H ⊢; exact H)
 have hji5_ : (if a1_2 < a0_2 then a1_2 else a0_2) = ji5 := hji5
 obtain ⟨ji6, hji6⟩ : ∃ j_ : Int, (mn a0_3 a1_3) = j_ := ⟨_, rfl⟩
 replace H : ((impl_Empty.f (ji3) (ji4) (ji5) (ji6)).bind fun t414 => (if t414 = true then (some (0, 0, 0, 0)) else (some (ji3, ji4, ji5, ji6)))) = some (r1, r2, r3, r4) := by first | (rw [hji6] at H; exact H) | (simp only [hji6] at H ⊢; exact H)
 have hji6_ : (if a1_3 < a0_3 then a1_3 else a0_3) = ji6 := hji6
 replace H := Option.bind_eq_some_iff.mp H
 obtain ⟨t414, A70, H⟩ := H
 try dsimp only at H
 have A7 := mk0 A70
 clear A70
 by_cases c8 : t414 = true
 ·subst c8
  rw [if_pos rfl] at H
  simp only [Option.some.injEq, Prod.mk.injEq] at H
  obtain ⟨rfl, rfl, rfl, rfl⟩ := H
  go_enter Try.func83, Try.ntmps83
  go_wp2_with (first | ((with_reducible refine gate_dst (N := 2) rfl ?_); refine boxz (cs := #[.int .i64 a0_0, .int .i64 a0_1, .int .i64 a0_2, .int .i64 a0_3]) (t := 63) rfl ?_; intro gb410 hg w9 hbox hb; have n0_ := mk0 (below_step z13_0 hb); have n1_ := mk0 (hbox); have GW410 := mk0 (ge_go (a := w.heap.size) hg (below_size z13_0)); have GE410 := GW410; clear HB; have HB := n0_; have BK410 := n1_; clear n0_ n1_ ; clear hb hbox hg) | ((with_reducible refine gate_dst (N := 3) rfl ?_); refine boxz (cs := #[.int .i64 a1_0, .int .i64 a1_1, .int .i64 a1_2, .int .i64 a1_3]) (t := 63) rfl ?_; intro gb411 hg w10 hbox hb; have n0_ := mk0 (blk_belowB BK410 (pkb BK410) hb); have n1_ := mk0 (below_step z13_9 hb); have n2_ := mk0 (hbox); have GW411 := mk0 (ge_go (a := w.heap.size) hg (below_size z13_9)); have GE411 := GW411; have NB410_411 := mk0 (nb_lt hg (blk_ltB BK410 (pkb BK410))); have NB411_410 := mk0 (nb_gt hg (blk_ltB BK410 (pkb BK410))); clear BK410 HB; have BK410 := n0_; have HB := n1_; have BK411 := n2_; clear n0_ n1_ n2_ ; clear hb hbox hg) | ((with_reducible refine gate_dst (N := 4) rfl ?_); refine boxz (cs := #[.int .i64 0, .int .i64 0, .int .i64 0, .int .i64 0]) (t := 63) rfl ?_; intro gb412 hg w11 hbox hb; have n0_ := mk0 (blk_belowB BK410 (pkb BK410) hb); have n1_ := mk0 (blk_belowB BK411 (pkb BK411) hb); have n2_ := mk0 (below_step z13_8 hb); have n3_ := mk0 (hbox); have GW412 := mk0 (ge_go (a := w.heap.size) hg (below_size z13_8)); have GE412 := GW412; have NB410_412 := mk0 (nb_lt hg (blk_ltB BK410 (pkb BK410))); have NB412_410 := mk0 (nb_gt hg (blk_ltB BK410 (pkb BK410))); have NB411_412 := mk0 (nb_lt hg (blk_ltB BK411 (pkb BK411))); have NB412_411 := mk0 (nb_gt hg (blk_ltB BK411 (pkb BK411))); clear BK410 BK411 HB; have BK410 := n0_; have BK411 := n1_; have HB := n2_; have BK412 := n3_; clear n0_ n1_ n2_ n3_ ; clear hb hbox hg; have hnb12 := NB410_411.out; have hnc12 := NB411_410.out; have hnb13 := NB410_412.out; have hnc13 := NB412_410.out; obtain ⟨_, _, _, _, _, _, _, _⟩ := be_4 BK410.out; have hnb15 := NB411_412.out; have hnc15 := NB412_411.out; obtain ⟨_, _, _, _, _, _, _, _⟩ := be_4 BK411.out) | ((with_reducible refine gate_dst (N := 5) rfl ?_); refine boxz (cs := #[.int .i64 0, .int .i64 0, .int .i64 0, .int .i64 0]) (t := 63) rfl ?_; intro gb413 hg w17 hbox hb; have n0_ := mk0 (blk_belowB BK410 (pkb BK410) hb); have n1_ := mk0 (blk_belowB BK411 (pkb BK411) hb); have n2_ := mk0 (blk_belowB BK412 (pkb BK412) hb); have n3_ := mk0 (below_step z13_7 hb); have n4_ := mk0 (hbox); have GW413 := mk0 (ge_go (a := w.heap.size) hg (below_size z13_7)); have GE413 := GW413; have NB410_413 := mk0 (nb_lt hg (blk_ltB BK410 (pkb BK410))); have NB413_410 := mk0 (nb_gt hg (blk_ltB BK410 (pkb BK410))); have NB411_413 := mk0 (nb_lt hg (blk_ltB BK411 (pkb BK411))); have NB413_411 := mk0 (nb_gt hg (blk_ltB BK411 (pkb BK411))); have NB412_413 := mk0 (nb_lt hg (blk_ltB BK412 (pkb BK412))); have NB413_412 := mk0 (nb_gt hg (blk_ltB BK412 (pkb BK412))); clear BK410 BK411 BK412 HB; have BK410 := n0_; have BK411 := n1_; have BK412 := n2_; have HB := n3_; have BK413 := n4_; clear n0_ n1_ n2_ n3_ n4_ ; clear hb hbox hg; have hnb18 := NB413_410.out; have hnc18 := NB410_413.out; have hnb19 := NB413_411.out; have hnc19 := NB411_413.out; have hnb20 := NB413_412.out; have hnc20 := NB412_413.out; obtain ⟨_, _, _, _, _, _, _, _⟩ := be_4 BK413.out) | ((with_reducible refine gate_callee (f := 84) rfl ?_); refine goesL_ (some 28) rfl rfl Try.func84 (by kernel_rfl) rfl #[.agg #[.int .i64 ji3, .int .i64 ji4, .int .i64 ji5, .int .i64 ji6]] rfl z13_23 ?_; (with_reducible refine (impl_Empty.calls ji3 ji4 ji5 ji6 true _ A7.out).mono ?_); rintro e w22 ⟨rfl, hb⟩; refine ⟨_, rfl, ?_⟩; have n0_ := mk0 (blk_belowB BK410 z13_11 hb); have n1_ := mk0 (blk_belowB BK411 z13_12 hb); have n2_ := mk0 (blk_belowB BK412 z13_13 hb); have n3_ := mk0 (blk_below (g := gb413) (o := .cells #[.int .i64 ji3, .int .i64 ji4, .int .i64 ji5, .int .i64 ji6] 63 (0, 0)) z13_18 hb); have n4_ := mk0 (below_step z13_10 hb); clear BK410 BK411 BK412 BK413 HB; have BK410 := n0_; have BK411 := n1_; have BK412 := n2_; have BK413 := n3_; have HB := n4_; clear n0_ n1_ n2_ n3_ n4_; (try clear hb); obtain ⟨_, _, _, _, _, _, _, _⟩ := be_4 BK412.out))
  refine bodyPost_ret (results_cell_row rfl _ _ gb412 63 #[.int .i64 0, .int .i64 0, .int .i64 0, .int .i64 0] (0, 0) _ rfl z13_19 Try.underlying63 rfl (by kernel_rfl)) rfl ?_
  exact ⟨z13_22, z13_10⟩
 replace c8 := Bool.eq_false_iff.mpr c8
 subst c8
 rw [if_neg (show ¬ (false = true) by decide)] at H
 simp only [Option.some.injEq, Prod.mk.injEq] at H
 obtain ⟨rfl, rfl, rfl, rfl⟩ := H
 go_enter Try.func83, Try.ntmps83
 go_wp2_with (first | ((with_reducible refine gate_dst (N := 2) rfl ?_); refine boxz (cs := #[.int .i64 a0_0, .int .i64 a0_1, .int .i64 a0_2, .int .i64 a0_3]) (t := 63) rfl ?_; intro gb410 hg w24 hbox hb; have n0_ := mk0 (below_step z13_0 hb); have n1_ := mk0 (hbox); have GW410 := mk0 (ge_go (a := w.heap.size) hg (below_size z13_0)); have GE410 := GW410; clear HB; have HB := n0_; have BK410 := n1_; clear n0_ n1_ ; clear hb hbox hg) | ((with_reducible refine gate_dst (N := 3) rfl ?_); refine boxz (cs := #[.int .i64 a1_0, .int .i64 a1_1, .int .i64 a1_2, .int .i64 a1_3]) (t := 63) rfl ?_; intro gb411 hg w25 hbox hb; have n0_ := mk0 (blk_belowB BK410 (pkb BK410) hb); have n1_ := mk0 (below_step z13_9 hb); have n2_ := mk0 (hbox); have GW411 := mk0 (ge_go (a := w.heap.size) hg (below_size z13_9)); have GE411 := GW411; have NB410_411 := mk0 (nb_lt hg (blk_ltB BK410 (pkb BK410))); have NB411_410 := mk0 (nb_gt hg (blk_ltB BK410 (pkb BK410))); clear BK410 HB; have BK410 := n0_; have HB := n1_; have BK411 := n2_; clear n0_ n1_ n2_ ; clear hb hbox hg) | ((with_reducible refine gate_dst (N := 4) rfl ?_); refine boxz (cs := #[.int .i64 0, .int .i64 0, .int .i64 0, .int .i64 0]) (t := 63) rfl ?_; intro gb412 hg w26 hbox hb; have n0_ := mk0 (blk_belowB BK410 (pkb BK410) hb); have n1_ := mk0 (blk_belowB BK411 (pkb BK411) hb); have n2_ := mk0 (below_step z13_8 hb); have n3_ := mk0 (hbox); have GW412 := mk0 (ge_go (a := w.heap.size) hg (below_size z13_8)); have GE412 := GW412; have NB410_412 := mk0 (nb_lt hg (blk_ltB BK410 (pkb BK410))); have NB412_410 := mk0 (nb_gt hg (blk_ltB BK410 (pkb BK410))); have NB411_412 := mk0 (nb_lt hg (blk_ltB BK411 (pkb BK411))); have NB412_411 := mk0 (nb_gt hg (blk_ltB BK411 (pkb BK411))); clear BK410 BK411 HB; have BK410 := n0_; have BK411 := n1_; have HB := n2_; have BK412 := n3_; clear n0_ n1_ n2_ n3_ ; clear hb hbox hg; have hnb27 := NB410_411.out; have hnc27 := NB411_410.out; have hnb28 := NB410_412.out; have hnc28 := NB412_410.out; obtain ⟨_, _, _, _, _, _, _, _⟩ := be_4 BK410.out; have hnb30 := NB411_412.out; have hnc30 := NB412_411.out; obtain ⟨_, _, _, _, _, _, _, _⟩ := be_4 BK411.out) | ((with_reducible refine gate_dst (N := 5) rfl ?_); refine boxz (cs := #[.int .i64 0, .int .i64 0, .int .i64 0, .int .i64 0]) (t := 63) rfl ?_; intro gb413 hg w32 hbox hb; have n0_ := mk0 (blk_belowB BK410 (pkb BK410) hb); have n1_ := mk0 (blk_belowB BK411 (pkb BK411) hb); have n2_ := mk0 (blk_belowB BK412 (pkb BK412) hb); have n3_ := mk0 (below_step z13_7 hb); have n4_ := mk0 (hbox); have GW413 := mk0 (ge_go (a := w.heap.size) hg (below_size z13_7)); have GE413 := GW413; have NB410_413 := mk0 (nb_lt hg (blk_ltB BK410 (pkb BK410))); have NB413_410 := mk0 (nb_gt hg (blk_ltB BK410 (pkb BK410))); have NB411_413 := mk0 (nb_lt hg (blk_ltB BK411 (pkb BK411))); have NB413_411 := mk0 (nb_gt hg (blk_ltB BK411 (pkb BK411))); have NB412_413 := mk0 (nb_lt hg (blk_ltB BK412 (pkb BK412))); have NB413_412 := mk0 (nb_gt hg (blk_ltB BK412 (pkb BK412))); clear BK410 BK411 BK412 HB; have BK410 := n0_; have BK411 := n1_; have BK412 := n2_; have HB := n3_; have BK413 := n4_; clear n0_ n1_ n2_ n3_ n4_ ; clear hb hbox hg; have hnb33 := NB413_410.out; have hnc33 := NB410_413.out; have hnb34 := NB413_411.out; have hnc34 := NB411_413.out; have hnb35 := NB413_412.out; have hnc35 := NB412_413.out; obtain ⟨_, _, _, _, _, _, _, _⟩ := be_4 BK413.out) | ((with_reducible refine gate_callee (f := 84) rfl ?_); refine goesL_ (some 28) rfl rfl Try.func84 (by kernel_rfl) rfl #[.agg #[.int .i64 ji3, .int .i64 ji4, .int .i64 ji5, .int .i64 ji6]] rfl z13_23 ?_; (with_reducible refine (impl_Empty.calls ji3 ji4 ji5 ji6 false _ A7.out).mono ?_); rintro e w37 ⟨rfl, hb⟩; refine ⟨_, rfl, ?_⟩; have n0_ := mk0 (blk_belowB BK410 z13_11 hb); have n1_ := mk0 (blk_belowB BK411 z13_12 hb); have n2_ := mk0 (blk_belowB BK412 z13_13 hb); have n3_ := mk0 (blk_below (g := gb413) (o := .cells #[.int .i64 ji3, .int .i64 ji4, .int .i64 ji5, .int .i64 ji6] 63 (0, 0)) z13_18 hb); have n4_ := mk0 (below_step z13_10 hb); clear BK410 BK411 BK412 BK413 HB; have BK410 := n0_; have BK411 := n1_; have BK412 := n2_; have BK413 := n3_; have HB := n4_; clear n0_ n1_ n2_ n3_ n4_; (try clear hb); obtain ⟨_, _, _, _, _, _, _, _⟩ := be_4 BK413.out; obtain ⟨_, _, _, _, _, _, _, _⟩ := be_4 BK412.out))
 refine bodyPost_ret (results_cell_row rfl _ _ gb412 63 #[.int .i64 ji3, .int .i64 ji4, .int .i64 ji5, .int .i64 ji6] (0, 0) _ rfl z13_19 Try.underlying63 rfl (by kernel_rfl)) rfl ?_
 exact ⟨z13_22, z13_10⟩

/-! ### impl_InBox: function 110 -/
def impl_InBox.f (a0_0 : Int) (a0_1 : Int) (a0_2 : Int) (a0_3 : Int) (a1_0 : Int) (a1_1 : Int) : Option (Bool) := if a1_0 ≥ a0_0 then (if a1_0 < a0_2 then (if a1_1 ≥ a0_1 then (some (decide (a1_1 < a0_3))) else (some false)) else (some false)) else (some false)
set_option maxHeartbeats 8000000 in
set_option maxRecDepth 100000 in
theorem impl_InBox.calls (a0_0 : Int) (a0_1 : Int) (a0_2 : Int) (a0_3 : Int) (a1_0 : Int) (a1_1 : Int) (r : Bool) (w : World) (h : impl_InBox.f a0_0 a0_1 a0_2 a0_3 a1_0 a1_1 = some r) :
  Calls Try.prog 110 #[.agg #[.int .i64 a0_0, .int .i64 a0_1, .int .i64 a0_2, .int .i64 a0_3], .agg #[.int .i64 a1_0, .int .i64 a1_1]] w fun e w' => e = .returned (.bool r) ∧ Below w.heap.size w w' := by
 have hu63 := Try.underlying63
 have hu52 := Try.underlying52
 have HB := mk0 (Below.refl w.heap.size w)
 have H : (if a1_0 ≥ a0_0 then (if a1_0 < a0_2 then (if a1_1 ≥ a0_1 then (some (decide (a1_1 < a0_3))) else (some false)) else (some false)) else (some false)) = some r := h
 clear h
 by_cases c3 : a1_0 ≥ a0_0
 rotate_left
 ·rw [if_neg c3] at H
  have c3b0 := decide_eq_false c3
  clear c3
  obtain rfl := Option.some.inj H
  simp only [Option.some.injEq, Prod.mk.injEq] at H
  obtain ⟨rfl⟩ := H
  go_enter Try.func110, Try.ntmps110
  go_wp2_with (first | ((with_reducible refine gate_dst (N := 2) rfl ?_); refine boxz (cs := #[.int .i64 a0_0, .int .i64 a0_1, .int .i64 a0_2, .int .i64 a0_3]) (t := 63) rfl ?_; intro gb415 hg w21 hbox hb; have n0_ := mk0 (below_step z13_0 hb); have n1_ := mk0 (hbox); have GW415 := mk0 (ge_go (a := w.heap.size) hg (below_size z13_0)); have GE415 := GW415; clear HB; have HB := n0_; have BK415 := n1_; clear n0_ n1_ ; clear hb hbox hg) | ((with_reducible refine gate_dst (N := 3) rfl ?_); refine boxz (cs := #[.int .i64 a1_0, .int .i64 a1_1]) (t := 52) rfl ?_; intro gb416 hg w22 hbox hb; have n0_ := mk0 (blk_belowB BK415 (pkb BK415) hb); have n1_ := mk0 (below_step z13_4 hb); have n2_ := mk0 (hbox); have GW416 := mk0 (ge_go (a := w.heap.size) hg (below_size z13_4)); have GE416 := GW416; have NB415_416 := mk0 (nb_lt hg (blk_ltB BK415 (pkb BK415))); have NB416_415 := mk0 (nb_gt hg (blk_ltB BK415 (pkb BK415))); clear BK415 HB; have BK415 := n0_; have HB := n1_; have BK416 := n2_; clear n0_ n1_ n2_ ; clear hb hbox hg; have hnb23 := NB416_415.out; have hnc23 := NB415_416.out; obtain ⟨_, _, _, _⟩ := be_2 BK416.out; obtain ⟨_, _, _, _, _, _, _, _⟩ := be_4 BK415.out))
  go_ret
  exact ⟨z13_3, z13_14⟩
 rw [if_pos c3] at H
 have c3b0 := decide_eq_true c3
 clear c3
 by_cases c4 : a1_0 < a0_2
 rotate_left
 ·rw [if_neg c4] at H
  have c4b0 := decide_eq_false c4
  clear c4
  obtain rfl := Option.some.inj H
  simp only [Option.some.injEq, Prod.mk.injEq] at H
  obtain ⟨rfl⟩ := H
  go_enter Try.func110, Try.ntmps110
  go_wp2_with (first | ((with_reducible refine gate_dst (N := 2) rfl ?_); refine boxz (cs := #[.int .i64 a0_0, .int .i64 a0_1, .int .i64 a0_2, .int .i64 a0_3]) (t := 63) rfl ?_; intro gb415 hg w16 hbox hb; have n0_ := mk0 (below_step z13_0 hb); have n1_ := mk0 (hbox); have GW415 := mk0 (ge_go (a := w.heap.size) hg (below_size z13_0)); have GE415 := GW415; clear HB; have HB := n0_; have BK415 := n1_; clear n0_ n1_ ; clear hb hbox hg) | ((with_reducible refine gate_dst (N := 3) rfl ?_); refine boxz (cs := #[.int .i64 a1_0, .int .i64 a1_1]) (t := 52) rfl ?_; intro gb416 hg w17 hbox hb; have n0_ := mk0 (blk_belowB BK415 (pkb BK415) hb); have n1_ := mk0 (below_step z13_4 hb); have n2_ := mk0 (hbox); have GW416 := mk0 (ge_go (a := w.heap.size) hg (below_size z13_4)); have GE416 := GW416; have NB415_416 := mk0 (nb_lt hg (blk_ltB BK415 (pkb BK415))); have NB416_415 := mk0 (nb_gt hg (blk_ltB BK415 (pkb BK415))); clear BK415 HB; have BK415 := n0_; have HB := n1_; have BK416 := n2_; clear n0_ n1_ n2_ ; clear hb hbox hg; have hnb18 := NB416_415.out; have hnc18 := NB415_416.out; obtain ⟨_, _, _, _⟩ := be_2 BK416.out; obtain ⟨_, _, _, _, _, _, _, _⟩ := be_4 BK415.out))
  go_ret
  exact ⟨z13_3, z13_14⟩
 rw [if_pos c4] at H
 have c4b0 := decide_eq_true c4
 clear c4
 by_cases c5 : a1_1 ≥ a0_1
 ·rw [if_pos c5] at H
  have c5b0 := decide_eq_true c5
  clear c5
  obtain rfl := Option.some.inj H
  simp only [Option.some.injEq, Prod.mk.injEq] at H
  obtain ⟨rfl⟩ := H
  go_enter Try.func110, Try.ntmps110
  go_wp2_with (first | ((with_reducible refine gate_dst (N := 2) rfl ?_); refine boxz (cs := #[.int .i64 a0_0, .int .i64 a0_1, .int .i64 a0_2, .int .i64 a0_3]) (t := 63) rfl ?_; intro gb415 hg w6 hbox hb; have n0_ := mk0 (below_step z13_0 hb); have n1_ := mk0 (hbox); have GW415 := mk0 (ge_go (a := w.heap.size) hg (below_size z13_0)); have GE415 := GW415; clear HB; have HB := n0_; have BK415 := n1_; clear n0_ n1_ ; clear hb hbox hg) | ((with_reducible refine gate_dst (N := 3) rfl ?_); refine boxz (cs := #[.int .i64 a1_0, .int .i64 a1_1]) (t := 52) rfl ?_; intro gb416 hg w7 hbox hb; have n0_ := mk0 (blk_belowB BK415 (pkb BK415) hb); have n1_ := mk0 (below_step z13_4 hb); have n2_ := mk0 (hbox); have GW416 := mk0 (ge_go (a := w.heap.size) hg (below_size z13_4)); have GE416 := GW416; have NB415_416 := mk0 (nb_lt hg (blk_ltB BK415 (pkb BK415))); have NB416_415 := mk0 (nb_gt hg (blk_ltB BK415 (pkb BK415))); clear BK415 HB; have BK415 := n0_; have HB := n1_; have BK416 := n2_; clear n0_ n1_ n2_ ; clear hb hbox hg; have hnb8 := NB416_415.out; have hnc8 := NB415_416.out; obtain ⟨_, _, _, _⟩ := be_2 BK416.out; obtain ⟨_, _, _, _, _, _, _, _⟩ := be_4 BK415.out))
  go_ret
  exact ⟨z13_3, z13_14⟩
 rw [if_neg c5] at H
 have c5b0 := decide_eq_false c5
 clear c5
 obtain rfl := Option.some.inj H
 simp only [Option.some.injEq, Prod.mk.injEq] at H
 obtain ⟨rfl⟩ := H
 go_enter Try.func110, Try.ntmps110
 go_wp2_with (first | ((with_reducible refine gate_dst (N := 2) rfl ?_); refine boxz (cs := #[.int .i64 a0_0, .int .i64 a0_1, .int .i64 a0_2, .int .i64 a0_3]) (t := 63) rfl ?_; intro gb415 hg w11 hbox hb; have n0_ := mk0 (below_step z13_0 hb); have n1_ := mk0 (hbox); have GW415 := mk0 (ge_go (a := w.heap.size) hg (below_size z13_0)); have GE415 := GW415; clear HB; have HB := n0_; have BK415 := n1_; clear n0_ n1_ ; clear hb hbox hg) | ((with_reducible refine gate_dst (N := 3) rfl ?_); refine boxz (cs := #[.int .i64 a1_0, .int .i64 a1_1]) (t := 52) rfl ?_; intro gb416 hg w12 hbox hb; have n0_ := mk0 (blk_belowB BK415 (pkb BK415) hb); have n1_ := mk0 (below_step z13_4 hb); have n2_ := mk0 (hbox); have GW416 := mk0 (ge_go (a := w.heap.size) hg (below_size z13_4)); have GE416 := GW416; have NB415_416 := mk0 (nb_lt hg (blk_ltB BK415 (pkb BK415))); have NB416_415 := mk0 (nb_gt hg (blk_ltB BK415 (pkb BK415))); clear BK415 HB; have BK415 := n0_; have HB := n1_; have BK416 := n2_; clear n0_ n1_ n2_ ; clear hb hbox hg; have hnb13 := NB416_415.out; have hnc13 := NB415_416.out; obtain ⟨_, _, _, _⟩ := be_2 BK416.out; obtain ⟨_, _, _, _, _, _, _, _⟩ := be_4 BK415.out))
 go_ret
 exact ⟨z13_3, z13_14⟩

/-! ### impl_Mask_bitsAt: function 87 -/
def impl_Mask_bitsAt.f (a0_0 : Int) (a0_1 : Int) (a0_2 : Int) (a0_3 : Int) (l0_4 : List Int) (a1 : Int) (a2 : Int) : Option (Int) := (impl_InBox.f a0_0 a0_1 a0_2 a0_3 a1 a2).bind fun t417 => (if t417 = true then (if 0 ≤ (wrap64 ((wrap64 ((wrap64 ((wrap64 (a2 - a0_1)) * (wrap64 (a0_2 - a0_0)))) + a1)) - a0_0)) then (if (wrap64 ((wrap64 ((wrap64 ((wrap64 (a2 - a0_1)) * (wrap64 (a0_2 - a0_0)))) + a1)) - a0_0)) < (l0_4.length : Int) then (some (rd l0_4 (wrap64 ((wrap64 ((wrap64 ((wrap64 (a2 - a0_1)) * (wrap64 (a0_2 - a0_0)))) + a1)) - a0_0)))) else (none)) else (none)) else (some 0))
set_option maxHeartbeats 8000000 in
set_option maxRecDepth 100000 in
theorem impl_Mask_bitsAt.calls (g0 : Nat) (a0_0 : Int) (a0_1 : Int) (a0_2 : Int) (a0_3 : Int) (A0_4 : Option Addr) (c0_4 : Nat) (l0_4 : List Int) (a1 : Int) (a2 : Int) (r : Int) (w : World) (hb0 : w.heap[g0]? = some (.cells #[.int .i64 a0_0, .int .i64 a0_1, .int .i64 a0_2, .int .i64 a0_3, .slice A0_4 l0_4.length c0_4] 65 (0, 0))) (hr0_4 : Kd.C (Kd.int .i64) w A0_4 l0_4.length l0_4) (hc0_4 : l0_4.length ≤ c0_4) (h : impl_Mask_bitsAt.f a0_0 a0_1 a0_2 a0_3 l0_4 a1 a2 = some r) :
  Calls Try.prog 87 #[.pointer (some ⟨g0, 0, none⟩), .int .i64 a1, .int .i64 a2] w fun e w' => e = .returned (.int .i64 r) ∧ Below w.heap.size w w' := by
 have hu63 := Try.underlying63
 have hu52 := Try.underlying52
 have HR0_4 := mk0 hr0_4
 have HC0_4 := mk0 hc0_4
 clear hr0_4 hc0_4
 have BK0 := mk0 hb0
 clear hb0
 have HB := mk0 (Below.refl w.heap.size w)
 have H : ((impl_InBox.f a0_0 a0_1 a0_2 a0_3 a1 a2).bind fun t417 => (if t417 = true then (if 0 ≤ (wrap64 ((wrap64 ((wrap64 ((wrap64 (a2 - a0_1)) * (wrap64 (a0_2 - a0_0)))) + a1)) - a0_0)) then (if (wrap64 ((wrap64 ((wrap64 ((wrap64 (a2 - a0_1)) * (wrap64 (a0_2 - a0_0)))) + a1)) - a0_0)) < (l0_4.length : Int) then (some (rd l0_4 (wrap64 ((wrap64 ((wrap64 ((wrap64 (a2 - a0_1)) * (wrap64 (a0_2 - a0_0)))) + a1)) - a0_0)))) else (none)) else (none)) else (some 0))) = some r := h
 clear h
 replace H := Option.bind_eq_some_iff.mp H
 obtain ⟨t417, A40, H⟩ := H
 try dsimp only at H
 have A4 := mk0 A40
 clear A40
 by_cases c5 : t417 = true
 rotate_left
 ·replace c5 := Bool.eq_false_iff.mpr c5
  subst c5
  rw [if_neg (show ¬ (false = true) by decide)] at H
  obtain rfl := Option.some.inj H
  simp only [Option.some.injEq, Prod.mk.injEq] at H
  obtain ⟨rfl⟩ := H
  have hcz12_0 : w.cell? ⟨g0, 0, none⟩ = some (.int .i64 a0_0) := (blk_cell BK0.out 0).trans rfl
  have hcz12_1 : w.cell? ⟨g0, 1, none⟩ = some (.int .i64 a0_1) := (blk_cell BK0.out 1).trans rfl
  have hcz12_2 : w.cell? ⟨g0, 2, none⟩ = some (.int .i64 a0_2) := (blk_cell BK0.out 2).trans rfl
  have hcz12_3 : w.cell? ⟨g0, 3, none⟩ = some (.int .i64 a0_3) := (blk_cell BK0.out 3).trans rfl
  have hcz12_4 : w.cell? ⟨g0, 4, none⟩ = some (.slice A0_4 l0_4.length c0_4) := (blk_cell BK0.out 4).trans rfl
  obtain ⟨_, _, _, _, _⟩ := bf_5 BK0.out
  go_enter Try.func87, Try.ntmps87
  go_wp2_with (first | (go_at_call 110; (with_reducible refine (impl_InBox.calls a0_0 a0_1 a0_2 a0_3 a1 a2 false _ A4.out).mono ?_); rintro e w13 ⟨rfl, hb⟩; have n0_ := mk0 (blk_below (g := g0) (o := .cells #[.int .i64 a0_0, .int .i64 a0_1, .int .i64 a0_2, .int .i64 a0_3, .slice A0_4 l0_4.length c0_4] 65 (0, 0)) (pkb BK0) hb); have n1_ := mk0 (below_step z13_6 hb); clear BK0 HB; have BK0 := n0_; have HB := n1_; clear n0_ n1_; (try clear hb)))
  repeat (go_quiet (first | (go_at_call 110; (with_reducible refine (impl_InBox.calls a0_0 a0_1 a0_2 a0_3 a1 a2 false _ A4.out).mono ?_); rintro e w13 ⟨rfl, hb⟩; have n0_ := mk0 (blk_below (g := g0) (o := .cells #[.int .i64 a0_0, .int .i64 a0_1, .int .i64 a0_2, .int .i64 a0_3, .slice A0_4 l0_4.length c0_4] 65 (0, 0)) (pkb BK0) hb); have n1_ := mk0 (below_step z13_6 hb); clear BK0 HB; have BK0 := n0_; have HB := n1_; clear n0_ n1_; (try clear hb))); try go_wp2_with (first | (go_at_call 110; (with_reducible refine (impl_InBox.calls a0_0 a0_1 a0_2 a0_3 a1 a2 false _ A4.out).mono ?_); rintro e w13 ⟨rfl, hb⟩; have n0_ := mk0 (blk_below (g := g0) (o := .cells #[.int .i64 a0_0, .int .i64 a0_1, .int .i64 a0_2, .int .i64 a0_3, .slice A0_4 l0_4.length c0_4] 65 (0, 0)) (pkb BK0) hb); have n1_ := mk0 (below_step z13_6 hb); clear BK0 HB; have BK0 := n0_; have HB := n1_; clear n0_ n1_; (try clear hb))))
  go_ret
  exact ⟨z13_3, z13_6⟩
 subst c5
 rw [if_pos rfl] at H
 obtain ⟨ji6, hji6⟩ : ∃ j_ : Int, (wrap64 ((wrap64 ((wrap64 ((wrap64 (a2 - a0_1)) * (wrap64 (a0_2 - a0_0)))) + a1)) - a0_0)) = j_ := ⟨_, rfl⟩
 replace H : (if 0 ≤ (ji6) then (if (ji6) < (l0_4.length : Int) then (some (rd l0_4 (ji6))) else (none)) else (none)) = some r := by first | (rw [hji6] at H; exact H) | (simp only [hji6] at H ⊢; exact H)
 (try rw [hji6] at A4)
 have hji6w : (IntKind.i64.wrap ((wrap64 ((wrap64 ((wrap64 (a2 - a0_1)) * (wrap64 (a0_2 - a0_0)))) + a1)) - a0_0)) = ji6 := (i64_w _).trans hji6
 by_cases c7 : 0 ≤ (ji6)
 rotate_left
 ·rw [if_neg c7] at H
  exact absurd H (by simp)
 rw [if_pos c7] at H
 have c7b0 := decide_eq_true c7
 clear c7
 by_cases c8 : (ji6) < (l0_4.length : Int)
 rotate_left
 ·rw [if_neg c8] at H
  exact absurd H (by simp)
 rw [if_pos c8] at H
 have c8b0 := decide_eq_true c8
 clear c8
 obtain rfl := Option.some.inj H
 simp only [Option.some.injEq, Prod.mk.injEq] at H
 obtain ⟨rfl⟩ := H
 have hcz9_0 : w.cell? ⟨g0, 0, none⟩ = some (.int .i64 a0_0) := (blk_cell BK0.out 0).trans rfl
 have hcz9_1 : w.cell? ⟨g0, 1, none⟩ = some (.int .i64 a0_1) := (blk_cell BK0.out 1).trans rfl
 have hcz9_2 : w.cell? ⟨g0, 2, none⟩ = some (.int .i64 a0_2) := (blk_cell BK0.out 2).trans rfl
 have hcz9_3 : w.cell? ⟨g0, 3, none⟩ = some (.int .i64 a0_3) := (blk_cell BK0.out 3).trans rfl
 have hcz9_4 : w.cell? ⟨g0, 4, none⟩ = some (.slice A0_4 l0_4.length c0_4) := (blk_cell BK0.out 4).trans rfl
 obtain ⟨_, _, _, _, _⟩ := bf_5 BK0.out
 go_enter Try.func87, Try.ntmps87
 go_wp2_with (first | (go_at_call 110; (with_reducible refine (impl_InBox.calls a0_0 a0_1 a0_2 a0_3 a1 a2 true _ A4.out).mono ?_); rintro e w10 ⟨rfl, hb⟩; have n0_ := mk0 (blk_below (g := g0) (o := .cells #[.int .i64 a0_0, .int .i64 a0_1, .int .i64 a0_2, .int .i64 a0_3, .slice A0_4 l0_4.length c0_4] 65 (0, 0)) (pkb BK0) hb); have n1_ := mk0 (below_step z13_6 hb); clear BK0 HB; have BK0 := n0_; have HB := n1_; clear n0_ n1_; (try clear hb); have hcz11_0 : w10.cell? ⟨g0, 0, none⟩ = some (.int .i64 a0_0) := (blk_cell BK0.out 0).trans rfl; have hcz11_1 : w10.cell? ⟨g0, 1, none⟩ = some (.int .i64 a0_1) := (blk_cell BK0.out 1).trans rfl; have hcz11_2 : w10.cell? ⟨g0, 2, none⟩ = some (.int .i64 a0_2) := (blk_cell BK0.out 2).trans rfl; have hcz11_3 : w10.cell? ⟨g0, 3, none⟩ = some (.int .i64 a0_3) := (blk_cell BK0.out 3).trans rfl; have hcz11_4 : w10.cell? ⟨g0, 4, none⟩ = some (.slice A0_4 l0_4.length c0_4) := (blk_cell BK0.out 4).trans rfl; obtain ⟨_, _, _, _, _⟩ := bf_5 BK0.out; have p418 : 0 ≤ ((ji6) : Int) := of_decide_eq_true (by first | (with_reducible assumption) | assumption); have q418 : (ji6) < (l0_4.length : Int) := of_decide_eq_true (by first | (with_reducible assumption) | assumption); obtain ⟨ad418, e418, hx418_0⟩ := Kd.at_int HR0_4.out (ji6) p418 q418; cases e418; replace hx418_0 := cell_go HB hx418_0; replace p418 := eq_true p418; replace q418 := eq_true q418))
 repeat (go_quiet (first | (go_at_call 110; (with_reducible refine (impl_InBox.calls a0_0 a0_1 a0_2 a0_3 a1 a2 true _ A4.out).mono ?_); rintro e w10 ⟨rfl, hb⟩; have n0_ := mk0 (blk_below (g := g0) (o := .cells #[.int .i64 a0_0, .int .i64 a0_1, .int .i64 a0_2, .int .i64 a0_3, .slice A0_4 l0_4.length c0_4] 65 (0, 0)) (pkb BK0) hb); have n1_ := mk0 (below_step z13_6 hb); clear BK0 HB; have BK0 := n0_; have HB := n1_; clear n0_ n1_; (try clear hb); have hcz11_0 : w10.cell? ⟨g0, 0, none⟩ = some (.int .i64 a0_0) := (blk_cell BK0.out 0).trans rfl; have hcz11_1 : w10.cell? ⟨g0, 1, none⟩ = some (.int .i64 a0_1) := (blk_cell BK0.out 1).trans rfl; have hcz11_2 : w10.cell? ⟨g0, 2, none⟩ = some (.int .i64 a0_2) := (blk_cell BK0.out 2).trans rfl; have hcz11_3 : w10.cell? ⟨g0, 3, none⟩ = some (.int .i64 a0_3) := (blk_cell BK0.out 3).trans rfl; have hcz11_4 : w10.cell? ⟨g0, 4, none⟩ = some (.slice A0_4 l0_4.length c0_4) := (blk_cell BK0.out 4).trans rfl; have hfz11_0 := blk_frozen BK0.out 0; have hfz11_1 := blk_frozen BK0.out 1; have hfz11_2 := blk_frozen BK0.out 2; have hfz11_3 := blk_frozen BK0.out 3; have hfz11_4 := blk_frozen BK0.out 4; have p418 : 0 ≤ ((ji6) : Int) := of_decide_eq_true (by first | (with_reducible assumption) | assumption); have q418 : (ji6) < (l0_4.length : Int) := of_decide_eq_true (by first | (with_reducible assumption) | assumption); obtain ⟨ad418, e418, hx418_0⟩ := Kd.at_int HR0_4.out (ji6) p418 q418; cases e418; replace hx418_0 := cell_go HB hx418_0; replace p418 := eq_true p418; replace q418 := eq_true q418)); try go_wp2_with (first | (go_at_call 110; (with_reducible refine (impl_InBox.calls a0_0 a0_1 a0_2 a0_3 a1 a2 true _ A4.out).mono ?_); rintro e w10 ⟨rfl, hb⟩; have n0_ := mk0 (blk_below (g := g0) (o := .cells #[.int .i64 a0_0, .int .i64 a0_1, .int .i64 a0_2, .int .i64 a0_3, .slice A0_4 l0_4.length c0_4] 65 (0, 0)) (pkb BK0) hb); have n1_ := mk0 (below_step z13_6 hb); clear BK0 HB; have BK0 := n0_; have HB := n1_; clear n0_ n1_; (try clear hb); have hcz11_0 : w10.cell? ⟨g0, 0, none⟩ = some (.int .i64 a0_0) := (blk_cell BK0.out 0).trans rfl; have hcz11_1 : w10.cell? ⟨g0, 1, none⟩ = some (.int .i64 a0_1) := (blk_cell BK0.out 1).trans rfl; have hcz11_2 : w10.cell? ⟨g0, 2, none⟩ = some (.int .i64 a0_2) := (blk_cell BK0.out 2).trans rfl; have hcz11_3 : w10.cell? ⟨g0, 3, none⟩ = some (.int .i64 a0_3) := (blk_cell BK0.out 3).trans rfl; have hcz11_4 : w10.cell? ⟨g0, 4, none⟩ = some (.slice A0_4 l0_4.length c0_4) := (blk_cell BK0.out 4).trans rfl; obtain ⟨_, _, _, _, _⟩ := bf_5 BK0.out; have p418 : 0 ≤ ((ji6) : Int) := of_decide_eq_true (by first | (with_reducible assumption) | assumption); have q418 : (ji6) < (l0_4.length : Int) := of_decide_eq_true (by first | (with_reducible assumption) | assumption); obtain ⟨ad418, e418, hx418_0⟩ := Kd.at_int HR0_4.out (ji6) p418 q418; cases e418; replace hx418_0 := cell_go HB hx418_0; replace p418 := eq_true p418; replace q418 := eq_true q418)))
 go_ret
 exact ⟨(by first | rfl | (simp [errW_none, errW_some] <;> rfl) | (simp only [← hji6]; first | rfl | (simp [errW_none, errW_some] <;> rfl)) | (simp [*, errW_none, errW_some] <;> rfl)), z13_6⟩

/-! ### impl_MeetMask_1: function 86 -/
def impl_MeetMask_1.f (a0 : Int) (a1 : Int) (a2_0 : Int) (a2_1 : Int) (a2_2 : Int) (a2_3 : Int) (l2_4 : List Int) (a3_0 : Int) (a3_1 : Int) (a3_2 : Int) (a3_3 : Int) (l3_4 : List Int) : Option (Int) := (impl_Mask_bitsAt.f a2_0 a2_1 a2_2 a2_3 l2_4 a0 a1).bind fun t419 => ((impl_Mask_bitsAt.f a3_0 a3_1 a3_2 a3_3 l3_4 a0 a1).bind fun t420 => (some (Go.bits .and .i64 t419 t420)))
set_option maxHeartbeats 8000000 in
set_option maxRecDepth 100000 in
theorem impl_MeetMask_1.calls (a0 : Int) (a1 : Int) (g2 : Nat) (a2_0 : Int) (a2_1 : Int) (a2_2 : Int) (a2_3 : Int) (A2_4 : Option Addr) (c2_4 : Nat) (l2_4 : List Int) (g3 : Nat) (a3_0 : Int) (a3_1 : Int) (a3_2 : Int) (a3_3 : Int) (A3_4 : Option Addr) (c3_4 : Nat) (l3_4 : List Int) (r : Int) (w : World) (hb2 : w.heap[g2]? = some (.cells #[.int .i64 a2_0, .int .i64 a2_1, .int .i64 a2_2, .int .i64 a2_3, .slice A2_4 l2_4.length c2_4] 65 (0, 0))) (hr2_4 : Kd.C (Kd.int .i64) w A2_4 l2_4.length l2_4) (hc2_4 : l2_4.length ≤ c2_4) (hb3 : w.heap[g3]? = some (.cells #[.int .i64 a3_0, .int .i64 a3_1, .int .i64 a3_2, .int .i64 a3_3, .slice A3_4 l3_4.length c3_4] 65 (0, 0))) (hr3_4 : Kd.C (Kd.int .i64) w A3_4 l3_4.length l3_4) (hc3_4 : l3_4.length ≤ c3_4) (h : impl_MeetMask_1.f a0 a1 a2_0 a2_1 a2_2 a2_3 l2_4 a3_0 a3_1 a3_2 a3_3 l3_4 = some r) :
  Calls Try.prog 86 #[.int .i64 a0, .int .i64 a1, .pointer (some ⟨g2, 0, none⟩), .pointer (some ⟨g3, 0, none⟩)] w fun e w' => e = .returned (.int .i64 r) ∧ Below w.heap.size w w' := by
 have HR2_4 := mk0 hr2_4
 have HC2_4 := mk0 hc2_4
 clear hr2_4 hc2_4
 have HR3_4 := mk0 hr3_4
 have HC3_4 := mk0 hc3_4
 clear hr3_4 hc3_4
 have BK2 := mk0 hb2
 clear hb2
 have BK3 := mk0 hb3
 clear hb3
 have HB := mk0 (Below.refl w.heap.size w)
 have H : ((impl_Mask_bitsAt.f a2_0 a2_1 a2_2 a2_3 l2_4 a0 a1).bind fun t419 => ((impl_Mask_bitsAt.f a3_0 a3_1 a3_2 a3_3 l3_4 a0 a1).bind fun t420 => (some (Go.bits .and .i64 t419 t420)))) = some r := h
 clear h
 replace H := Option.bind_eq_some_iff.mp H
 obtain ⟨t419, A50, H⟩ := H
 try dsimp only at H
 have A5 := mk0 A50
 clear A50
 replace H := Option.bind_eq_some_iff.mp H
 obtain ⟨t420, A60, H⟩ := H
 try dsimp only at H
 have A6 := mk0 A60
 clear A60
 obtain rfl := Option.some.inj H
 simp only [Option.some.injEq, Prod.mk.injEq] at H
 obtain ⟨rfl⟩ := H
 go_enter Try.func86, Try.ntmps86
 go_wp2_with (first | ((with_reducible refine gate_callee (f := 87) rfl ?_); refine goesL_ (some 9) rfl rfl Try.func87 (by kernel_rfl) rfl #[.pointer (some ⟨g2, 0, none⟩), .int .i64 a0, .int .i64 a1] rfl z13_2 ?_; (with_reducible refine (impl_Mask_bitsAt.calls g2 a2_0 a2_1 a2_2 a2_3 A2_4 c2_4 l2_4 a0 a1 t419 _ ?side1 ?side2 ?side3 A5.out).mono ?_); (case side1 => (with_reducible repeat (first | refine blk_drewN ?_ _ | refine blk_drew ?_ | refine blk_alloc ?_ _)); exact BK2.out); (case side2 => repeat (first | exact HR2_4.out | (with_reducible refine Kd.C_alloc ?_ _) | (with_reducible refine Kd.C_drewN ?_ _) | (with_reducible refine Kd.C_drew ?_))); (case side3 => exact HC2_4.out); rintro e w7 ⟨rfl, hb⟩; refine ⟨_, rfl, ?_⟩; have n0_ := mk0 (blk_below (g := g2) (o := .cells #[.int .i64 a2_0, .int .i64 a2_1, .int .i64 a2_2, .int .i64 a2_3, .slice A2_4 l2_4.length c2_4] 65 (0, 0)) (pkb BK2) hb); have n1_ := mk0 (blk_below (g := g3) (o := .cells #[.int .i64 a3_0, .int .i64 a3_1, .int .i64 a3_2, .int .i64 a3_3, .slice A3_4 l3_4.length c3_4] 65 (0, 0)) (pkb BK3) hb); have n2_ := mk0 (below_step z13_16 hb); clear BK2 BK3 HB; have BK2 := n0_; have BK3 := n1_; have HB := n2_; clear n0_ n1_ n2_; (try clear hb)) | ((with_reducible refine gate_callee (f := 87) rfl ?_); refine goesL_ (some 12) rfl rfl Try.func87 (by kernel_rfl) rfl #[.pointer (some ⟨g3, 0, none⟩), .int .i64 a0, .int .i64 a1] rfl z13_2 ?_; (with_reducible refine (impl_Mask_bitsAt.calls g3 a3_0 a3_1 a3_2 a3_3 A3_4 c3_4 l3_4 a0 a1 t420 _ ?side1 ?side2 ?side3 A6.out).mono ?_); (case side1 => (with_reducible repeat (first | refine blk_drewN ?_ _ | refine blk_drew ?_ | refine blk_alloc ?_ _)); exact BK3.out); (case side2 => repeat (first | exact (Kd.C_below HR3_4.out HB.out) | (with_reducible refine Kd.C_alloc ?_ _) | (with_reducible refine Kd.C_drewN ?_ _) | (with_reducible refine Kd.C_drew ?_))); (case side3 => exact HC3_4.out); rintro e w8 ⟨rfl, hb⟩; refine ⟨_, rfl, ?_⟩; have n0_ := mk0 (blk_below (g := g2) (o := .cells #[.int .i64 a2_0, .int .i64 a2_1, .int .i64 a2_2, .int .i64 a2_3, .slice A2_4 l2_4.length c2_4] 65 (0, 0)) (pkb BK2) hb); have n1_ := mk0 (blk_below (g := g3) (o := .cells #[.int .i64 a3_0, .int .i64 a3_1, .int .i64 a3_2, .int .i64 a3_3, .slice A3_4 l3_4.length c3_4] 65 (0, 0)) (pkb BK3) hb); have n2_ := mk0 (below_step z13_16 hb); clear BK2 BK3 HB; have BK2 := n0_; have BK3 := n1_; have HB := n2_; clear n0_ n1_ n2_; (try clear hb)))
 go_ret
 exact ⟨z13_3, z13_16⟩

end Go.Proofs.Ytghbenapnhcllaa.MFnMeets
