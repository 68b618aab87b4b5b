/- Functions of the program as Lean functions, and the proof that a call comes to just these: machine text of this session's own program (myprint.py). -/
import Derived.Test.YtghbenapnhcllaaMFnMasksx0
import Derived.Test.YtghbenapnhcllaaMFnMasksx2
import Derived.Test.YtghbenapnhcllaaMFnMasksx4
import Derived.Test.YtghbenapnhcllaaMFnMasksx10
import Derived.Test.YtghbenapnhcllaaMFnMasksx11
namespace Go.Proofs.Ytghbenapnhcllaa.MFnMasks
open Go.RowKit Go.Proofs.YtghbenapnhcllaaW.PrintWords Go.Proofs.YtghbenapnhcllaaW.PrintLast Go.Proofs.YtghbenapnhcllaaW.PrintMore
attribute [local go_sem] max2_int min2_int max_two min_two max_three min_three max_four min_four   -- for this text's walks alone
set_option linter.unusedVariables false
set_option linter.unusedSimpArgs false

attribute [local go_sem high] eqA63
theorem x17_put {P : Prop} (h : P := by simp only [Act.put, List.setIfInBounds_toArray, List.set_cons_zero, List.set_cons_succ, i64_w, i32_w]; rfl) : P := h
theorem z17_1 {P : Prop} (h : P := by repeat (first | (with_reducible first | exact HK.out | apply KeepBut.set_ | apply keep_drewN | apply keep_drew | apply keep_alloc | refine keep_far ?_ GW450.out _ | refine keep_far ?_ GW457.out _) | exact HK.out)) : P := h
theorem z17_3 {P : Prop} (h : P := by repeat (first | (with_reducible first | exact HB.out | apply below_alloc | apply pw_below_drewN | apply below_drew1 | refine below_set ?_ GE486.out) | exact HB.out)) : P := h
theorem z17_7 {P : Prop} (h : P := by repeat (first | (with_reducible first | exact HB.out | apply below_alloc | apply pw_below_drewN | apply below_drew1 | refine below_set ?_ GE482.out) | exact HB.out)) : P := h
theorem z17_11 {P : Prop} (h : P := by repeat (first | (with_reducible first | exact HK.out | apply KeepBut.set_ | apply keep_drewN | apply keep_drew | apply keep_alloc | refine keep_far ?_ GW450.out _) | exact HK.out)) : P := h
theorem z17_12 {P : Prop} (h : P := by repeat (first | (with_reducible first | exact HB.out | apply below_alloc | apply pw_below_drewN | apply below_drew1 | refine below_set ?_ GE486.out | refine below_set ?_ GE487.out) | exact HB.out)) : P := h
theorem z17_13 {P : Prop} (h : P := by (with_reducible repeat (first | refine blk_drewN ?_ _ | refine blk_drew ?_ | refine blk_alloc ?_ _ | refine blk_far ?_ NB450_457.out _)); exact BK450.out) : P := h
theorem z17_17 {P : Prop} (h : P := by repeat (first | (with_reducible first | exact HB.out | apply below_alloc | apply pw_below_drewN | apply below_drew1 | refine below_set ?_ (IsS152.ge HI0.out) | refine below_set ?_ GE450.out) | exact HB.out)) : P := h
/-! ### spec_l05Box: function 96 -/
def spec_l05Box.j0 : Nat → List Int → Int → Int → Int → Int → Int → Int → Option (Int × Int × Int × Int × Int × Int)
 | 0, _, _, _, _, _, _, _ => none
 | k + 1, x1000, x1001, x1002, x458000, x458001, x458002, x458003 => (spec_l01Once.f x1000 x1001 x1002 16).bind fun bt473 => (if bt473.1 = true then ((spec_l01PickInt.f x1000 bt473.2.1 bt473.2.2 (([9223372036854775807, (-9223372036854775808), (-33554433)] : List Int))).bind fun bt479 => (some (x458000, bt479.1, x458002, x458003, bt479.2.1, bt479.2.2))) else (some (x458000, x458001, x458002, x458003, bt473.2.1, bt473.2.2)))
def spec_l05Box.f (k : Nat) (s0_0 : List Int) (s0_1 : Int) (s0_2 : Int) : Option (Int × Int × Int × Int × Int × Int) := (spec_l01Below.f s0_0 s0_1 s0_2 20).bind fun bt451 => ((spec_l01Below.f s0_0 bt451.2.1 bt451.2.2 20).bind fun bt454 => ((spec_l01Below.f s0_0 bt454.2.1 bt454.2.2 9).bind fun bt458 => ((spec_l01Below.f s0_0 bt458.2.1 bt458.2.2 9).bind fun bt461 => ((spec_l01Once.f s0_0 bt461.2.1 bt461.2.2 16).bind fun bt464 => (if bt464.1 = true then ((spec_l01PickInt.f s0_0 bt464.2.1 bt464.2.2 (([9223372036854775807, (-9223372036854775808), 33554433] : List Int))).bind fun bt470 => (spec_l05Box.j0 k s0_0 bt470.2.1 bt470.2.2 (wrap64 (bt451.1 - 5)) (wrap64 (bt454.1 - 5)) bt470.1 (wrap64 ((wrap64 (bt454.1 - 5)) + bt461.1)))) else (spec_l05Box.j0 k s0_0 bt464.2.1 bt464.2.2 (wrap64 (bt451.1 - 5)) (wrap64 (bt454.1 - 5)) (wrap64 ((wrap64 (bt451.1 - 5)) + bt458.1)) (wrap64 ((wrap64 (bt454.1 - 5)) + bt461.1))))))))
theorem spec_l05Box.mono_l : ∀ k, (∀ y0 y1 y2 y3 y4 y5 y6, LeO (spec_l05Box.j0 k y0 y1 y2 y3 y4 y5 y6) (spec_l05Box.j0 (k + 1) y0 y1 y2 y3 y4 y5 y6))
 | 0 => fun _ _ _ _ _ _ _ r h => by simp [spec_l05Box.j0] at h
 | k + 1 => by
  have ih0 := spec_l05Box.mono_l k
  ·intro y0 y1 y2 y3 y4 y5 y6
   unfold spec_l05Box.j0
   with_reducible repeat' first | apply ih0 | exact LeO.refl _ | exact LeO.none _ | refine LeO.ite ?_ ?_ | refine LeO.bind ?_ (fun _ => ?_)
theorem spec_l05Box.mono : ∀ a0 a1 a2 k, LeO (spec_l05Box.f k a0 a1 a2) (spec_l05Box.f (k + 1) a0 a1 a2) := by
 intro a0 a1 a2 k; have ih0 := spec_l05Box.mono_l k
 unfold spec_l05Box.f
 with_reducible repeat' first | apply ih0 | exact LeO.refl _ | exact LeO.none _ | refine LeO.ite ?_ ?_ | refine LeO.bind ?_ (fun _ => ?_)
set_option maxHeartbeats 8000000 in
set_option maxRecDepth 100000 in
theorem spec_l05Box.calls (k : Nat) (g : Nat) (s0_0 : List Int) (s0_1 : Int) (s0_2 : Int) (r1 : Int) (r2 : Int) (r3 : Int) (r4 : Int) (r5 : Int) (r6 : Int) (w0 w : World) (hI : IsS152 w0 w g s0_0 s0_1 s0_2) (hB : Below w0.heap.size w0 w) (h : spec_l05Box.f k s0_0 s0_1 s0_2 = some (r1, r2, r3, r4, r5, r6)) :
  Calls Try.prog 96 #[.pointer (some ⟨g, 0, none⟩)] w fun e w' => e = .returned (.agg #[.int .i64 r1, .int .i64 r2, .int .i64 r3, .int .i64 r4]) ∧ IsS152 w0 w' g s0_0 r5 r6 ∧ Below w0.heap.size w0 w' ∧ KeepBut w w' g none := by
 have hu63 := Try.underlying63; have HI0 := mk0 hI; have HK := mk0 (KeepBut.refl w g none); have HL := mk0 hB.size; clear hI; have HW0 := mk0 hB.size; have HB := mk0 hB; clear hB
 have H := h; unfold spec_l05Box.f at H
 clear h
 obtain ⟨⟨t451, t452, t453⟩, A2, H⟩ := bnd H
 try dsimp only at H
 obtain ⟨⟨t454, t455, t456⟩, A3, H⟩ := bnd H
 try dsimp only at H
 obtain ⟨⟨t458, t459, t460⟩, A4, H⟩ := bnd H
 try dsimp only at H
 obtain ⟨⟨t461, t462, t463⟩, A5, H⟩ := bnd H
 try dsimp only at H
 obtain ⟨⟨t464, t465, t466⟩, A6, H⟩ := bnd H
 try dsimp only at H
 have HC7 := mk0 H; clear H; go_enter Try.func96, Try.ntmps96
 try go_wp2_with (first | ((with_reducible refine gate_dst (N := 2) rfl ?_); refine boxz (cs := #[.int .i64 0, .int .i64 0, .int .i64 0, .int .i64 0]) (t := 63) rfl ?_; intro gb450 hg w8 hbox hb; replace HB := mk0 (below_step (by repeat (first | (with_reducible first | exact HB.out | apply below_alloc | apply pw_below_drewN | apply below_drew1 | refine below_set ?_ (IsS152.ge HI0.out)) | exact HB.out)) hb); have BK450 := mk0 (hbox); have GW450 := mk0 ((by rw [hg]; exact (keep_size (w := w) (g := g) (row := none) q_171) : w.heap.size ≤ gb450)); have GE450 := mk0 ((Nat.le_trans HW0.out (by rw [hg]; exact (keep_size (w := w) (g := g) (row := none) q_171) : w.heap.size ≤ gb450) : w0.heap.size ≤ gb450)); replace HK := mk0 (KeepBut.trans q_171 (KeepBut.of_below hb g none) (.inl rfl)); have NB0_450 := mk0 ((by rw [hg]; exact Nat.ne_of_lt (IsS152.lt (show IsS152 w0 _ g s0_0 s0_1 s0_2 from q_159)) : g ≠ gb450)); have NB450_0 := mk0 ((by rw [hg]; exact Nat.ne_of_gt (IsS152.lt (show IsS152 w0 _ g s0_0 s0_1 s0_2 from q_159)) : gb450 ≠ g)); replace HI0 := mk0 (IsS152.below (by repeat (first | (with_reducible first | exact HI0.out | apply IsS152.alloc | apply IsS152.drewN | apply IsS152.drew | apply IsS152.set_1 | apply IsS152.set_2) | exact HI0.out)) hb); clear hb hbox hg) | ((with_reducible refine gate_callee (f := 94) rfl ?_); refine gl_ (some 5) Try.func94 #[.pointer (some ⟨g, 0, none⟩), .int .i64 20] rfl q_0 ?_; (with_reducible refine (spec_l01Below.calls g s0_0 s0_1 s0_2 20 t451 t452 t453 w0 _ ?side1 ?side2 A2.out).mono ?_); (case side1 => exact q_158); (case side2 => exact z17_17); rintro e w9 ⟨rfl, hi, hb, hk⟩; refine ⟨_, rfl, ?_⟩; replace BK450 := kB BK450 hk (pkb BK450) NB450_0; replace HK := mk0 (KeepBut.trans z17_11 hk (.inl rfl)); replace HB := mk0 (hb); replace HI0 := mk0 (hi); clear hb hk hi) | ((with_reducible refine gate_callee (f := 94) rfl ?_); refine gl_ (some 8) Try.func94 #[.pointer (some ⟨g, 0, none⟩), .int .i64 20] rfl q_0 ?_; (with_reducible refine (spec_l01Below.calls g s0_0 t452 t453 20 t454 t455 t456 w0 _ ?side1 ?side2 A3.out).mono ?_); (case side1 => exact q_158); (case side2 => exact z17_17); rintro e w10 ⟨rfl, hi, hb, hk⟩; refine ⟨_, rfl, ?_⟩; replace BK450 := kB BK450 hk (pkb BK450) NB450_0; replace HK := mk0 (KeepBut.trans z17_11 hk (.inl rfl)); replace HB := mk0 (hb); replace HI0 := mk0 (hi); clear hb hk hi) | ((with_reducible refine gate_dst (N := 3) rfl ?_); refine boxz (cs := #[.int .i64 0, .int .i64 0, .int .i64 0, .int .i64 0]) (t := 63) rfl ?_; intro gb457 hg w11 hbox hb; replace HB := mk0 (below_step (by repeat (first | (with_reducible first | exact HB.out | apply below_alloc | apply pw_below_drewN | apply below_drew1 | refine below_set ?_ (IsS152.ge HI0.out) | refine below_set ?_ GE450.out) | exact HB.out)) hb); have BK457 := mk0 (hbox); have GW457 := mk0 ((by rw [hg]; exact (keep_size (w := w) (g := g) (row := none) z17_11) : w.heap.size ≤ gb457)); have GE457 := mk0 ((Nat.le_trans HW0.out (by rw [hg]; exact (keep_size (w := w) (g := g) (row := none) z17_11) : w.heap.size ≤ gb457) : w0.heap.size ≤ gb457)); replace HK := mk0 (KeepBut.trans z17_11 (KeepBut.of_below hb g none) (.inl rfl)); have NB450_457 := mk0 (nb_lt hg (blk_ltB BK450 (pkb BK450))); have NB457_450 := mk0 (nb_gt hg (blk_ltB BK450 (pkb BK450))); replace BK450 := bB BK450 hb; have NB0_457 := mk0 ((by rw [hg]; exact Nat.ne_of_lt (IsS152.lt (show IsS152 w0 _ g s0_0 t455 t456 from q_158)) : g ≠ gb457)); have NB457_0 := mk0 ((by rw [hg]; exact Nat.ne_of_gt (IsS152.lt (show IsS152 w0 _ g s0_0 t455 t456 from q_158)) : gb457 ≠ g)); replace HI0 := mk0 (IsS152.below (by repeat (first | (with_reducible first | exact HI0.out | apply IsS152.alloc | apply IsS152.drewN | apply IsS152.drew | apply IsS152.set_1 | apply IsS152.set_2 | apply IsS152.farB NB0_450.out) | exact HI0.out)) hb); clear hb hbox hg; have hnb12 := NB457_450.out; have hnc12 := NB450_457.out; have hnb13 := NB457_0.out; have hnc13 := NB0_457.out; obtain ⟨_, _, _, _, _, _, _, _⟩ := be_4 BK457.out))
 obtain ⟨w15, hw_⟩ : ∃ w_ : World, w_ = ((((w11.setCell ⟨gb457, 0, none⟩ (.int .i64 (wrap64 (t451 - 5)))).setCell ⟨gb457, 1, none⟩ (.int .i64 (wrap64 (t454 - 5)))).setCell ⟨gb457, 2, none⟩ (.int .i64 0)).setCell ⟨gb457, 3, none⟩ (.int .i64 0)) := ⟨_, rfl⟩
 have n0_ : Aside0 (w15.heap[gb450]? = some (.cells #[.int .i64 0, .int .i64 0, .int .i64 0, .int .i64 0] 63 (0, 0))) := ⟨(by rw [hw_]; exact (by (with_reducible repeat (first | refine blk_drewN ?_ _ | refine blk_drew ?_ | refine blk_alloc ?_ _ | refine blk_far ?_ NB450_457.out _)); exact BK450.out))⟩
 have n1_ : Aside0 (w15.heap[gb457]? = some (.cells #[.int .i64 (wrap64 (t451 - 5)), .int .i64 (wrap64 (t454 - 5)), .int .i64 0, .int .i64 0] 63 (0, 0))) := ⟨(by rw [hw_]; exact (by (with_reducible repeat (first | refine blk_drewN ?_ _ | refine blk_drew ?_ | refine blk_alloc ?_ _)); refine blk_put (cs := #[.int .i64 (wrap64 (t451 - 5)), .int .i64 (wrap64 (t454 - 5)), .int .i64 0, .int .i64 0]) ?_ 3 _ rfl; (with_reducible repeat (first | refine blk_drewN ?_ _ | refine blk_drew ?_ | refine blk_alloc ?_ _)); refine blk_put (cs := #[.int .i64 (wrap64 (t451 - 5)), .int .i64 (wrap64 (t454 - 5)), .int .i64 0, .int .i64 0]) ?_ 2 _ rfl; (with_reducible repeat (first | refine blk_drewN ?_ _ | refine blk_drew ?_ | refine blk_alloc ?_ _)); refine blk_put (cs := #[.int .i64 (wrap64 (t451 - 5)), .int .i64 0, .int .i64 0, .int .i64 0]) ?_ 1 _ rfl; (with_reducible repeat (first | refine blk_drewN ?_ _ | refine blk_drew ?_ | refine blk_alloc ?_ _)); refine blk_put (cs := #[.int .i64 0, .int .i64 0, .int .i64 0, .int .i64 0]) ?_ 0 _ rfl; (with_reducible repeat (first | refine blk_drewN ?_ _ | refine blk_drew ?_ | refine blk_alloc ?_ _)); exact BK457.out))⟩
 have n2_ : Aside0 (IsS152 w0 w15 g s0_0 t455 t456) := ⟨(by rw [hw_]; exact q_157)⟩
 have n3_ : Aside0 (KeepBut w w15 g none) := ⟨(by rw [hw_]; exact z17_1)⟩
 have n4_ : Aside0 (Below w0.heap.size w0 w15) := ⟨(by rw [hw_]; exact q_84)⟩
 (try clear BK450); (try clear BK457); (try clear HI0); (try clear HK); (try clear HB); rw [← hw_]; clear hw_; have BK450 := n0_; have BK457 := n1_; have HI0 := n2_; have HK := n3_; have HB := n4_; clear n0_ n1_ n2_ n3_ n4_; replace BK450 := mk0 (blk_drew BK450.out); replace BK457 := mk0 (blk_drew BK457.out); replace HI0 := mk0 (IsS152.drew HI0.out); replace HK := mk0 (keep_drew HK.out); replace HB := mk0 (below_drew1 HB.out)
 refine start_ (n := 7) (S := fun w' => w'.cell? ⟨gb457, 0, none⟩ = some (.int .i64 (wrap64 (t451 - 5))) ∧ w'.cell? ⟨gb457, 1, none⟩ = some (.int .i64 (wrap64 (t454 - 5))) ∧ w'.cell? ⟨gb457, 2, none⟩ = some (.int .i64 0) ∧ w'.cell? ⟨gb457, 3, none⟩ = some (.int .i64 0)) (ds := [6]) #[false, false, false, false, false, false, false] (by kernel_rfl) rfl rfl ⟨(blk_cell BK457.out 0).trans rfl, (blk_cell BK457.out 1).trans rfl, (blk_cell BK457.out 2).trans rfl, (blk_cell BK457.out 3).trans rfl⟩ (fun hHeld => ?_)
 generalize w15.drew = w16 at BK450 BK457 HI0 HK HB hHeld ⊢
 refine pure_ (i := 0) (N := some 11) (v := ?_) (a' := ?_) (bA 7 1) rfl rfl (by kernel_rfl) (fun _ _ _ h => h) (Or.inl ⟨by rfl, ?_⟩) ?_ ?_; rotate_left
 ·intro w'
  go_simp; with_reducible rfl
 rotate_left
 ·exact x17_put
 refine pure_ (i := 2) (N := some 13) (v := ?_) (a' := ?_) (bA 7 5) rfl rfl (by kernel_rfl) (fun _ _ _ h => h) (Or.inl ⟨by rfl, ?_⟩) ?_ ?_; rotate_left
 ·intro w'
  go_simp; with_reducible rfl
 rotate_left
 ·exact x17_put
 refine take_ (i := 1) (N := some 12) (v := ?_) (a' := ?_) (bA 7 7) rfl rfl (by kernel_rfl) (fun _ _ _ h => h) (Or.inl ⟨by rfl, ?_⟩) hHeld ?_ ?_
 rotate_left
 ·rintro w' ⟨s0, s1, s2, s3⟩
  go_simp; with_reducible rfl
 rotate_left
 ·exact x17_put
 refine one_ (i := 3) (N := some 14) (bA 7 15) rfl rfl (by kernel_rfl) (by decide) (fun K hK => ?_)
 refine goes_ Try.func94 (by kernel_rfl) rfl #[.pointer (some ⟨g, 0, none⟩), .int .i64 9] (by rfl) rfl rfl q_0 ?_
 with_reducible refine (spec_l01Below.calls g s0_0 t455 t456 9 t458 t459 t460 w0 _ ?side1 ?side2 A4.out).mono ?_
 (case side1 => exact q_157)
 (case side2 => exact q_84)
 rintro e w17 ⟨rfl, hi, hb, hk⟩
 refine ⟨_, rfl, ?_⟩
 replace BK450 := kB BK450 hk (pkb BK450) NB450_0; replace BK457 := kB BK457 hk (pkb BK457) NB457_0; replace HK := mk0 (KeepBut.trans z17_1 hk (.inl rfl)); replace HB := mk0 (hb); replace HI0 := mk0 (hi); (try clear hb); (try clear hb2); (try clear hk); (try clear hi); refine hK.out _ _ ⟨(blk_cell BK457.out 0).trans rfl, (blk_cell BK457.out 1).trans rfl, (blk_cell BK457.out 2).trans rfl, (blk_cell BK457.out 3).trans rfl⟩ (fun hHeld => ?_); clear hK K
 refine norm_ (a' := ?_) ?_ ?_
 rotate_left
 ·show Act.put _ (some 14) _ = _
  simp only [Act.put, List.setIfInBounds_toArray, List.set_cons_zero, List.set_cons_succ, i64_w, i32_w]
  rfl
 refine pure_ (i := 4) (N := some 15) (v := ?_) (a' := ?_) (bA 7 31) rfl rfl (by kernel_rfl) (fun _ _ _ h => h) (Or.inl ⟨by rfl, ?_⟩) ?_ ?_; rotate_left
 ·intro w'
  go_simp; with_reducible rfl
 rotate_left
 ·exact x17_put
 refine pure_ (i := 5) (N := some 16) (v := ?_) (a' := ?_) (bA 7 63) rfl rfl (by kernel_rfl) (fun _ _ _ h => h) (Or.inl ⟨by rfl, ?_⟩) ?_ ?_; rotate_left
 ·intro w'
  go_simp; with_reducible rfl
 rotate_left
 ·exact x17_put
 refine last_ (i := 6) (N := none) (bA 7 127) rfl rfl (by kernel_rfl) (by decide) (fun K hK => ?_)
 have hs18 : w17.cell? ⟨gb457, 2, none⟩ = some (.int .i64 0) := (blk_cell BK457.out 2).trans rfl
 have hfs18 := blk_frozen BK457.out 2; have hns18_0 := NB450_457.out; have hms18_0 := NB457_450.out
 refine skip_ (w1 := ?_) ?hwx ?hN ?_ ?_; (case hwx => rfl); (case hN => rfl)
 rotate_left
 ·go_simp
  rfl
 refine hK.out _ _ ?_; clear hK K
 refine done_ (by kernel_rfl) ?_
 try go_wp2
 obtain ⟨w19, hw_⟩ : ∃ w_ : World, w_ = (w17.setCell ⟨gb457, 2, none⟩ (.int .i64 (wrap64 ((wrap64 (t451 - 5)) + t458)))) := ⟨_, rfl⟩
 have n0_ : Aside0 (w19.heap[gb450]? = some (.cells #[.int .i64 0, .int .i64 0, .int .i64 0, .int .i64 0] 63 (0, 0))) := ⟨(by rw [hw_]; exact z17_13)⟩
 have n1_ : Aside0 (w19.heap[gb457]? = some (.cells #[.int .i64 (wrap64 (t451 - 5)), .int .i64 (wrap64 (t454 - 5)), .int .i64 (wrap64 ((wrap64 (t451 - 5)) + t458)), .int .i64 0] 63 (0, 0))) := ⟨(by rw [hw_]; exact (by (with_reducible repeat (first | refine blk_drewN ?_ _ | refine blk_drew ?_ | refine blk_alloc ?_ _)); refine blk_put (cs := #[.int .i64 (wrap64 (t451 - 5)), .int .i64 (wrap64 (t454 - 5)), .int .i64 0, .int .i64 0]) ?_ 2 _ rfl; (with_reducible repeat (first | refine blk_drewN ?_ _ | refine blk_drew ?_ | refine blk_alloc ?_ _)); exact BK457.out))⟩
 have n2_ : Aside0 (IsS152 w0 w19 g s0_0 t459 t460) := ⟨(by rw [hw_]; exact q_157)⟩
 have n3_ : Aside0 (KeepBut w w19 g none) := ⟨(by rw [hw_]; exact z17_1)⟩
 have n4_ : Aside0 (Below w0.heap.size w0 w19) := ⟨(by rw [hw_]; exact q_84)⟩
 (try clear BK450); (try clear BK457); (try clear HI0); (try clear HK); (try clear HB); rw [← hw_]; clear hw_; have BK450 := n0_; have BK457 := n1_; have HI0 := n2_; have HK := n3_; have HB := n4_; clear n0_ n1_ n2_ n3_ n4_; replace BK450 := mk0 (blk_drew BK450.out); replace BK457 := mk0 (blk_drew BK457.out); replace HI0 := mk0 (IsS152.drew HI0.out); replace HK := mk0 (keep_drew HK.out); replace HB := mk0 (below_drew1 HB.out)
 refine start_ (n := 7) (S := fun w' => w'.cell? ⟨gb457, 0, none⟩ = some (.int .i64 (wrap64 (t451 - 5))) ∧ w'.cell? ⟨gb457, 1, none⟩ = some (.int .i64 (wrap64 (t454 - 5))) ∧ w'.cell? ⟨gb457, 2, none⟩ = some (.int .i64 (wrap64 ((wrap64 (t451 - 5)) + t458))) ∧ w'.cell? ⟨gb457, 3, none⟩ = some (.int .i64 0)) (ds := [6]) #[false, false, false, false, false, false, false] (by kernel_rfl) rfl rfl ⟨(blk_cell BK457.out 0).trans rfl, (blk_cell BK457.out 1).trans rfl, (blk_cell BK457.out 2).trans rfl, (blk_cell BK457.out 3).trans rfl⟩ (fun hHeld => ?_)
 generalize w19.drew = w20 at BK450 BK457 HI0 HK HB hHeld ⊢
 refine pure_ (i := 0) (N := some 17) (v := ?_) (a' := ?_) (bA 7 1) rfl rfl (by kernel_rfl) (fun _ _ _ h => h) (Or.inl ⟨by rfl, ?_⟩) ?_ ?_; rotate_left
 ·intro w'
  go_simp; with_reducible rfl
 rotate_left
 ·exact x17_put
 refine pure_ (i := 2) (N := some 19) (v := ?_) (a' := ?_) (bA 7 5) rfl rfl (by kernel_rfl) (fun _ _ _ h => h) (Or.inl ⟨by rfl, ?_⟩) ?_ ?_; rotate_left
 ·intro w'
  go_simp; with_reducible rfl
 rotate_left
 ·exact x17_put
 refine take_ (i := 1) (N := some 18) (v := ?_) (a' := ?_) (bA 7 7) rfl rfl (by kernel_rfl) (fun _ _ _ h => h) (Or.inl ⟨by rfl, ?_⟩) hHeld ?_ ?_
 rotate_left
 ·rintro w' ⟨s0, s1, s2, s3⟩
  go_simp; with_reducible rfl
 rotate_left
 ·exact x17_put
 refine one_ (i := 3) (N := some 20) (bA 7 15) rfl rfl (by kernel_rfl) (by decide) (fun K hK => ?_)
 refine goes_ Try.func94 (by kernel_rfl) rfl #[.pointer (some ⟨g, 0, none⟩), .int .i64 9] (by rfl) rfl rfl q_0 ?_
 with_reducible refine (spec_l01Below.calls g s0_0 t459 t460 9 t461 t462 t463 w0 _ ?side1 ?side2 A5.out).mono ?_
 (case side1 => exact q_157)
 (case side2 => exact q_84)
 rintro e w21 ⟨rfl, hi, hb, hk⟩
 refine ⟨_, rfl, ?_⟩
 replace BK450 := kB BK450 hk (pkb BK450) NB450_0; replace BK457 := kB BK457 hk (pkb BK457) NB457_0; replace HK := mk0 (KeepBut.trans z17_1 hk (.inl rfl)); replace HB := mk0 (hb); replace HI0 := mk0 (hi); (try clear hb); (try clear hb2); (try clear hk); (try clear hi); refine hK.out _ _ ⟨(blk_cell BK457.out 0).trans rfl, (blk_cell BK457.out 1).trans rfl, (blk_cell BK457.out 2).trans rfl, (blk_cell BK457.out 3).trans rfl⟩ (fun hHeld => ?_); clear hK K
 refine norm_ (a' := ?_) ?_ ?_
 rotate_left
 ·show Act.put _ (some 20) _ = _
  simp only [Act.put, List.setIfInBounds_toArray, List.set_cons_zero, List.set_cons_succ, i64_w, i32_w]
  rfl
 refine pure_ (i := 4) (N := some 21) (v := ?_) (a' := ?_) (bA 7 31) rfl rfl (by kernel_rfl) (fun _ _ _ h => h) (Or.inl ⟨by rfl, ?_⟩) ?_ ?_; rotate_left
 ·intro w'
  go_simp; with_reducible rfl
 rotate_left
 ·exact x17_put
 refine pure_ (i := 5) (N := some 22) (v := ?_) (a' := ?_) (bA 7 63) rfl rfl (by kernel_rfl) (fun _ _ _ h => h) (Or.inl ⟨by rfl, ?_⟩) ?_ ?_; rotate_left
 ·intro w'
  go_simp; with_reducible rfl
 rotate_left
 ·exact x17_put
 refine last_ (i := 6) (N := none) (bA 7 127) rfl rfl (by kernel_rfl) (by decide) (fun K hK => ?_)
 have hs22 : w21.cell? ⟨gb457, 3, none⟩ = some (.int .i64 0) := (blk_cell BK457.out 3).trans rfl
 have hfs22 := blk_frozen BK457.out 3; have hns22_0 := NB450_457.out; have hms22_0 := NB457_450.out
 refine skip_ (w1 := ?_) ?hwx ?hN ?_ ?_; (case hwx => rfl); (case hN => rfl)
 rotate_left
 ·go_simp
  rfl
 refine hK.out _ _ ?_; clear hK K
 refine done_ (by kernel_rfl) ?_
 go_upto_if 24 with (first | ((with_reducible refine gate_callee (f := 95) rfl ?_); refine gl_ (some 24) Try.func95 #[.pointer (some ⟨g, 0, none⟩), .int .i64 16] rfl q_0 ?_; (with_reducible refine (spec_l01Once.calls g s0_0 t462 t463 16 t464 t465 t466 w0 _ ?side1 ?side2 A6.out).mono ?_); (case side1 => exact q_157); (case side2 => exact q_84); rintro e w23 ⟨rfl, hi, hb, hk⟩; refine ⟨_, rfl, ?_⟩; replace BK450 := kB BK450 hk z17_13 NB450_0; replace BK457 := mk0 (KeepBut.blk hk (g' := gb457) (o := .cells #[.int .i64 (wrap64 (t451 - 5)), .int .i64 (wrap64 (t454 - 5)), .int .i64 (wrap64 ((wrap64 (t451 - 5)) + t458)), .int .i64 (wrap64 ((wrap64 (t454 - 5)) + t461))] 63 (0, 0)) (by apply blk_fin; (focus ((with_reducible repeat (first | apply blk_putQ | refine blk_drewN ?_ _ | refine blk_drew ?_ | refine blk_alloc ?_ _)); exact BK457.out)); first | (simp only [List.setIfInBounds_toArray, List.set_cons_zero, List.set_cons_succ]; done) | rfl) NB457_0.out (by simp)); replace HK := mk0 (KeepBut.trans z17_1 hk (.inl rfl)); replace HB := mk0 (hb); replace HI0 := mk0 (hi); clear hb hk hi))
 (try simp only [Act.put, List.setIfInBounds_toArray, List.set_cons_zero, List.set_cons_succ])
 go_cut [] (fun wc => ∃ (kq : Nat) (x1001_6 : Int) (x1002_6 : Int) (x458002_6 : Int), Aside0 (spec_l05Box.j0 kq s0_0 x1001_6 x1002_6 (wrap64 (t451 - 5)) (wrap64 (t454 - 5)) x458002_6 (wrap64 ((wrap64 (t454 - 5)) + t461)) = some (r1, r2, r3, r4, r5, r6)) ∧ Aside0 (kq ≤ k) ∧ Aside0 (wc.heap[gb450]? = some (.cells #[.int .i64 0, .int .i64 0, .int .i64 0, .int .i64 0] 63 (0, 0))) ∧ Aside0 (wc.heap[gb457]? = some (.cells #[.int .i64 (wrap64 (t451 - 5)), .int .i64 (wrap64 (t454 - 5)), .int .i64 x458002_6, .int .i64 (wrap64 ((wrap64 (t454 - 5)) + t461))] 63 (0, 0))) ∧ Aside0 (IsS152 w0 wc g s0_0 x1001_6 x1002_6) ∧ Aside0 (KeepBut w wc g none) ∧ Aside0 (Below w0.heap.size w0 wc))
 case first =>
  have H := HC7.out; clear HC7
  by_cases c24 : t464 = true
  rotate_left
  ·replace c24 := Bool.eq_false_iff.mpr c24; subst c24; rw [if_neg (show ¬ (false = true) by decide)] at H
   have H' := mk0 H
   clear H
   go_wp2
   go_meet
   case rel => exact ⟨_, (t465), (t466), (wrap64 ((wrap64 (t451 - 5)) + t458)), H', ⟨(by first | omega | exact Nat.le_refl _)⟩, ⟨pkb BK450⟩, ⟨pkb BK457⟩, ⟨q_157⟩, ⟨z17_1⟩, ⟨q_84⟩⟩
  subst c24; rw [if_pos rfl] at H
  obtain ⟨y467, hy_⟩ : ∃ y_ : List Int, y_ = (([9223372036854775807, (-9223372036854775808), 33554433] : List Int)) := ⟨_, rfl⟩
  replace H : ((spec_l01PickInt.f s0_0 t465 t466 y467).bind fun bt470 => (spec_l05Box.j0 k s0_0 bt470.2.1 bt470.2.2 (wrap64 (t451 - 5)) (wrap64 (t454 - 5)) bt470.1 (wrap64 ((wrap64 (t454 - 5)) + t461)))) = some (r1, r2, r3, r4, r5, r6) := q_69
  have Ny467 := mk0 hy_; clear hy_
  obtain ⟨⟨t470, t471, t472⟩, A25, H⟩ := bnd H
  try dsimp only at H
  have H' := mk0 H
  clear H
  go_wp2_with (first | ((with_reducible refine gate_dst (N := 26) rfl ?_); refine Kd.R_lit (Kd.int .i64) _ 3 ?hg (N := 26) ?hd (xs := ([9223372036854775807, (-9223372036854775808), 33554433] : List Int)) (inner := [.int .i64 9223372036854775807, .int .i64 (-9223372036854775808), .int .i64 33554433]) (ok := fun _ => True) (okp := fun _ => True) ?hr ?hp (fun _ hk => hk) trivial (Below.refl _ _) (Nat.le_refl _) (by simp) ?_; (case hd => rfl); (case hg => rfl); (case hr => first | (go_simp; done) | (go_simp; rfl)); (case hp => exact (Reps.one (show Kd.M (Kd.int .i64) _ _ _ 9223372036854775807 [.int .i64 9223372036854775807] from rfl) (Reps.one (show Kd.M (Kd.int .i64) _ _ _ (-9223372036854775808) [.int .i64 (-9223372036854775808)] from rfl) (Reps.one (show Kd.M (Kd.int .i64) _ _ _ 33554433 [.int .i64 33554433] from rfl) (Reps.none _ _))))); intro v468 w26 ho27 hb hg_ hnew_; clear hg_ hnew_; (first | rw [← Ny467.out] at ho27 | (simp only [Int.reduceToNat] at ho27; rw [← Ny467.out] at ho27)); have HO469 := mk0 (Kd.R_lower ho27 (keep_size (w := w) (g := g) (row := none) z17_1)); replace BK450 := bB BK450 hb; replace BK457 := bB BK457 hb; replace HK := mk0 (KeepBut.trans z17_1 (KeepBut.of_below hb g none) (.inl rfl)); replace HB := bS q_84 hb; replace HI0 := mk0 (IsS152.below q_157 hb); clear hb ho27; obtain ⟨Ao28, co28, eo28⟩ := Kd.R_slice HO469.out; subst eo28) | ((with_reducible refine gate_callee (f := 113) rfl ?_); refine gl_ (some 27) Try.func113 #[.pointer (some ⟨g, 0, none⟩), .slice Ao28 y467.length co28] rfl q_0 ?_; (with_reducible refine (spec_l01PickInt.calls g s0_0 t465 t466 _ _ y467 t470 t471 t472 w0 _ ?side1 ?side2 ?side3 ?side4 ?side5 A25.out).mono ?_); (case side1 => exact q_157); (case side2 => exact q_84); (case side3 => repeat (first | exact (Kd.R_reads' HO469.out).2.2 | (with_reducible refine Kd.C_alloc ?_ _) | (with_reducible refine Kd.C_drewN ?_ _) | (with_reducible refine Kd.C_drew ?_))); (case side4 => exact (Kd.R_reads' HO469.out).2.1); (case side5 => exact far_slice (IsS152.own_ne HI0.out HO469.out (by decide))); rintro e w29 ⟨rfl, hi, hb, hk⟩; refine ⟨_, rfl, ?_⟩; replace BK450 := kB BK450 hk (pkb BK450) NB450_0; replace BK457 := kB BK457 hk (pkb BK457) NB457_0; replace HO469 := mk0 (Kd.R_mono (Kd.R_keep (IsS152.apart (show IsS152 w0 _ g s0_0 t465 t466 from q_157) (pkR HO469) (by decide)) hk (fun _ h => h.2)) (fun _ h => h.1)); replace HK := mk0 (KeepBut.trans z17_1 hk (.inl rfl)); replace HB := mk0 (hb); replace HI0 := mk0 (hi); clear hb hk hi; have hnb30 := NB457_450.out; have hnc30 := NB450_457.out; have hnb31 := NB457_0.out; have hnc31 := NB0_457.out; obtain ⟨_, _, _, _, _, _, _, _⟩ := be_4 BK457.out))
  go_meet
  case rel => exact ⟨_, (t471), (t472), (t470), H', ⟨(by first | omega | exact Nat.le_refl _)⟩, ⟨z17_13⟩, ⟨(by (with_reducible repeat (first | refine blk_drewN ?_ _ | refine blk_drew ?_ | refine blk_alloc ?_ _)); refine blk_put (cs := #[.int .i64 (wrap64 (t451 - 5)), .int .i64 (wrap64 (t454 - 5)), .int .i64 (wrap64 ((wrap64 (t451 - 5)) + t458)), .int .i64 (wrap64 ((wrap64 (t454 - 5)) + t461))]) ?_ 2 _ rfl; (with_reducible repeat (first | refine blk_drewN ?_ _ | refine blk_drew ?_ | refine blk_alloc ?_ _)); exact BK457.out)⟩, ⟨q_157⟩, ⟨z17_1⟩, ⟨q_84⟩⟩
 case rest =>
  clear HC7; try clear c1
  obtain ⟨kq, x1001_6, x1002_6, x458002_6, HA, HJ6, BK450, BK457, HI0, HK, HB⟩ := hcut
  cases kq with
  | zero => exact absurd HA.out (by simp [spec_l05Box.j0])
  | succ kj6 =>
   have H := HA.out; clear HA; simp only [spec_l05Box.j0] at H
   obtain ⟨⟨t473, t474, t475⟩, A33, H⟩ := bnd H
   try dsimp only at H
   by_cases c34 : t473 = true
   rotate_left
   ·replace c34 := Bool.eq_false_iff.mpr c34; subst c34; rw [if_neg (show ¬ (false = true) by decide)] at H
    simp only [Option.some.injEq, Prod.mk.injEq] at H; obtain ⟨rfl, rfl, rfl, rfl, rfl, rfl⟩ := H
    go_wp2_with (first | ((with_reducible refine gate_callee (f := 95) rfl ?_); refine gl_ (some 30) Try.func95 #[.pointer (some ⟨g, 0, none⟩), .int .i64 16] rfl q_0 ?_; (with_reducible refine (spec_l01Once.calls g s0_0 x1001_6 x1002_6 16 false t474 t475 w0 _ ?side1 ?side2 A33.out).mono ?_); (case side1 => exact q_157); (case side2 => exact q_84); rintro e w46 ⟨rfl, hi, hb, hk⟩; refine ⟨_, rfl, ?_⟩; replace BK450 := kB BK450 hk (pkb BK450) NB450_0; replace BK457 := kB BK457 hk (pkb BK457) NB457_0; replace HK := mk0 (KeepBut.trans z17_1 hk (.inl rfl)); replace HB := mk0 (hb); replace HI0 := mk0 (hi); clear hb hk hi; have hnb47 := NB457_450.out; have hnc47 := NB450_457.out; have hnb48 := NB457_0.out; have hnc48 := NB0_457.out; obtain ⟨_, _, _, _, _, _, _, _⟩ := be_4 BK457.out; have hnb50 := NB450_0.out; have hnc50 := NB0_450.out; obtain ⟨_, _, _, _, _, _, _, _⟩ := be_4 BK450.out))
    refine bodyPost_ret (results_cell_row rfl _ _ gb450 63 #[.int .i64 (wrap64 (t451 - 5)), .int .i64 (wrap64 (t454 - 5)), .int .i64 x458002_6, .int .i64 (wrap64 ((wrap64 (t454 - 5)) + t461))] (0, 0) _ rfl (by apply blk_fin; (focus ((with_reducible repeat (first | apply blk_putQ | refine blk_drewN ?_ _ | refine blk_drew ?_ | refine blk_alloc ?_ _)); exact BK450.out)); first | (simp only [List.setIfInBounds_toArray, List.set_cons_zero, List.set_cons_succ]; done) | rfl) Try.underlying63 rfl (by kernel_rfl)) rfl ?_
    exact ⟨q_71, q_157, q_84, z17_1⟩
   subst c34; rw [if_pos rfl] at H
   obtain ⟨y476, hy_⟩ : ∃ y_ : List Int, y_ = (([9223372036854775807, (-9223372036854775808), (-33554433)] : List Int)) := ⟨_, rfl⟩
   replace H : ((spec_l01PickInt.f s0_0 t474 t475 y476).bind fun bt479 => (some ((wrap64 (t451 - 5)), bt479.1, x458002_6, (wrap64 ((wrap64 (t454 - 5)) + t461)), bt479.2.1, bt479.2.2))) = some (r1, r2, r3, r4, r5, r6) := q_69
   have Ny476 := mk0 hy_; clear hy_
   obtain ⟨⟨t479, t480, t481⟩, A35, H⟩ := bnd H
   try dsimp only at H
   simp only [Option.some.injEq, Prod.mk.injEq] at H; obtain ⟨rfl, rfl, rfl, rfl, rfl, rfl⟩ := H
   go_wp2_with (first | ((with_reducible refine gate_callee (f := 95) rfl ?_); refine gl_ (some 30) Try.func95 #[.pointer (some ⟨g, 0, none⟩), .int .i64 16] rfl q_0 ?_; (with_reducible refine (spec_l01Once.calls g s0_0 x1001_6 x1002_6 16 true t474 t475 w0 _ ?side1 ?side2 A33.out).mono ?_); (case side1 => exact q_157); (case side2 => exact q_84); rintro e w36 ⟨rfl, hi, hb, hk⟩; refine ⟨_, rfl, ?_⟩; replace BK450 := kB BK450 hk (pkb BK450) NB450_0; replace BK457 := kB BK457 hk (pkb BK457) NB457_0; replace HK := mk0 (KeepBut.trans z17_1 hk (.inl rfl)); replace HB := mk0 (hb); replace HI0 := mk0 (hi); clear hb hk hi) | ((with_reducible refine gate_dst (N := 32) rfl ?_); refine Kd.R_lit (Kd.int .i64) _ 3 ?hg (N := 32) ?hd (xs := ([9223372036854775807, (-9223372036854775808), (-33554433)] : List Int)) (inner := [.int .i64 9223372036854775807, .int .i64 (-9223372036854775808), .int .i64 (-33554433)]) (ok := fun _ => True) (okp := fun _ => True) ?hr ?hp (fun _ hk => hk) trivial (Below.refl _ _) (Nat.le_refl _) (by simp) ?_; (case hd => rfl); (case hg => rfl); (case hr => first | (go_simp; done) | (go_simp; rfl)); (case hp => exact (Reps.one (show Kd.M (Kd.int .i64) _ _ _ 9223372036854775807 [.int .i64 9223372036854775807] from rfl) (Reps.one (show Kd.M (Kd.int .i64) _ _ _ (-9223372036854775808) [.int .i64 (-9223372036854775808)] from rfl) (Reps.one (show Kd.M (Kd.int .i64) _ _ _ (-33554433) [.int .i64 (-33554433)] from rfl) (Reps.none _ _))))); intro v477 w37 ho38 hb hg_ hnew_; clear hg_ hnew_; (first | rw [← Ny476.out] at ho38 | (simp only [Int.reduceToNat] at ho38; rw [← Ny476.out] at ho38)); have HO478 := mk0 (Kd.R_lower ho38 (keep_size (w := w) (g := g) (row := none) z17_1)); replace BK450 := bB BK450 hb; replace BK457 := bB BK457 hb; replace HK := mk0 (KeepBut.trans z17_1 (KeepBut.of_below hb g none) (.inl rfl)); replace HB := bS q_84 hb; replace HI0 := mk0 (IsS152.below q_157 hb); clear hb ho38; obtain ⟨Ao39, co39, eo39⟩ := Kd.R_slice HO478.out; subst eo39) | ((with_reducible refine gate_callee (f := 113) rfl ?_); refine gl_ (some 33) Try.func113 #[.pointer (some ⟨g, 0, none⟩), .slice Ao39 y476.length co39] rfl q_0 ?_; (with_reducible refine (spec_l01PickInt.calls g s0_0 t474 t475 _ _ y476 t479 t480 t481 w0 _ ?side1 ?side2 ?side3 ?side4 ?side5 A35.out).mono ?_); (case side1 => exact q_157); (case side2 => exact q_84); (case side3 => repeat (first | exact (Kd.R_reads' HO478.out).2.2 | (with_reducible refine Kd.C_alloc ?_ _) | (with_reducible refine Kd.C_drewN ?_ _) | (with_reducible refine Kd.C_drew ?_))); (case side4 => exact (Kd.R_reads' HO478.out).2.1); (case side5 => exact far_slice (IsS152.own_ne HI0.out HO478.out (by decide))); rintro e w40 ⟨rfl, hi, hb, hk⟩; refine ⟨_, rfl, ?_⟩; replace BK450 := kB BK450 hk (pkb BK450) NB450_0; replace BK457 := kB BK457 hk (pkb BK457) NB457_0; replace HO478 := mk0 (Kd.R_mono (Kd.R_keep (IsS152.apart (show IsS152 w0 _ g s0_0 t474 t475 from q_157) (pkR HO478) (by decide)) hk (fun _ h => h.2)) (fun _ h => h.1)); replace HK := mk0 (KeepBut.trans z17_1 hk (.inl rfl)); replace HB := mk0 (hb); replace HI0 := mk0 (hi); clear hb hk hi; have hnb41 := NB457_450.out; have hnc41 := NB450_457.out; have hnb42 := NB457_0.out; have hnc42 := NB0_457.out; obtain ⟨_, _, _, _, _, _, _, _⟩ := be_4 BK457.out; have hnb44 := NB450_0.out; have hnc44 := NB0_450.out; obtain ⟨_, _, _, _, _, _, _, _⟩ := be_4 BK450.out))
   refine bodyPost_ret (results_cell_row rfl _ _ gb450 63 #[.int .i64 (wrap64 (t451 - 5)), .int .i64 t479, .int .i64 x458002_6, .int .i64 (wrap64 ((wrap64 (t454 - 5)) + t461))] (0, 0) _ rfl (by apply blk_fin; (focus ((with_reducible repeat (first | apply blk_putQ | refine blk_farQ NB450_457.out ?_ | refine blk_drewN ?_ _ | refine blk_drew ?_ | refine blk_alloc ?_ _)); exact BK450.out)); first | (simp only [List.setIfInBounds_toArray, List.set_cons_zero, List.set_cons_succ]; done) | rfl) Try.underlying63 rfl (by kernel_rfl)) rfl ?_
   exact ⟨q_71, q_157, q_84, z17_1⟩

/-! ### spec_MaskOk: function 90 -/
mutual
def spec_MaskOk.j0 : Nat → Bool → Int → Int → Int → Int → List Int → Option (Bool)
 | 0, _, _, _, _, _, _ => none
 | k + 1, x36, x483000, x483001, x483002, x483003, x483004 => if x36 = true then (some false) else (spec_MaskOk.l0 k 0 x483000 x483001 x483002 x483003 x483004)
def spec_MaskOk.l0 : Nat → Int → Int → Int → Int → Int → List Int → Option (Bool)
 | 0, _, _, _, _, _, _ => none
 | k + 1, x3, x483000, x483001, x483002, x483003, x483004 => if x3 < (x483004.length : Int) then (if 0 ≤ x3 then ((spec_l01In.f (rd x483004 x3) 0 15).bind fun t485 => (if t485 = true then (spec_MaskOk.l0 k (wrap64 (x3 + 1)) x483000 x483001 x483002 x483003 x483004) else (some false))) else (none)) else (some true)
end
def spec_MaskOk.f (k : Nat) (a0_0 : Int) (a0_1 : Int) (a0_2 : Int) (a0_3 : Int) (l0_4 : List Int) : Option (Bool) := if (l0_4.length : Int) = 0 then (some (a0_0 == 0 && (a0_1 == 0 && (a0_2 == 0 && (a0_3 == 0))))) else ((spec_l11Box.f a0_0 a0_1 a0_2 a0_3).bind fun t483 => (if t483 = true then (spec_MaskOk.j0 k ((l0_4.length : Int) != (wrap64 ((wrap64 (a0_2 - a0_0)) * (wrap64 (a0_3 - a0_1))))) a0_0 a0_1 a0_2 a0_3 l0_4) else (spec_MaskOk.j0 k true a0_0 a0_1 a0_2 a0_3 l0_4)))
theorem spec_MaskOk.mono_l : ∀ k, (∀ y0 y1 y2 y3 y4 y5, LeO (spec_MaskOk.j0 k y0 y1 y2 y3 y4 y5) (spec_MaskOk.j0 (k + 1) y0 y1 y2 y3 y4 y5)) ∧ (∀ y0 y1 y2 y3 y4 y5, LeO (spec_MaskOk.l0 k y0 y1 y2 y3 y4 y5) (spec_MaskOk.l0 (k + 1) y0 y1 y2 y3 y4 y5))
 | 0 => ⟨fun _ _ _ _ _ _ r h => by simp [spec_MaskOk.j0] at h, fun _ _ _ _ _ _ r h => by simp [spec_MaskOk.l0] at h⟩
 | k + 1 => by
  obtain ⟨ih0, ih1⟩ := spec_MaskOk.mono_l k
  refine ⟨?_, ?_⟩
  ·intro y0 y1 y2 y3 y4 y5
   unfold spec_MaskOk.j0
   with_reducible repeat' first | apply ih0 | apply ih1 | exact LeO.refl _ | exact LeO.none _ | refine LeO.ite ?_ ?_ | refine LeO.bind ?_ (fun _ => ?_)
  ·intro y0 y1 y2 y3 y4 y5
   unfold spec_MaskOk.l0
   with_reducible repeat' first | apply ih0 | apply ih1 | exact LeO.refl _ | exact LeO.none _ | refine LeO.ite ?_ ?_ | refine LeO.bind ?_ (fun _ => ?_)
theorem spec_MaskOk.mono : ∀ a0 a1 a2 a3 a4 k, LeO (spec_MaskOk.f k a0 a1 a2 a3 a4) (spec_MaskOk.f (k + 1) a0 a1 a2 a3 a4) := by
 intro a0 a1 a2 a3 a4 k; obtain ⟨ih0, ih1⟩ := spec_MaskOk.mono_l k
 unfold spec_MaskOk.f
 with_reducible repeat' first | apply ih0 | apply ih1 | exact LeO.refl _ | exact LeO.none _ | refine LeO.ite ?_ ?_ | refine LeO.bind ?_ (fun _ => ?_)
set_option maxHeartbeats 8000000 in
set_option maxRecDepth 100000 in
theorem spec_MaskOk.calls (k : Nat) (a0_0 : Int) (a0_1 : Int) (a0_2 : Int) (a0_3 : Int) (A0_4 : Option Addr) (c0_4 : Nat) (l0_4 : List Int) (r : Bool) (w : World) (hr0_4 : Kd.C (Kd.int .i64) w A0_4 l0_4.length l0_4) (hc0_4 : l0_4.length ≤ c0_4) (h : spec_MaskOk.f k a0_0 a0_1 a0_2 a0_3 l0_4 = some r) :
  Calls Try.prog 90 #[.agg #[.int .i64 a0_0, .int .i64 a0_1, .int .i64 a0_2, .int .i64 a0_3, .slice A0_4 l0_4.length c0_4]] w fun e w' => e = .returned (.bool r) ∧ Below w.heap.size w w' := by
 have hu65 := Try.underlying65; have hu63 := Try.underlying63; have HR0_4 := mk0 hr0_4; have HC0_4 := mk0 hc0_4; clear hr0_4 hc0_4; have HB := mk0 (Below.refl w.heap.size w)
 have H := h; unfold spec_MaskOk.f at H
 clear h
 by_cases c2 : (l0_4.length : Int) = 0
 ·rw [if_pos c2] at H
  have c2b0 : ((l0_4.length : Int) == 0) = true := beq_iff_eq.mpr c2
  have c2b1 : ((l0_4.length : Int) != 0) = false := bne_eq_false_iff_eq.mpr c2
  clear c2
  obtain rfl := Option.some.inj H
  simp only [Option.some.injEq, Prod.mk.injEq] at H; obtain ⟨rfl⟩ := H
  go_enter Try.func90, Try.ntmps90
  go_wp2_with (first | ((with_reducible refine gate_dst (N := 1) rfl ?_); (try (refine gate_guard (by rfl) ?_; dsimp only)); refine boxz (cs := #[.int .i64 a0_0, .int .i64 a0_1, .int .i64 a0_2, .int .i64 a0_3, .slice A0_4 l0_4.length c0_4]) (t := 65) rfl ?_; intro gb482 hg w3 hbox hb; have GW482 := mk0 (ge_go (a := w.heap.size) hg (below_size q_149)); have GE482 := GW482; replace HB := bS q_149 hb; have BK482 := mk0 (hbox); clear hb hbox hg; obtain ⟨_, _, _, _, _, _, _, _, _, _⟩ := be_5 BK482.out))
  go_ret
  exact ⟨q_71, z17_7⟩
 rw [if_neg c2] at H
 have c2b0 : ((l0_4.length : Int) == 0) = false := beq_eq_false_iff_ne.mpr c2
 have c2b1 : ((l0_4.length : Int) != 0) = true := bne_iff_ne.mpr c2
 have c2b2 : ¬ (l0_4 = []) := fun h_ => c2 (by rw [h_]; rfl)
 have HC5 := mk0 H; clear H; go_enter Try.func90, Try.ntmps90
 go_upto_region 3 with (first | ((with_reducible refine gate_dst (N := 1) rfl ?_); (try (refine gate_guard (by rfl) ?_; dsimp only)); refine boxz (cs := #[.int .i64 a0_0, .int .i64 a0_1, .int .i64 a0_2, .int .i64 a0_3, .slice A0_4 l0_4.length c0_4]) (t := 65) rfl ?_; intro gb482 hg w6 hbox hb; have GW482 := mk0 (ge_go (a := w.heap.size) hg (below_size q_149)); have GE482 := GW482; replace HB := bS q_149 hb; have BK482 := mk0 (hbox); clear hb hbox hg; obtain ⟨_, _, _, _, _, _, _, _, _, _⟩ := be_5 BK482.out))
 (try simp only [Act.put, List.setIfInBounds_toArray, List.set_cons_zero, List.set_cons_succ])
 go_cut [36] (fun v36 wc => ∃ (kq : Nat) (x36_4 : Bool), v36 = .bool x36_4 ∧ Aside0 (spec_MaskOk.j0 kq x36_4 a0_0 a0_1 a0_2 a0_3 l0_4 = some r) ∧ Aside0 (kq ≤ k) ∧ Aside0 (wc.heap[gb482]? = some (.cells #[.int .i64 a0_0, .int .i64 a0_1, .int .i64 a0_2, .int .i64 a0_3, (.slice A0_4 l0_4.length c0_4)] 65 (0, 0))) ∧ Aside0 (Below w.heap.size w wc))
 case first =>
  have H := HC5.out; clear HC5; obtain ⟨t483, A8, H⟩ := bnd H
  try dsimp only at H
  by_cases c9 : t483 = true
  rotate_left
  ·replace c9 := Bool.eq_false_iff.mpr c9; subst c9; rw [if_neg (show ¬ (false = true) by decide)] at H
   have H' := mk0 H
   clear H; obtain ⟨_, _, _, _, _, _, _, _, _, _⟩ := be_5 BK482.out
   go_wp2_with (first | ((with_reducible refine gate_callee (f := 100) rfl ?_); refine gl_ (some 14) Try.func100 #[.agg #[.int .i64 a0_0, .int .i64 a0_1, .int .i64 a0_2, .int .i64 a0_3]] rfl q_0 ?_; (with_reducible refine (spec_l11Box.calls a0_0 a0_1 a0_2 a0_3 false _ A8.out).mono ?_); rintro e w14 ⟨rfl, hb⟩; refine ⟨_, rfl, ?_⟩; replace BK482 := bB BK482 hb; replace HB := bS z17_7 hb; clear hb))
   go_meet
   case rel => exact ⟨_, (true), rs0, H', ⟨(by first | omega | exact Nat.le_refl _)⟩, ⟨pkb BK482⟩, ⟨z17_7⟩⟩
  subst c9; rw [if_pos rfl] at H
  have H' := mk0 H
  clear H; obtain ⟨_, _, _, _, _, _, _, _, _, _⟩ := be_5 BK482.out
  go_wp2_with (first | ((with_reducible refine gate_callee (f := 100) rfl ?_); refine gl_ (some 14) Try.func100 #[.agg #[.int .i64 a0_0, .int .i64 a0_1, .int .i64 a0_2, .int .i64 a0_3]] rfl q_0 ?_; (with_reducible refine (spec_l11Box.calls a0_0 a0_1 a0_2 a0_3 true _ A8.out).mono ?_); rintro e w11 ⟨rfl, hb⟩; refine ⟨_, rfl, ?_⟩; replace BK482 := bB BK482 hb; replace HB := bS z17_7 hb; clear hb; obtain ⟨_, _, _, _, _, _, _, _, _, _⟩ := be_5 BK482.out))
  go_meet
  case rel => exact ⟨_, (((l0_4.length : Int) != (wrap64 ((wrap64 (a0_2 - a0_0)) * (wrap64 (a0_3 - a0_1)))))), rs0, H', ⟨(by first | omega | exact Nat.le_refl _)⟩, ⟨pkb BK482⟩, ⟨z17_7⟩⟩
 case rest =>
  clear HC5; try clear c1
  try clear c2
  try clear c2b0
  try clear c2b1
  try clear c2b2
  obtain ⟨kq, x36_4, rfl, HA, HJ4, BK482, HB⟩ := hcut
  cases kq with
  | zero => exact absurd HA.out (by simp [spec_MaskOk.j0])
  | succ kj4 =>
   have H := HA.out; clear HA; simp only [spec_MaskOk.j0] at H
   by_cases c15 : x36_4 = true
   ·subst c15; rw [if_pos rfl] at H
    obtain rfl := Option.some.inj H
    simp only [Option.some.injEq, Prod.mk.injEq] at H; obtain ⟨rfl⟩ := H
    go_wp2
    go_ret
    exact ⟨q_71, z17_7⟩
   replace c15 := Bool.eq_false_iff.mpr c15; subst c15; rw [if_neg (show ¬ (false = true) by decide)] at H
   have H' := mk0 H
   clear H
   go_wp2
   go_loopg [3] kj4 (fun kq v3 w' => ∃ (x3_2 : Int), v3 = .int .i64 x3_2 ∧ Aside0 (spec_MaskOk.l0 kq x3_2 a0_0 a0_1 a0_2 a0_3 l0_4 = some r) ∧ Aside0 (kq ≤ kj4) ∧ Aside0 (w'.heap[gb482]? = some (.cells #[.int .i64 a0_0, .int .i64 a0_1, .int .i64 a0_2, .int .i64 a0_3, (.slice A0_4 l0_4.length c0_4)] 65 (0, 0))) ∧ Aside0 (Below w.heap.size w w'))
   case atStart => exact ⟨(0), rs0, H', ⟨Nat.le_refl _⟩, ⟨pkb BK482⟩, ⟨z17_7⟩⟩
   case round =>
    clear H'; (try clear c15); obtain ⟨x3_2, rfl, HA, HK2, BK482, HB⟩ := hrel
    cases gk with
    | zero => exact absurd HA.out (by simp [spec_MaskOk.l0])
    | succ k2 =>
     have H := HA.out; clear HA; simp only [spec_MaskOk.l0] at H
     by_cases c16 : x3_2 < (l0_4.length : Int)
     rotate_left
     ·rw [if_neg c16] at H; have c16b0 := decide_eq_false c16; clear c16
      obtain rfl := Option.some.inj H
      simp only [Option.some.injEq, Prod.mk.injEq] at H; obtain ⟨rfl⟩ := H
      obtain ⟨_, _, _, _, _, _, _, _, _, _⟩ := be_5 BK482.out
      go_wp2
      go_ret
      exact ⟨q_71, z17_7⟩
     rw [if_pos c16] at H; have c16b0 := decide_eq_true c16; clear c16
     by_cases c17 : 0 ≤ x3_2
     rotate_left
     ·rw [if_neg c17] at H
      exact absurd H (by simp)
     rw [if_pos c17] at H; have c17b0 := decide_eq_true c17; clear c17; obtain ⟨t485, A18, H⟩ := bnd H
     try dsimp only at H
     by_cases c19 : t485 = true
     rotate_left
     ·replace c19 := Bool.eq_false_iff.mpr c19; subst c19; rw [if_neg (show ¬ (false = true) by decide)] at H
      obtain rfl := Option.some.inj H
      simp only [Option.some.injEq, Prod.mk.injEq] at H; obtain ⟨rfl⟩ := H
      obtain ⟨_, _, _, _, _, _, _, _, _, _⟩ := be_5 BK482.out
      have p484 : 0 ≤ (x3_2 : Int) := of_decide_eq_true (by first | (with_reducible assumption) | assumption)
      have q484 : x3_2 < (l0_4.length : Int) := of_decide_eq_true (by first | (with_reducible assumption) | assumption)
      obtain ⟨ad484, e484, hx484_0⟩ := Kd.at_int HR0_4.out x3_2 p484 q484
      cases e484
      replace hx484_0 := cell_go HB hx484_0; replace p484 := eq_true p484; replace q484 := eq_true q484
      go_wp2_with (first | ((with_reducible refine gate_callee (f := 64) rfl ?_); refine gl_ (some 49) Try.func64 #[.int .i64 (rd l0_4 x3_2), .int .i64 0, .int .i64 15] rfl q_0 ?_; (with_reducible refine (spec_l01In.calls (rd l0_4 x3_2) 0 15 false _ A18.out).mono ?_); rintro e w' ⟨rfl, ⟨nd, rfl⟩⟩; refine ⟨_, rfl, ?_⟩))
      go_ret
      exact ⟨q_71, z17_7⟩
     subst c19; rw [if_pos rfl] at H
     have H' := mk0 H
     clear H; obtain ⟨_, _, _, _, _, _, _, _, _, _⟩ := be_5 BK482.out
     have p484 : 0 ≤ (x3_2 : Int) := of_decide_eq_true (by first | (with_reducible assumption) | assumption)
     have q484 : x3_2 < (l0_4.length : Int) := of_decide_eq_true (by first | (with_reducible assumption) | assumption)
     obtain ⟨ad484, e484, hx484_0⟩ := Kd.at_int HR0_4.out x3_2 p484 q484
     cases e484
     replace hx484_0 := cell_go HB hx484_0; replace p484 := eq_true p484; replace q484 := eq_true q484
     go_wp2_with (first | ((with_reducible refine gate_callee (f := 64) rfl ?_); refine gl_ (some 49) Try.func64 #[.int .i64 (rd l0_4 x3_2), .int .i64 0, .int .i64 15] rfl q_0 ?_; (with_reducible refine (spec_l01In.calls (rd l0_4 x3_2) 0 15 true _ A18.out).mono ?_); rintro e w' ⟨rfl, ⟨nd, rfl⟩⟩; refine ⟨_, rfl, ?_⟩))
     go_roundg k2
     case measure => have := HJ4.out; have := HK2.out; omega
     case rel => exact ⟨(wrap64 (x3_2 + 1)), rs0, H', ⟨(by have := HJ4.out; have := HK2.out; omega)⟩, ⟨pkb BK482⟩, ⟨z17_7⟩⟩

/-! ### spec_InBox: function 135 -/
def spec_InBox.f (a0_0 : Int) (a0_1 : Int) (a0_2 : Int) (a0_3 : Int) (a1_0 : Int) (a1_1 : Int) : Option (Bool) := if a0_0 ≤ a1_0 then (if a1_0 < a0_2 then (if a0_1 ≤ a1_1 then (some (decide (a1_1 < a0_3))) else (some false)) else (some false)) else (some false)
set_option maxHeartbeats 8000000 in
set_option maxRecDepth 100000 in
theorem spec_InBox.calls (a0_0 : Int) (a0_1 : Int) (a0_2 : Int) (a0_3 : Int) (a1_0 : Int) (a1_1 : Int) (r : Bool) (w : World) (h : spec_InBox.f a0_0 a0_1 a0_2 a0_3 a1_0 a1_1 = some r) :
  Calls Try.prog 135 #[.agg #[.int .i64 a0_0, .int .i64 a0_1, .int .i64 a0_2, .int .i64 a0_3], .agg #[.int .i64 a1_0, .int .i64 a1_1]] w fun e w' => e = .returned (.bool r) ∧ Below w.heap.size w w' := by
 have hu63 := Try.underlying63; have hu52 := Try.underlying52; have HB := mk0 (Below.refl w.heap.size w)
 have H := h; unfold spec_InBox.f at H
 clear h
 by_cases c3 : a0_0 ≤ a1_0
 rotate_left
 ·rw [if_neg c3] at H; have c3b0 := decide_eq_false c3; clear c3
  obtain rfl := Option.some.inj H
  simp only [Option.some.injEq, Prod.mk.injEq] at H; obtain ⟨rfl⟩ := H
  go_enter Try.func135, Try.ntmps135
  go_wp2_with (first | ((with_reducible refine gate_dst (N := 2) rfl ?_); refine boxz (cs := #[.int .i64 a0_0, .int .i64 a0_1, .int .i64 a0_2, .int .i64 a0_3]) (t := 63) rfl ?_; intro gb486 hg w21 hbox hb; have GW486 := mk0 (ge_go (a := w.heap.size) hg (below_size q_149)); have GE486 := GW486; replace HB := bS q_149 hb; have BK486 := mk0 (hbox); clear hb hbox hg) | ((with_reducible refine gate_dst (N := 3) rfl ?_); refine boxz (cs := #[.int .i64 a1_0, .int .i64 a1_1]) (t := 52) rfl ?_; intro gb487 hg w22 hbox hb; have GW487 := mk0 (ge_go (a := w.heap.size) hg (below_size z17_3)); have GE487 := GW487; have NB486_487 := mk0 (nb_lt hg (blk_ltB BK486 (pkb BK486))); have NB487_486 := mk0 (nb_gt hg (blk_ltB BK486 (pkb BK486))); replace BK486 := bB BK486 hb; replace HB := bS z17_3 hb; have BK487 := mk0 (hbox); clear hb hbox hg; have hnb23 := NB486_487.out; have hnc23 := NB487_486.out; obtain ⟨_, _, _, _, _, _, _, _⟩ := be_4 BK486.out; obtain ⟨_, _, _, _⟩ := be_2 BK487.out))
  go_ret
  exact ⟨q_71, z17_12⟩
 rw [if_pos c3] at H; have c3b0 := decide_eq_true c3; clear c3
 by_cases c4 : a1_0 < a0_2
 rotate_left
 ·rw [if_neg c4] at H; have c4b0 := decide_eq_false c4; clear c4
  obtain rfl := Option.some.inj H
  simp only [Option.some.injEq, Prod.mk.injEq] at H; obtain ⟨rfl⟩ := H
  go_enter Try.func135, Try.ntmps135
  go_wp2_with (first | ((with_reducible refine gate_dst (N := 2) rfl ?_); refine boxz (cs := #[.int .i64 a0_0, .int .i64 a0_1, .int .i64 a0_2, .int .i64 a0_3]) (t := 63) rfl ?_; intro gb486 hg w16 hbox hb; have GW486 := mk0 (ge_go (a := w.heap.size) hg (below_size q_149)); have GE486 := GW486; replace HB := bS q_149 hb; have BK486 := mk0 (hbox); clear hb hbox hg) | ((with_reducible refine gate_dst (N := 3) rfl ?_); refine boxz (cs := #[.int .i64 a1_0, .int .i64 a1_1]) (t := 52) rfl ?_; intro gb487 hg w17 hbox hb; have GW487 := mk0 (ge_go (a := w.heap.size) hg (below_size z17_3)); have GE487 := GW487; have NB486_487 := mk0 (nb_lt hg (blk_ltB BK486 (pkb BK486))); have NB487_486 := mk0 (nb_gt hg (blk_ltB BK486 (pkb BK486))); replace BK486 := bB BK486 hb; replace HB := bS z17_3 hb; have BK487 := mk0 (hbox); clear hb hbox hg; have hnb18 := NB486_487.out; have hnc18 := NB487_486.out; obtain ⟨_, _, _, _, _, _, _, _⟩ := be_4 BK486.out; obtain ⟨_, _, _, _⟩ := be_2 BK487.out))
  go_ret
  exact ⟨q_71, z17_12⟩
 rw [if_pos c4] at H; have c4b0 := decide_eq_true c4; clear c4
 by_cases c5 : a0_1 ≤ a1_1
 ·rw [if_pos c5] at H; have c5b0 := decide_eq_true c5; clear c5
  obtain rfl := Option.some.inj H
  simp only [Option.some.injEq, Prod.mk.injEq] at H; obtain ⟨rfl⟩ := H
  go_enter Try.func135, Try.ntmps135
  go_wp2_with (first | ((with_reducible refine gate_dst (N := 2) rfl ?_); refine boxz (cs := #[.int .i64 a0_0, .int .i64 a0_1, .int .i64 a0_2, .int .i64 a0_3]) (t := 63) rfl ?_; intro gb486 hg w6 hbox hb; have GW486 := mk0 (ge_go (a := w.heap.size) hg (below_size q_149)); have GE486 := GW486; replace HB := bS q_149 hb; have BK486 := mk0 (hbox); clear hb hbox hg) | ((with_reducible refine gate_dst (N := 3) rfl ?_); refine boxz (cs := #[.int .i64 a1_0, .int .i64 a1_1]) (t := 52) rfl ?_; intro gb487 hg w7 hbox hb; have GW487 := mk0 (ge_go (a := w.heap.size) hg (below_size z17_3)); have GE487 := GW487; have NB486_487 := mk0 (nb_lt hg (blk_ltB BK486 (pkb BK486))); have NB487_486 := mk0 (nb_gt hg (blk_ltB BK486 (pkb BK486))); replace BK486 := bB BK486 hb; replace HB := bS z17_3 hb; have BK487 := mk0 (hbox); clear hb hbox hg; have hnb8 := NB486_487.out; have hnc8 := NB487_486.out; obtain ⟨_, _, _, _, _, _, _, _⟩ := be_4 BK486.out; obtain ⟨_, _, _, _⟩ := be_2 BK487.out))
  go_ret
  exact ⟨q_71, z17_12⟩
 rw [if_neg c5] at H; have c5b0 := decide_eq_false c5; clear c5
 obtain rfl := Option.some.inj H
 simp only [Option.some.injEq, Prod.mk.injEq] at H; obtain ⟨rfl⟩ := H
 go_enter Try.func135, Try.ntmps135
 go_wp2_with (first | ((with_reducible refine gate_dst (N := 2) rfl ?_); refine boxz (cs := #[.int .i64 a0_0, .int .i64 a0_1, .int .i64 a0_2, .int .i64 a0_3]) (t := 63) rfl ?_; intro gb486 hg w11 hbox hb; have GW486 := mk0 (ge_go (a := w.heap.size) hg (below_size q_149)); have GE486 := GW486; replace HB := bS q_149 hb; have BK486 := mk0 (hbox); clear hb hbox hg) | ((with_reducible refine gate_dst (N := 3) rfl ?_); refine boxz (cs := #[.int .i64 a1_0, .int .i64 a1_1]) (t := 52) rfl ?_; intro gb487 hg w12 hbox hb; have GW487 := mk0 (ge_go (a := w.heap.size) hg (below_size z17_3)); have GE487 := GW487; have NB486_487 := mk0 (nb_lt hg (blk_ltB BK486 (pkb BK486))); have NB487_486 := mk0 (nb_gt hg (blk_ltB BK486 (pkb BK486))); replace BK486 := bB BK486 hb; replace HB := bS z17_3 hb; have BK487 := mk0 (hbox); clear hb hbox hg; have hnb13 := NB486_487.out; have hnc13 := NB487_486.out; obtain ⟨_, _, _, _, _, _, _, _⟩ := be_4 BK486.out; obtain ⟨_, _, _, _⟩ := be_2 BK487.out))
 go_ret
 exact ⟨q_71, z17_12⟩

end Go.Proofs.Ytghbenapnhcllaa.MFnMasks
