/- Functions of the program as Lean functions, and the proof that a call comes to just these: machine text of this session's own program (myprint.py). -/
import Derived.Test.YtghbenapnhcllaaMFnMasksx0
import Derived.Test.YtghbenapnhcllaaMFnMasksx4
import Derived.Test.YtghbenapnhcllaaMFnMasksx11
namespace Go.Proofs.Ytghbenapnhcllaa.MFnMasks
open Go.RowKit Go.Proofs.YtghbenapnhcllaaW.PrintWords Go.Proofs.YtghbenapnhcllaaW.PrintLast Go.Proofs.YtghbenapnhcllaaW.PrintMore
attribute [local go_sem] max2_int min2_int max_two min_two max_three min_three max_four min_four   -- for this text's walks alone
set_option linter.unusedVariables false
set_option linter.unusedSimpArgs false

theorem x12_put {P : Prop} (h : P := by simp only [Act.put, List.setIfInBounds_toArray, List.set_cons_zero, List.set_cons_succ, i64_w, i32_w]; rfl) : P := h
theorem z12_1 {P : Prop} (h : P := by repeat (first | (with_reducible first | exact HK.out | apply KeepBut.set_ | apply keep_drewN | apply keep_drew | apply keep_alloc | refine keep_far ?_ GW291.out _ | refine keep_far ?_ GW313.out _) | exact HK.out)) : P := h
theorem z12_4 {P : Prop} (h : P := by repeat (first | (with_reducible first | exact HK.out | apply KeepBut.set_ | apply keep_drewN | apply keep_drew | apply keep_alloc | refine keep_far ?_ GW291.out _) | exact HK.out)) : P := h
theorem z12_12 {P : Prop} (h : P := by apply blk_fin; (focus ((with_reducible repeat (first | apply blk_putQ | refine blk_drewN ?_ _ | refine blk_drew ?_ | refine blk_alloc ?_ _)); exact BK291.out)); first | (simp only [List.setIfInBounds_toArray, List.set_cons_zero, List.set_cons_succ]; done) | rfl) : P := h
theorem z12_15 {P : Prop} (h : P := by (with_reducible repeat (first | refine blk_drewN ?_ _ | refine blk_drew ?_ | refine blk_alloc ?_ _ | refine blk_far ?_ NB291_313.out _)); exact BK291.out) : P := h
theorem z12_20 {P : Prop} (h : P := by (with_reducible repeat (first | apply Kd.R_alloc | apply Kd.R_drewN | apply Kd.R_drew)); exact Kd.R_mono HO_314000.out (fun _ hk => trivial)) : P := h
/-! ### spec_l06Path: function 131 -/
mutual
def spec_l06Path.l0 : Nat → Int → List Int → Int → Int → List Int → List (S52) → Option (List Int × (List (S52)) × Int × Int)
 | 0, _, _, _, _, _, _ => none
 | k + 1, x6, x1000, x1001, x1002, x314000, x314001 => (spec_l01Below.f x1000 x1001 x1002 6).bind fun bt314 => (if x6 < (wrap64 (1 + bt314.1)) then ((spec_l01PickInt.f x1000 bt314.2.1 bt314.2.2 (([2, 2, 2, 3, 4, 5, 1] : List Int))).bind fun bt320 => (if x6 = 0 then (spec_l06Path.j1 k x6 bt320.1 true x1000 bt320.2.1 bt320.2.2 x314000 x314001) else (if 0 ≤ (wrap64 (x6 - 1)) then (if (wrap64 (x6 - 1)) < (x314000.length : Int) then (spec_l06Path.j1 k x6 bt320.1 ((rd x314000 (wrap64 (x6 - 1))) == 5) x1000 bt320.2.1 bt320.2.2 x314000 x314001) else (none)) else (none)))) else (some (x314000, x314001, bt314.2.1, bt314.2.2)))
def spec_l06Path.j1 : Nat → Int → Int → Bool → List Int → Int → Int → List Int → List (S52) → Option (List Int × (List (S52)) × Int × Int)
 | 0, _, _, _, _, _, _, _, _ => none
 | k + 1, x6, x7, x50, x1000, x1001, x1002, x314000, x314001 => if x50 = true then (spec_l06Path.j2 k x6 1 x1000 x1001 x1002 x314000 x314001) else (spec_l06Path.j2 k x6 x7 x1000 x1001 x1002 x314000 x314001)
def spec_l06Path.j2 : Nat → Int → Int → List Int → Int → Int → List Int → List (S52) → Option (List Int × (List (S52)) × Int × Int)
 | 0, _, _, _, _, _, _, _ => none
 | k + 1, x6, x7, x1000, x1001, x1002, x314000, x314001 => (spec_NeedOf.f x7).bind fun t324 => (if (wrap64 ((x314001.length : Int) + t324)) > 24 then (some (x314000, x314001, x1001, x1002)) else (if x314000.length < 17592186044416 then (spec_l06Path.l1 k x6 x7 0 x1000 x1001 x1002 (x314000 ++ [x7]) x314001) else (none)))
def spec_l06Path.l1 : Nat → Int → Int → Int → List Int → Int → Int → List Int → List (S52) → Option (List Int × (List (S52)) × Int × Int)
 | 0, _, _, _, _, _, _, _, _ => none
 | k + 1, x6, x7, x8, x1000, x1001, x1002, x314000, x314001 => (spec_NeedOf.f x7).bind fun t328 => (if x8 < t328 then ((spec_l04Point.f x1000 x1001 x1002).bind fun bt329 => (if x314001.length < 8796093022208 then (spec_l06Path.l1 k x6 x7 (wrap64 (x8 + 1)) x1000 bt329.2.2.1 bt329.2.2.2 x314000 (x314001 ++ [(⟨bt329.1, bt329.2.1⟩ : S52)])) else (none))) else (spec_l06Path.l0 k (wrap64 (x6 + 1)) x1000 x1001 x1002 x314000 x314001))
end
def spec_l06Path.f (k : Nat) (s0_0 : List Int) (s0_1 : Int) (s0_2 : Int) : Option (List Int × (List (S52)) × Int × Int) := (spec_l01Once.f s0_0 s0_1 s0_2 2).bind fun bt292 => (if bt292.1 = true then ((spec_l01Below.f s0_0 bt292.2.1 bt292.2.2 2400).bind fun bt295 => ((spec_l01Below.f s0_0 bt295.2.1 bt295.2.2 2400).bind fun bt298 => ((spec_l01Below.f s0_0 bt298.2.1 bt298.2.2 1500).bind fun bt301 => ((spec_l01Below.f s0_0 bt301.2.1 bt301.2.2 1500).bind fun bt304 => ((spec_RectPath.f bt295.1 bt298.1 (wrap64 ((wrap64 (bt295.1 + 1)) + bt301.1)) (wrap64 ((wrap64 (bt298.1 + 1)) + bt304.1))).bind fun bt307 => (some (bt307.1, bt307.2, bt304.2.1, bt304.2.2))))))) else (spec_l06Path.l0 k 0 s0_0 bt292.2.1 bt292.2.2 ([] : List Int) ([] : List (S52))))
theorem spec_l06Path.mono_l : ∀ k, (∀ y0 y1 y2 y3 y4 y5, LeO (spec_l06Path.l0 k y0 y1 y2 y3 y4 y5) (spec_l06Path.l0 (k + 1) y0 y1 y2 y3 y4 y5)) ∧ (∀ y0 y1 y2 y3 y4 y5 y6 y7, LeO (spec_l06Path.j1 k y0 y1 y2 y3 y4 y5 y6 y7) (spec_l06Path.j1 (k + 1) y0 y1 y2 y3 y4 y5 y6 y7)) ∧ (∀ y0 y1 y2 y3 y4 y5 y6, LeO (spec_l06Path.j2 k y0 y1 y2 y3 y4 y5 y6) (spec_l06Path.j2 (k + 1) y0 y1 y2 y3 y4 y5 y6)) ∧ (∀ y0 y1 y2 y3 y4 y5 y6 y7, LeO (spec_l06Path.l1 k y0 y1 y2 y3 y4 y5 y6 y7) (spec_l06Path.l1 (k + 1) y0 y1 y2 y3 y4 y5 y6 y7))
 | 0 => ⟨fun _ _ _ _ _ _ r h => by simp [spec_l06Path.l0] at h, fun _ _ _ _ _ _ _ _ r h => by simp [spec_l06Path.j1] at h, fun _ _ _ _ _ _ _ r h => by simp [spec_l06Path.j2] at h, fun _ _ _ _ _ _ _ _ r h => by simp [spec_l06Path.l1] at h⟩
 | k + 1 => by
  obtain ⟨ih0, ih1, ih2, ih3⟩ := spec_l06Path.mono_l k
  refine ⟨?_, ?_, ?_, ?_⟩
  ·intro y0 y1 y2 y3 y4 y5
   unfold spec_l06Path.l0
   with_reducible repeat' first | apply ih0 | apply ih1 | apply ih2 | apply ih3 | exact LeO.refl _ | exact LeO.none _ | refine LeO.ite ?_ ?_ | refine LeO.bind ?_ (fun _ => ?_)
  ·intro y0 y1 y2 y3 y4 y5 y6 y7
   unfold spec_l06Path.j1
   with_reducible repeat' first | apply ih0 | apply ih1 | apply ih2 | apply ih3 | exact LeO.refl _ | exact LeO.none _ | refine LeO.ite ?_ ?_ | refine LeO.bind ?_ (fun _ => ?_)
  ·intro y0 y1 y2 y3 y4 y5 y6
   unfold spec_l06Path.j2
   with_reducible repeat' first | apply ih0 | apply ih1 | apply ih2 | apply ih3 | exact LeO.refl _ | exact LeO.none _ | refine LeO.ite ?_ ?_ | refine LeO.bind ?_ (fun _ => ?_)
  ·intro y0 y1 y2 y3 y4 y5 y6 y7
   unfold spec_l06Path.l1
   with_reducible repeat' first | apply ih0 | apply ih1 | apply ih2 | apply ih3 | exact LeO.refl _ | exact LeO.none _ | refine LeO.ite ?_ ?_ | refine LeO.bind ?_ (fun _ => ?_)
theorem spec_l06Path.mono : ∀ a0 a1 a2 k, LeO (spec_l06Path.f k a0 a1 a2) (spec_l06Path.f (k + 1) a0 a1 a2) := by
 intro a0 a1 a2 k; obtain ⟨ih0, ih1, ih2, ih3⟩ := spec_l06Path.mono_l k
 unfold spec_l06Path.f
 with_reducible repeat' first | apply ih0 | apply ih1 | apply ih2 | apply ih3 | exact LeO.refl _ | exact LeO.none _ | refine LeO.ite ?_ ?_ | refine LeO.bind ?_ (fun _ => ?_)
def spec_l06Path.T18 : Bool × List (List Nat × List Nat) := (true, [([], []), ([0], [0]), ([], []), ([2], [2]), ([3], [3]), ([1, 4, 3], [1, 4]), ([0, 1, 2, 3, 4, 5], []), ([6, 5, 5, 0, 1, 2, 3, 4, 5], [5, 6])])
def spec_l06Path.B18 : List Nat := [0, 1, 0, 4, 12, 31, 63, 127]
theorem spec_l06Path.tab18 : rtab .any (opsOf Try.f131 18) = spec_l06Path.T18 := by kernel_rfl
theorem spec_l06Path.bits18 : waitsOk spec_l06Path.T18.2 spec_l06Path.B18 = true := by kernel_rfl
set_option maxHeartbeats 8000000 in
set_option maxRecDepth 100000 in
theorem spec_l06Path.calls (k : Nat) (g : Nat) (s0_0 : List Int) (s0_1 : Int) (s0_2 : Int) (r1 : List Int) (r2 : List (S52)) (r3 : Int) (r4 : Int) (w0 w : World) (hI : IsS152 w0 w g s0_0 s0_1 s0_2) (hB : Below w0.heap.size w0 w) (h : spec_l06Path.f k s0_0 s0_1 s0_2 = some (r1, r2, r3, r4)) :
  Calls Try.prog 131 #[.pointer (some ⟨g, 0, none⟩)] w fun e w' => ∃ v0_ v1_ : Value, e = .returned (.agg #[v0_, v1_]) ∧ Kd.R (Kd.int .i64) 3 w' w.heap.size (fun _ => True) v0_ r1 ∧ Kd.R k52 52 w' w.heap.size (fun _ => True) v1_ r2 ∧ IsS152 w0 w' g s0_0 r3 r4 ∧ Below w0.heap.size w0 w' ∧ KeepBut w w' g none := by
 have hu31 := Try.underlying31; have hu63 := Try.underlying63; have HI0 := mk0 hI; have HK := mk0 (KeepBut.refl w g none); have HL := mk0 hB.size; clear hI; have HW0 := mk0 hB.size; have HB := mk0 hB; clear hB
 have H := h; unfold spec_l06Path.f at H
 clear h
 obtain ⟨⟨t292, t293, t294⟩, A2, H⟩ := bnd H
 try dsimp only at H
 by_cases c3 : t292 = true
 ·subst c3; rw [if_pos rfl] at H
  obtain ⟨⟨t295, t296, t297⟩, A4, H⟩ := bnd H
  try dsimp only at H
  obtain ⟨⟨t298, t299, t300⟩, A5, H⟩ := bnd H
  try dsimp only at H
  obtain ⟨⟨t301, t302, t303⟩, A6, H⟩ := bnd H
  try dsimp only at H
  obtain ⟨⟨t304, t305, t306⟩, A7, H⟩ := bnd H
  try dsimp only at H
  obtain ⟨⟨t307, t310⟩, A8, H⟩ := bnd H
  try dsimp only at H
  simp only [Option.some.injEq, Prod.mk.injEq] at H; obtain ⟨rfl, rfl, rfl, rfl⟩ := H
  go_enter Try.func131, Try.ntmps131
  go_wp2_with (first | ((with_reducible refine gate_dst (N := 2) rfl ?_); refine boxz (cs := #[.slice none 0 0, .slice none 0 0]) (t := 31) rfl ?_; intro gb291 hg w9 hbox hb; replace HB := bS q_86 hb; have BK291 := mk0 (hbox); have GW291 := mk0 ((by rw [hg]; exact (keep_size (w := w) (g := g) (row := none) q_171) : w.heap.size ≤ gb291)); have GE291 := mk0 ((Nat.le_trans HW0.out (by rw [hg]; exact (keep_size (w := w) (g := g) (row := none) q_171) : w.heap.size ≤ gb291) : w0.heap.size ≤ gb291)); replace HK := mk0 (KeepBut.trans q_171 (KeepBut.of_below hb g none) (.inl rfl)); have NB0_291 := mk0 ((by rw [hg]; exact Nat.ne_of_lt (IsS152.lt (show IsS152 w0 _ g s0_0 s0_1 s0_2 from q_159)) : g ≠ gb291)); have NB291_0 := mk0 ((by rw [hg]; exact Nat.ne_of_gt (IsS152.lt (show IsS152 w0 _ g s0_0 s0_1 s0_2 from q_159)) : gb291 ≠ g)); replace HI0 := mk0 (IsS152.below q_159 hb); clear hb hbox hg) | ((with_reducible refine gate_callee (f := 95) rfl ?_); refine gl_ (some 10) Try.func95 #[.pointer (some ⟨g, 0, none⟩), .int .i64 2] rfl q_0 ?_; (with_reducible refine (spec_l01Once.calls g s0_0 s0_1 s0_2 2 true t293 t294 w0 _ ?side1 ?side2 A2.out).mono ?_); (case side1 => exact q_153); (case side2 => exact q_80); rintro e w10 ⟨rfl, hi, hb, hk⟩; refine ⟨_, rfl, ?_⟩; replace BK291 := kB BK291 hk (pkb BK291) NB291_0; replace HK := mk0 (KeepBut.trans z12_4 hk (.inl rfl)); replace HB := mk0 (hb); replace HI0 := mk0 (hi); clear hb hk hi) | ((with_reducible refine gate_callee (f := 94) rfl ?_); refine gl_ (some 12) Try.func94 #[.pointer (some ⟨g, 0, none⟩), .int .i64 2400] rfl q_0 ?_; (with_reducible refine (spec_l01Below.calls g s0_0 t293 t294 2400 t295 t296 t297 w0 _ ?side1 ?side2 A4.out).mono ?_); (case side1 => exact q_153); (case side2 => exact q_80); rintro e w11 ⟨rfl, hi, hb, hk⟩; refine ⟨_, rfl, ?_⟩; replace BK291 := kB BK291 hk (pkb BK291) NB291_0; replace HK := mk0 (KeepBut.trans z12_4 hk (.inl rfl)); replace HB := mk0 (hb); replace HI0 := mk0 (hi); clear hb hk hi) | ((with_reducible refine gate_callee (f := 94) rfl ?_); refine gl_ (some 14) Try.func94 #[.pointer (some ⟨g, 0, none⟩), .int .i64 2400] rfl q_0 ?_; (with_reducible refine (spec_l01Below.calls g s0_0 t296 t297 2400 t298 t299 t300 w0 _ ?side1 ?side2 A5.out).mono ?_); (case side1 => exact q_153); (case side2 => exact q_80); rintro e w12 ⟨rfl, hi, hb, hk⟩; refine ⟨_, rfl, ?_⟩; replace BK291 := kB BK291 hk (pkb BK291) NB291_0; replace HK := mk0 (KeepBut.trans z12_4 hk (.inl rfl)); replace HB := mk0 (hb); replace HI0 := mk0 (hi); clear hb hk hi) | ((with_reducible refine gate_callee (f := 94) rfl ?_); refine gl_ (some 20) Try.func94 #[.pointer (some ⟨g, 0, none⟩), .int .i64 1500] rfl q_0 ?_; (with_reducible refine (spec_l01Below.calls g s0_0 t299 t300 1500 t301 t302 t303 w0 _ ?side1 ?side2 A6.out).mono ?_); (case side1 => exact q_153); (case side2 => exact q_80); rintro e w13 ⟨rfl, hi, hb, hk⟩; refine ⟨_, rfl, ?_⟩; replace BK291 := kB BK291 hk (pkb BK291) NB291_0; replace HK := mk0 (KeepBut.trans z12_4 hk (.inl rfl)); replace HB := mk0 (hb); replace HI0 := mk0 (hi); clear hb hk hi) | ((with_reducible refine gate_callee (f := 94) rfl ?_); refine gl_ (some 25) Try.func94 #[.pointer (some ⟨g, 0, none⟩), .int .i64 1500] rfl q_0 ?_; (with_reducible refine (spec_l01Below.calls g s0_0 t302 t303 1500 t304 t305 t306 w0 _ ?side1 ?side2 A7.out).mono ?_); (case side1 => exact q_153); (case side2 => exact q_80); rintro e w14 ⟨rfl, hi, hb, hk⟩; refine ⟨_, rfl, ?_⟩; replace BK291 := kB BK291 hk (pkb BK291) NB291_0; replace HK := mk0 (KeepBut.trans z12_4 hk (.inl rfl)); replace HB := mk0 (hb); replace HI0 := mk0 (hi); clear hb hk hi) | ((with_reducible refine gate_callee (f := 148) rfl ?_); refine gl_ (some 28) Try.func148 #[.agg #[.int .i64 t295, .int .i64 t298, .int .i64 (wrap64 ((wrap64 (t295 + 1)) + t301)), .int .i64 (wrap64 ((wrap64 (t298 + 1)) + t304))]] rfl q_0 ?_; (with_reducible refine (spec_RectPath.calls t295 t298 (wrap64 ((wrap64 (t295 + 1)) + t301)) (wrap64 ((wrap64 (t298 + 1)) + t304)) t307 t310 _ A8.out).mono ?_); rintro e w15 ⟨v308, v311, rfl, ho0, ho1, hb⟩; refine ⟨_, rfl, ?_⟩; have HO309 := mk0 (Kd.R_lower ho0 (keep_size (w := w) (g := g) (row := none) z12_4)); have HO312 := mk0 (Kd.R_lower ho1 (keep_size (w := w) (g := g) (row := none) z12_4)); replace BK291 := bB BK291 hb; replace HK := mk0 (KeepBut.trans z12_4 (KeepBut.of_below hb g none) (.inl rfl)); replace HB := bS q_80 hb; replace HI0 := mk0 (IsS152.below q_153 hb); clear hb ho0 ho1; (try clear hk); (try clear hi); obtain ⟨Ao16, co16, eo16⟩ := Kd.R_slice HO309.out; subst eo16; have hnb17 := NB291_0.out; have hnc17 := NB0_291.out; obtain ⟨_, _, _, _⟩ := be_2 BK291.out; obtain ⟨Ao19, co19, eo19⟩ := Kd.R_slice HO312.out; subst eo19))
  refine bodyPost_ret (results_cell_row rfl _ _ gb291 31 #[.slice Ao16 t307.length co16, .slice Ao19 t310.length co19] (0, 0) _ rfl z12_12 Try.underlying31 rfl (by kernel_rfl)) rfl ?_
  exact ⟨_, _, q_71, (by (with_reducible repeat (first | apply Kd.R_alloc | apply Kd.R_drewN | apply Kd.R_drew)); exact Kd.R_mono (R_f2 (Kd.R_types HO309.out BK291.out (by decide)) (fun _ hk => hk.2)) (fun _ hk => trivial)), (by (with_reducible repeat (first | apply Kd.R_alloc | apply Kd.R_drewN | apply Kd.R_drew)); exact Kd.R_mono (R_f2 (Kd.R_types HO312.out BK291.out (by decide)) (fun _ hk => hk.2)) (fun _ hk => trivial)), q_153, q_80, z12_4⟩
 replace c3 := Bool.eq_false_iff.mpr c3; subst c3; rw [if_neg (show ¬ (false = true) by decide)] at H
 have H' := mk0 H
 clear H; go_enter Try.func131, Try.ntmps131
 go_wp2_with (first | ((with_reducible refine gate_dst (N := 2) rfl ?_); refine boxz (cs := #[.slice none 0 0, .slice none 0 0]) (t := 31) rfl ?_; intro gb291 hg w20 hbox hb; replace HB := bS q_86 hb; have BK291 := mk0 (hbox); have GW291 := mk0 ((by rw [hg]; exact (keep_size (w := w) (g := g) (row := none) q_171) : w.heap.size ≤ gb291)); have GE291 := mk0 ((Nat.le_trans HW0.out (by rw [hg]; exact (keep_size (w := w) (g := g) (row := none) q_171) : w.heap.size ≤ gb291) : w0.heap.size ≤ gb291)); replace HK := mk0 (KeepBut.trans q_171 (KeepBut.of_below hb g none) (.inl rfl)); have NB0_291 := mk0 ((by rw [hg]; exact Nat.ne_of_lt (IsS152.lt (show IsS152 w0 _ g s0_0 s0_1 s0_2 from q_159)) : g ≠ gb291)); have NB291_0 := mk0 ((by rw [hg]; exact Nat.ne_of_gt (IsS152.lt (show IsS152 w0 _ g s0_0 s0_1 s0_2 from q_159)) : gb291 ≠ g)); replace HI0 := mk0 (IsS152.below q_159 hb); clear hb hbox hg) | ((with_reducible refine gate_callee (f := 95) rfl ?_); refine gl_ (some 10) Try.func95 #[.pointer (some ⟨g, 0, none⟩), .int .i64 2] rfl q_0 ?_; (with_reducible refine (spec_l01Once.calls g s0_0 s0_1 s0_2 2 false t293 t294 w0 _ ?side1 ?side2 A2.out).mono ?_); (case side1 => exact q_153); (case side2 => exact q_80); rintro e w21 ⟨rfl, hi, hb, hk⟩; refine ⟨_, rfl, ?_⟩; replace BK291 := kB BK291 hk (pkb BK291) NB291_0; replace HK := mk0 (KeepBut.trans z12_4 hk (.inl rfl)); replace HB := mk0 (hb); replace HI0 := mk0 (hi); clear hb hk hi) | ((with_reducible refine gate_dst (N := 5) rfl ?_); refine boxz (cs := #[.slice none 0 0, .slice none 0 0]) (t := 31) rfl ?_; intro gb313 hg w22 hbox hb; replace HB := bS q_80 hb; have BK313 := mk0 (hbox); have GW313 := mk0 ((by rw [hg]; exact (keep_size (w := w) (g := g) (row := none) z12_4) : w.heap.size ≤ gb313)); have GE313 := mk0 ((Nat.le_trans HW0.out (by rw [hg]; exact (keep_size (w := w) (g := g) (row := none) z12_4) : w.heap.size ≤ gb313) : w0.heap.size ≤ gb313)); replace HK := mk0 (KeepBut.trans z12_4 (KeepBut.of_below hb g none) (.inl rfl)); have NB291_313 := mk0 (nb_lt hg (blk_ltB BK291 (pkb BK291))); have NB313_291 := mk0 (nb_gt hg (blk_ltB BK291 (pkb BK291))); replace BK291 := bB BK291 hb; have NB0_313 := mk0 ((by rw [hg]; exact Nat.ne_of_lt (IsS152.lt (show IsS152 w0 _ g s0_0 t293 t294 from q_153)) : g ≠ gb313)); have NB313_0 := mk0 ((by rw [hg]; exact Nat.ne_of_gt (IsS152.lt (show IsS152 w0 _ g s0_0 t293 t294 from q_153)) : gb313 ≠ g)); replace HI0 := mk0 (IsS152.below q_153 hb); clear hb hbox hg; have hnb23 := NB313_291.out; have hnc23 := NB291_313.out; have hnb24 := NB313_0.out; have hnc24 := NB0_313.out; obtain ⟨_, _, _, _⟩ := be_2 BK313.out))
 go_loopg [6] k (fun kq v6 w' => ∃ (x6_1 : Int) (x1001_1 : Int) (x1002_1 : Int) (x314000_1 : List Int) (x314001_1 : List (S52)) (u314000 : Value) (u314001 : Value), v6 = .int .i64 x6_1 ∧ Aside0 (spec_l06Path.l0 kq x6_1 s0_0 x1001_1 x1002_1 x314000_1 x314001_1 = some (r1, r2, r3, r4)) ∧ Aside0 (kq ≤ k) ∧ Aside0 (Kd.R (Kd.int .i64) 3 w' w.heap.size (fun _ => True) u314000 x314000_1) ∧ Aside0 (Kd.R k52 52 w' w.heap.size (fun _ => True) u314001 x314001_1) ∧ Aside0 (w'.heap[gb291]? = some (.cells #[(.slice none 0 0), (.slice none 0 0)] 31 (0, 0))) ∧ Aside0 (w'.heap[gb313]? = some (.cells #[u314000, u314001] 31 (0, 0))) ∧ Aside0 (IsS152 w0 w' g s0_0 x1001_1 x1002_1) ∧ Aside0 (KeepBut w w' g none) ∧ Aside0 (Below w0.heap.size w0 w'))
 case atStart => exact ⟨(0), (t293), (t294), (([] : List Int)), (([] : List (S52))), (.slice none 0 0), (.slice none 0 0), rs0, H', ⟨Nat.le_refl _⟩, ⟨q_70⟩, ⟨q_70⟩, ⟨(by (with_reducible repeat (first | refine blk_drewN ?_ _ | refine blk_drew ?_ | refine blk_alloc ?_ _ | refine blk_far ?_ NB291_313.out _)); exact BK291.out)⟩, ⟨(by (with_reducible repeat (first | refine blk_drewN ?_ _ | refine blk_drew ?_ | refine blk_alloc ?_ _)); refine blk_put (cs := #[.slice none 0 0, .slice none 0 0]) ?_ 1 _ rfl; (with_reducible repeat (first | refine blk_drewN ?_ _ | refine blk_drew ?_ | refine blk_alloc ?_ _)); refine blk_put (cs := #[.slice none 0 0, .slice none 0 0]) ?_ 0 _ rfl; (with_reducible repeat (first | refine blk_drewN ?_ _ | refine blk_drew ?_ | refine blk_alloc ?_ _)); exact BK313.out)⟩, ⟨q_152⟩, ⟨z12_1⟩, ⟨q_79⟩⟩
 case round =>
  clear H'
  try clear c3
  obtain ⟨x6_1, x1001_1, x1002_1, x314000_1, x314001_1, u314000, u314001, rfl, HA, HK1, HO_314000, HO_314001, BK291, BK313, HI0, HK, HB⟩ := hrel
  cases gk with
  | zero => exact absurd HA.out (by simp [spec_l06Path.l0])
  | succ k1 =>
   have H := HA.out; clear HA; simp only [spec_l06Path.l0] at H
   obtain ⟨⟨t314, t315, t316⟩, A26, H⟩ := bnd H
   try dsimp only at H
   by_cases c27 : x6_1 < (wrap64 (1 + t314))
   rotate_left
   ·rw [if_neg c27] at H; have c27b0 := decide_eq_false c27; clear c27; simp only [Option.some.injEq, Prod.mk.injEq] at H; obtain ⟨rfl, rfl, rfl, rfl⟩ := H
    go_wp2_with (first | ((with_reducible refine gate_callee (f := 94) rfl ?_); refine gl_ (some 32) Try.func94 #[.pointer (some ⟨g, 0, none⟩), .int .i64 6] rfl q_0 ?_; (with_reducible refine (spec_l01Below.calls g s0_0 x1001_1 x1002_1 6 t314 t315 t316 w0 _ ?side1 ?side2 A26.out).mono ?_); (case side1 => exact q_152); (case side2 => exact q_79); rintro e w77 ⟨rfl, hi, hb, hk⟩; refine ⟨_, rfl, ?_⟩; replace HO_314000 := mk0 (Kd.R_mono (Kd.R_keep (IsS152.apart (show IsS152 w0 _ g s0_0 x1001_1 x1002_1 from q_152) (pkR HO_314000) (by decide)) hk (fun _ h => h.2)) (fun _ h => h.1)); replace HO_314001 := mk0 (Kd.R_mono (Kd.R_keep (IsS152.apart (show IsS152 w0 _ g s0_0 x1001_1 x1002_1 from q_152) (pkR HO_314001) (by decide)) hk (fun _ h => h.2)) (fun _ h => h.1)); replace BK291 := kB BK291 hk (pkb BK291) NB291_0; replace BK313 := kB BK313 hk (pkb BK313) NB313_0; replace HK := mk0 (KeepBut.trans z12_1 hk (.inl rfl)); replace HB := mk0 (hb); replace HI0 := mk0 (hi); clear hb hk hi; have hnb78 := NB313_291.out; have hnc78 := NB291_313.out; have hnb79 := NB313_0.out; have hnc79 := NB0_313.out; obtain ⟨_, _, _, _⟩ := be_2 BK313.out; obtain ⟨Ao81, co81, eo81⟩ := Kd.R_slice HO_314000.out; subst eo81; have hnb82 := NB291_0.out; have hnc82 := NB0_291.out; obtain ⟨_, _, _, _⟩ := be_2 BK291.out; obtain ⟨Ao84, co84, eo84⟩ := Kd.R_slice HO_314001.out; subst eo84))
    refine bodyPost_ret (results_cell_row rfl _ _ gb291 31 #[.slice Ao81 x314000_1.length co81, .slice Ao84 x314001_1.length co84] (0, 0) _ rfl z12_12 Try.underlying31 rfl (by kernel_rfl)) rfl ?_
    exact ⟨_, _, q_71, (by (with_reducible repeat (first | apply Kd.R_alloc | apply Kd.R_drewN | apply Kd.R_drew)); exact Kd.R_mono (R_f2 (Kd.R_types HO_314000.out BK291.out (by decide)) (fun _ hk => hk.2)) (fun _ hk => trivial)), (by (with_reducible repeat (first | apply Kd.R_alloc | apply Kd.R_drewN | apply Kd.R_drew)); exact Kd.R_mono (R_f2 (Kd.R_types HO_314001.out BK291.out (by decide)) (fun _ hk => hk.2)) (fun _ hk => trivial)), q_152, q_79, z12_1⟩
   rw [if_pos c27] at H; have c27b0 := decide_eq_true c27; clear c27
   obtain ⟨y317, hy_⟩ : ∃ y_ : List Int, y_ = (([2, 2, 2, 3, 4, 5, 1] : List Int)) := ⟨_, rfl⟩
   replace H : ((spec_l01PickInt.f s0_0 t315 t316 y317).bind fun bt320 => (if x6_1 = 0 then (spec_l06Path.j1 k1 x6_1 bt320.1 true s0_0 bt320.2.1 bt320.2.2 x314000_1 x314001_1) else (if 0 ≤ (wrap64 (x6_1 - 1)) then (if (wrap64 (x6_1 - 1)) < (x314000_1.length : Int) then (spec_l06Path.j1 k1 x6_1 bt320.1 ((rd x314000_1 (wrap64 (x6_1 - 1))) == 5) s0_0 bt320.2.1 bt320.2.2 x314000_1 x314001_1) else (none)) else (none)))) = some (r1, r2, r3, r4) := q_69
   have Ny317 := mk0 hy_; clear hy_
   obtain ⟨⟨t320, t321, t322⟩, A28, H⟩ := bnd H
   try dsimp only at H
   have HC29 := mk0 H; clear H
   go_upto_region 10 with (first | ((with_reducible refine gate_callee (f := 94) rfl ?_); refine gl_ (some 32) Try.func94 #[.pointer (some ⟨g, 0, none⟩), .int .i64 6] rfl q_0 ?_; (with_reducible refine (spec_l01Below.calls g s0_0 x1001_1 x1002_1 6 t314 t315 t316 w0 _ ?side1 ?side2 A26.out).mono ?_); (case side1 => exact q_152); (case side2 => exact q_79); rintro e w30 ⟨rfl, hi, hb, hk⟩; refine ⟨_, rfl, ?_⟩; replace HO_314000 := mk0 (Kd.R_mono (Kd.R_keep (IsS152.apart (show IsS152 w0 _ g s0_0 x1001_1 x1002_1 from q_152) (pkR HO_314000) (by decide)) hk (fun _ h => h.2)) (fun _ h => h.1)); replace HO_314001 := mk0 (Kd.R_mono (Kd.R_keep (IsS152.apart (show IsS152 w0 _ g s0_0 x1001_1 x1002_1 from q_152) (pkR HO_314001) (by decide)) hk (fun _ h => h.2)) (fun _ h => h.1)); replace BK291 := kB BK291 hk (pkb BK291) NB291_0; replace BK313 := kB BK313 hk (pkb BK313) NB313_0; replace HK := mk0 (KeepBut.trans z12_1 hk (.inl rfl)); replace HB := mk0 (hb); replace HI0 := mk0 (hi); clear hb hk hi) | ((with_reducible refine gate_dst (N := 38) rfl ?_); refine Kd.R_lit (Kd.int .i64) _ 3 ?hg (N := 38) ?hd (xs := ([2, 2, 2, 3, 4, 5, 1] : List Int)) (inner := [.int .i64 2, .int .i64 2, .int .i64 2, .int .i64 3, .int .i64 4, .int .i64 5, .int .i64 1]) (ok := fun _ => True) (okp := fun _ => True) ?hr ?hp (fun _ hk => hk) trivial (Below.refl _ _) (Nat.le_refl _) (by simp) ?_; (case hd => rfl); (case hg => rfl); (case hr => first | (go_simp; done) | (go_simp; rfl)); (case hp => exact (Reps.one (show Kd.M (Kd.int .i64) _ _ _ 2 [.int .i64 2] from rfl) (Reps.one (show Kd.M (Kd.int .i64) _ _ _ 2 [.int .i64 2] from rfl) (Reps.one (show Kd.M (Kd.int .i64) _ _ _ 2 [.int .i64 2] from rfl) (Reps.one (show Kd.M (Kd.int .i64) _ _ _ 3 [.int .i64 3] from rfl) (Reps.one (show Kd.M (Kd.int .i64) _ _ _ 4 [.int .i64 4] from rfl) (Reps.one (show Kd.M (Kd.int .i64) _ _ _ 5 [.int .i64 5] from rfl) (Reps.one (show Kd.M (Kd.int .i64) _ _ _ 1 [.int .i64 1] from rfl) (Reps.none _ _))))))))); intro v318 w31 ho32 hb hg_ hnew_; clear hg_ hnew_; (first | rw [← Ny317.out] at ho32 | (simp only [Int.reduceToNat] at ho32; rw [← Ny317.out] at ho32)); replace HO_314001 := bR HO_314001 hb; have HO319 := mk0 (Kd.R_lower (Kd.R_new' ho32 (Kd.R_lt (pkR HO_314000))) (keep_size (w := w) (g := g) (row := none) z12_1)); replace HO_314000 := mk0 (Kd.R_elder' (pkR HO_314000) (Kd.R_base ho32) hb); replace BK291 := bB BK291 hb; replace BK313 := bB BK313 hb; replace HK := mk0 (KeepBut.trans z12_1 (KeepBut.of_below hb g none) (.inl rfl)); replace HB := bS q_79 hb; replace HI0 := mk0 (IsS152.below q_152 hb); clear hb ho32; obtain ⟨Ao33, co33, eo33⟩ := Kd.R_slice HO319.out; subst eo33) | ((with_reducible refine gate_callee (f := 113) rfl ?_); refine gl_ (some 39) Try.func113 #[.pointer (some ⟨g, 0, none⟩), .slice Ao33 y317.length co33] rfl q_0 ?_; (with_reducible refine (spec_l01PickInt.calls g s0_0 t315 t316 _ _ y317 t320 t321 t322 w0 _ ?side1 ?side2 ?side3 ?side4 ?side5 A28.out).mono ?_); (case side1 => exact q_152); (case side2 => exact q_79); (case side3 => repeat (first | exact (Kd.R_reads' HO319.out).2.2 | (with_reducible refine Kd.C_alloc ?_ _) | (with_reducible refine Kd.C_drewN ?_ _) | (with_reducible refine Kd.C_drew ?_))); (case side4 => exact (Kd.R_reads' HO319.out).2.1); (case side5 => exact far_slice (IsS152.own_ne HI0.out HO319.out (by decide))); rintro e w34 ⟨rfl, hi, hb, hk⟩; refine ⟨_, rfl, ?_⟩; replace HO_314000 := mk0 (Kd.R_mono (Kd.R_keep (IsS152.apart (show IsS152 w0 _ g s0_0 t315 t316 from q_152) (pkR HO_314000) (by decide)) hk (fun _ h => h.2)) (fun _ h => h.1)); replace HO_314001 := mk0 (Kd.R_mono (Kd.R_keep (IsS152.apart (show IsS152 w0 _ g s0_0 t315 t316 from q_152) (pkR HO_314001) (by decide)) hk (fun _ h => h.2)) (fun _ h => h.1)); replace BK291 := kB BK291 hk (pkb BK291) NB291_0; replace BK313 := kB BK313 hk (pkb BK313) NB313_0; replace HO319 := mk0 (Kd.R_mono (Kd.R_keep (IsS152.apart (show IsS152 w0 _ g s0_0 t315 t316 from q_152) (pkR HO319) (by decide)) hk (fun _ h => h.2)) (fun _ h => h.1)); replace HK := mk0 (KeepBut.trans z12_1 hk (.inl rfl)); replace HB := mk0 (hb); replace HI0 := mk0 (hi); clear hb hk hi))
   (try simp only [Act.put, List.setIfInBounds_toArray, List.set_cons_zero, List.set_cons_succ])
   go_cut [50] (fun v50 wc => ∃ (kq : Nat) (x50_28 : Bool), v50 = .bool x50_28 ∧ Aside0 (spec_l06Path.j1 kq x6_1 t320 x50_28 s0_0 t321 t322 x314000_1 x314001_1 = some (r1, r2, r3, r4)) ∧ Aside0 (kq ≤ k1) ∧ Aside0 (Kd.R (Kd.int .i64) 3 wc w.heap.size (fun _ => True) u314000 x314000_1) ∧ Aside0 (Kd.R k52 52 wc w.heap.size (fun _ => True) u314001 x314001_1) ∧ Aside0 (wc.heap[gb291]? = some (.cells #[(.slice none 0 0), (.slice none 0 0)] 31 (0, 0))) ∧ Aside0 (wc.heap[gb313]? = some (.cells #[u314000, u314001] 31 (0, 0))) ∧ Aside0 (IsS152 w0 wc g s0_0 t321 t322) ∧ Aside0 (KeepBut w wc g none) ∧ Aside0 (Below w0.heap.size w0 wc))
   case first =>
    have H := HC29.out; clear HC29
    by_cases c35 : x6_1 = 0
    ·rw [if_pos c35] at H
     have c35b0 : (x6_1 == 0) = true := beq_iff_eq.mpr c35
     have c35b1 : (x6_1 != 0) = false := bne_eq_false_iff_eq.mpr c35
     clear c35
     (first | rw [c35b0] | (simp only [i64_w, i32_w]; rw [c35b0]) | skip)
     have H' := mk0 H
     clear H
     go_wp2
     go_meet
     case rel => exact ⟨_, (true), rs0, H', ⟨(by have := HK1.out; first | omega | exact Nat.le_refl _)⟩, ⟨z12_20⟩, ⟨pkR HO_314001⟩, ⟨pkb BK291⟩, ⟨pkb BK313⟩, ⟨q_152⟩, ⟨z12_1⟩, ⟨q_79⟩⟩
    rw [if_neg c35] at H
    have c35b0 : (x6_1 == 0) = false := beq_eq_false_iff_ne.mpr c35
    have c35b1 : (x6_1 != 0) = true := bne_iff_ne.mpr c35
    (first | rw [c35b0] | (simp only [i64_w, i32_w]; rw [c35b0]) | skip)
    obtain ⟨ji36, hji36⟩ : ∃ j_ : Int, (wrap64 (x6_1 - 1)) = j_ := ⟨_, rfl⟩
    replace H : (if 0 ≤ (ji36) then (if (ji36) < (x314000_1.length : Int) then (spec_l06Path.j1 k1 x6_1 t320 ((rd x314000_1 (ji36)) == 5) s0_0 t321 t322 x314000_1 x314001_1) else (none)) else (none)) = some (r1, r2, r3, r4) := by first | (rw [hji36] at H; exact H) | (simp only [hji36] at H ⊢; exact H)
    have hji36w : (IntKind.i64.wrap (x6_1 - 1)) = ji36 := (i64_w _).trans hji36
    by_cases c37 : 0 ≤ (ji36)
    rotate_left
    ·rw [if_neg c37] at H
     exact absurd H (by simp)
    rw [if_pos c37] at H; have c37b0 := decide_eq_true c37; clear c37
    by_cases c38 : (ji36) < (x314000_1.length : Int)
    rotate_left
    ·rw [if_neg c38] at H
     exact absurd H (by simp)
    rw [if_pos c38] at H; have c38b0 := decide_eq_true c38; clear c38
    have H' := mk0 H
    clear H; have hnb39 := NB313_291.out; have hnc39 := NB291_313.out; have hnb40 := NB313_0.out; have hnc40 := NB0_313.out; obtain ⟨_, _, _, _⟩ := be_2 BK313.out; obtain ⟨Ao42, co42, eo42⟩ := Kd.R_slice HO_314000.out; subst eo42
    have p323 : 0 ≤ ((ji36) : Int) := of_decide_eq_true (by first | (with_reducible assumption) | assumption)
    have q323 : (ji36) < (x314000_1.length : Int) := of_decide_eq_true (by first | (with_reducible assumption) | assumption)
    obtain ⟨ad323, e323, hx323_0⟩ := Kd.at_int (Kd.R_reads' HO_314000.out).2.2 (ji36) p323 q323
    cases e323
    replace p323 := eq_true p323; replace q323 := eq_true q323
    go_wp2
    go_meet
    case rel => exact ⟨_, (((rd x314000_1 (ji36)) == 5)), (by first | rfl | (simp; done) | (simp only [← hji36] <;> (first | rfl | simp)) | (simp [*]; done)), H', ⟨(by have := HK1.out; first | omega | exact Nat.le_refl _)⟩, ⟨z12_20⟩, ⟨pkR HO_314001⟩, ⟨pkb BK291⟩, ⟨pkb BK313⟩, ⟨q_152⟩, ⟨z12_1⟩, ⟨q_79⟩⟩
   case rest =>
    clear HC29; try clear c1
    (try clear c27b0); obtain ⟨kq, x50_28, rfl, HA, HJ28, HO_314000, HO_314001, BK291, BK313, HI0, HK, HB⟩ := hcut
    cases kq with
    | zero => exact absurd HA.out (by simp [spec_l06Path.j1])
    | succ kj28 =>
     have H := HA.out; clear HA; simp only [spec_l06Path.j1] at H; have HC43 := mk0 H; clear H
     go_upto_if 50 with (fail)
     go_cut [7] (fun v7 wc => ∃ (kq : Nat) (x7_42 : Int), v7 = .int .i64 x7_42 ∧ Aside0 (spec_l06Path.j2 kq x6_1 x7_42 s0_0 t321 t322 x314000_1 x314001_1 = some (r1, r2, r3, r4)) ∧ Aside0 (kq ≤ kj28) ∧ Aside0 (Kd.R (Kd.int .i64) 3 wc w.heap.size (fun _ => True) u314000 x314000_1) ∧ Aside0 (Kd.R k52 52 wc w.heap.size (fun _ => True) u314001 x314001_1) ∧ Aside0 (wc.heap[gb291]? = some (.cells #[(.slice none 0 0), (.slice none 0 0)] 31 (0, 0))) ∧ Aside0 (wc.heap[gb313]? = some (.cells #[u314000, u314001] 31 (0, 0))) ∧ Aside0 (IsS152 w0 wc g s0_0 t321 t322) ∧ Aside0 (KeepBut w wc g none) ∧ Aside0 (Below w0.heap.size w0 wc))
     case first =>
      have H := HC43.out; clear HC43
      by_cases c44 : x50_28 = true
      ·subst c44; rw [if_pos rfl] at H
       have H' := mk0 H
       clear H
       go_wp2
       go_meet
       case rel => exact ⟨_, (1), rs0, H', ⟨(by have := HK1.out; have := HJ28.out; first | omega | exact Nat.le_refl _)⟩, ⟨pkR HO_314000⟩, ⟨pkR HO_314001⟩, ⟨pkb BK291⟩, ⟨pkb BK313⟩, ⟨q_152⟩, ⟨z12_1⟩, ⟨q_79⟩⟩
      replace c44 := Bool.eq_false_iff.mpr c44; subst c44; rw [if_neg (show ¬ (false = true) by decide)] at H
      have H' := mk0 H
      clear H
      go_wp2
      go_meet
      case rel => exact ⟨_, (t320), rs0, H', ⟨(by have := HK1.out; have := HJ28.out; first | omega | exact Nat.le_refl _)⟩, ⟨pkR HO_314000⟩, ⟨pkR HO_314001⟩, ⟨pkb BK291⟩, ⟨pkb BK313⟩, ⟨q_152⟩, ⟨z12_1⟩, ⟨q_79⟩⟩
     case rest =>
      clear HC43; try clear c1
      obtain ⟨kq, x7_42, rfl, HA, HJ42, HO_314000, HO_314001, BK291, BK313, HI0, HK, HB⟩ := hcut
      cases kq with
      | zero => exact absurd HA.out (by simp [spec_l06Path.j2])
      | succ kj42 =>
       have H := HA.out; clear HA; simp only [spec_l06Path.j2] at H; obtain ⟨t324, A45, H⟩ := bnd H
       try dsimp only at H
       by_cases c46 : (wrap64 ((x314001_1.length : Int) + t324)) > 24
       ·rw [if_pos c46] at H; have c46b0 := decide_eq_true c46; clear c46; simp only [Option.some.injEq, Prod.mk.injEq] at H; obtain ⟨rfl, rfl, rfl, rfl⟩ := H
        try go_wp2
        replace HO_314000 := mk0 (Kd.R_drew HO_314000.out); replace HO_314001 := mk0 (Kd.R_drew HO_314001.out); replace BK291 := mk0 (blk_drew BK291.out); replace BK313 := mk0 (blk_drew BK313.out); replace HI0 := mk0 (IsS152.drew HI0.out); replace HK := mk0 (keep_drew HK.out); replace HB := mk0 (below_drew1 HB.out); obtain ⟨Ao48, co48, eo48⟩ := Kd.R_slice HO_314001.out
        (first | subst eo48 | (injection eo48 with f1_ f2_ f3_; have f4_ := f1_.symm; have f5_ := f3_.symm; clear f1_ f2_ f3_; subst f4_; subst f5_))
        refine start_ (n := 7) (S := fun w' => w'.cell? ⟨gb313, 0, none⟩ = some (u314000) ∧ w'.cell? ⟨gb313, 1, none⟩ = some (.slice Ao48 x314001_1.length co48)) (ds := []) #[false, false, false, false, false, false, false] (by kernel_rfl) rfl rfl ⟨(blk_cell BK313.out 0).trans rfl, (blk_cell BK313.out 1).trans rfl⟩ (fun hHeld => ?_)
        generalize wc.drew = w47 at HO_314000 HO_314001 BK291 BK313 HI0 HK HB hHeld ⊢
        refine pure_ (i := 0) (N := some 51) (v := ?_) (a' := ?_) (bA 7 1) rfl rfl (by kernel_rfl) (fun _ _ _ h => h) (Or.inl ⟨by rfl, ?_⟩) ?_ ?_; rotate_left
        ·intro w'
         go_simp; with_reducible rfl
        rotate_left
        ·exact x12_put
        refine pure_ (i := 3) (N := some 54) (v := ?_) (a' := ?_) (bA 7 9) rfl rfl (by kernel_rfl) (fun _ _ _ h => h) (Or.inl ⟨by rfl, ?_⟩) ?_ ?_; rotate_left
        ·intro w'
         go_simp; with_reducible rfl
        rotate_left
        ·exact x12_put
        refine take_ (i := 1) (N := some 52) (v := ?_) (a' := ?_) (bA 7 11) rfl rfl (by kernel_rfl) (fun _ _ _ h => h) (Or.inl ⟨by rfl, ?_⟩) hHeld ?_ ?_
        rotate_left
        ·rintro w' ⟨s0, s1⟩
         go_simp; with_reducible rfl
        rotate_left
        ·exact x12_put
        refine pure_ (i := 2) (N := some 53) (v := ?_) (a' := ?_) (bA 7 15) rfl rfl (by kernel_rfl) (fun _ _ _ h => h) (Or.inl ⟨by rfl, ?_⟩) ?_ ?_; rotate_left
        ·intro w'
         go_simp; with_reducible rfl
        rotate_left
        ·exact x12_put
        refine one_ (i := 4) (N := some 55) (bA 7 31) rfl rfl (by kernel_rfl) (by decide) (fun K hK => ?_)
        refine goes_ Try.func55 (by kernel_rfl) rfl #[.int .i64 x7_42] (by rfl) rfl rfl q_0 ?_
        with_reducible refine (spec_NeedOf.calls x7_42 t324 _ A45.out).mono ?_
        rintro e w49 ⟨rfl, hb⟩
        refine ⟨_, rfl, ?_⟩
        replace HO_314000 := bR HO_314000 hb; replace HO_314001 := bR HO_314001 hb; replace BK291 := bB BK291 hb; replace BK313 := bB BK313 hb; replace HK := mk0 (KeepBut.trans z12_1 (KeepBut.of_below hb g none) (.inl rfl)); replace HB := bS q_79 hb; replace HI0 := mk0 (IsS152.below q_152 hb); (try clear hb); (try clear hb2); (try clear hk); (try clear hi); refine hK.out _ _ ⟨(blk_cell BK313.out 0).trans rfl, (blk_cell BK313.out 1).trans rfl⟩ (fun hHeld => ?_); clear hK K
        refine norm_ (a' := ?_) ?_ ?_
        rotate_left
        ·show Act.put _ (some 55) _ = _
         simp only [Act.put, List.setIfInBounds_toArray, List.set_cons_zero, List.set_cons_succ, i64_w, i32_w]
         rfl
        refine pure_ (i := 5) (N := some 56) (v := ?_) (a' := ?_) (bA 7 63) rfl rfl (by kernel_rfl) (fun _ _ _ h => h) (Or.inl ⟨by rfl, ?_⟩) ?_ ?_; rotate_left
        ·intro w'
         go_simp; with_reducible rfl
        rotate_left
        ·exact x12_put
        refine pure_ (i := 6) (N := some 57) (v := ?_) (a' := ?_) (bA 7 127) rfl rfl (by kernel_rfl) (fun _ _ _ h => h) (Or.inl ⟨by rfl, ?_⟩) ?_ ?_; rotate_left
        ·intro w'
         go_simp; with_reducible rfl
        rotate_left
        ·exact x12_put
        refine done_ (by kernel_rfl) ?_
        have hnb50 := NB313_291.out; have hnc50 := NB291_313.out; have hnb51 := NB313_0.out; have hnc51 := NB0_313.out; obtain ⟨_, _, _, _⟩ := be_2 BK313.out; obtain ⟨Ao53, co53, eo53⟩ := Kd.R_slice HO_314000.out; subst eo53; have hnb54 := NB291_0.out; have hnc54 := NB0_291.out; obtain ⟨_, _, _, _⟩ := be_2 BK291.out
        try go_wp2
        refine bodyPost_ret (results_cell_row rfl _ _ gb291 31 #[.slice Ao53 x314000_1.length co53, .slice Ao48 x314001_1.length co48] (0, 0) _ rfl z12_12 Try.underlying31 rfl (by kernel_rfl)) rfl ?_
        exact ⟨_, _, q_71, (by (with_reducible repeat (first | apply Kd.R_alloc | apply Kd.R_drewN | apply Kd.R_drew)); exact Kd.R_mono (R_f2 (Kd.R_types HO_314000.out BK291.out (by decide)) (fun _ hk => hk.2)) (fun _ hk => trivial)), (by (with_reducible repeat (first | apply Kd.R_alloc | apply Kd.R_drewN | apply Kd.R_drew)); exact Kd.R_mono (R_f2 (Kd.R_types HO_314001.out BK291.out (by decide)) (fun _ hk => hk.2)) (fun _ hk => trivial)), q_152, q_79, z12_1⟩
       rw [if_neg c46] at H; have c46b0 := decide_eq_false c46; clear c46
       by_cases c56 : x314000_1.length < 17592186044416
       rotate_left
       ·rw [if_neg c56] at H
        exact absurd H (by simp)
       rw [if_pos c56] at H; have LMc56 := mk0 c56; clear c56
       obtain ⟨y325, hy_⟩ : ∃ y_ : List Int, y_ = (x314000_1 ++ [x7_42]) := ⟨_, rfl⟩
       replace H : (spec_l06Path.l1 kj42 x6_1 x7_42 0 s0_0 t321 t322 y325 x314001_1) = some (r1, r2, r3, r4) := q_69
       have Ny325 := mk0 hy_; clear hy_
       have H' := mk0 H
       clear H
       try go_wp2
       replace HO_314000 := mk0 (Kd.R_drew HO_314000.out); replace HO_314001 := mk0 (Kd.R_drew HO_314001.out); replace BK291 := mk0 (blk_drew BK291.out); replace BK313 := mk0 (blk_drew BK313.out); replace HI0 := mk0 (IsS152.drew HI0.out); replace HK := mk0 (keep_drew HK.out); replace HB := mk0 (below_drew1 HB.out); obtain ⟨Ao58, co58, eo58⟩ := Kd.R_slice HO_314001.out
       (first | subst eo58 | (injection eo58 with f1_ f2_ f3_; have f4_ := f1_.symm; have f5_ := f3_.symm; clear f1_ f2_ f3_; subst f4_; subst f5_))
       refine start_ (n := 7) (S := fun w' => w'.cell? ⟨gb313, 0, none⟩ = some (u314000) ∧ w'.cell? ⟨gb313, 1, none⟩ = some (.slice Ao58 x314001_1.length co58)) (ds := []) #[false, false, false, false, false, false, false] (by kernel_rfl) rfl rfl ⟨(blk_cell BK313.out 0).trans rfl, (blk_cell BK313.out 1).trans rfl⟩ (fun hHeld => ?_)
       generalize wc.drew = w57 at HO_314000 HO_314001 BK291 BK313 HI0 HK HB hHeld ⊢
       refine pure_ (i := 0) (N := some 51) (v := ?_) (a' := ?_) (bA 7 1) rfl rfl (by kernel_rfl) (fun _ _ _ h => h) (Or.inl ⟨by rfl, ?_⟩) ?_ ?_; rotate_left
       ·intro w'
        go_simp; with_reducible rfl
       rotate_left
       ·exact x12_put
       refine pure_ (i := 3) (N := some 54) (v := ?_) (a' := ?_) (bA 7 9) rfl rfl (by kernel_rfl) (fun _ _ _ h => h) (Or.inl ⟨by rfl, ?_⟩) ?_ ?_; rotate_left
       ·intro w'
        go_simp; with_reducible rfl
       rotate_left
       ·exact x12_put
       refine take_ (i := 1) (N := some 52) (v := ?_) (a' := ?_) (bA 7 11) rfl rfl (by kernel_rfl) (fun _ _ _ h => h) (Or.inl ⟨by rfl, ?_⟩) hHeld ?_ ?_
       rotate_left
       ·rintro w' ⟨s0, s1⟩
        go_simp; with_reducible rfl
       rotate_left
       ·exact x12_put
       refine pure_ (i := 2) (N := some 53) (v := ?_) (a' := ?_) (bA 7 15) rfl rfl (by kernel_rfl) (fun _ _ _ h => h) (Or.inl ⟨by rfl, ?_⟩) ?_ ?_; rotate_left
       ·intro w'
        go_simp; with_reducible rfl
       rotate_left
       ·exact x12_put
       refine one_ (i := 4) (N := some 55) (bA 7 31) rfl rfl (by kernel_rfl) (by decide) (fun K hK => ?_)
       refine goes_ Try.func55 (by kernel_rfl) rfl #[.int .i64 x7_42] (by rfl) rfl rfl q_0 ?_
       with_reducible refine (spec_NeedOf.calls x7_42 t324 _ A45.out).mono ?_
       rintro e w59 ⟨rfl, hb⟩
       refine ⟨_, rfl, ?_⟩
       replace HO_314000 := bR HO_314000 hb; replace HO_314001 := bR HO_314001 hb; replace BK291 := bB BK291 hb; replace BK313 := bB BK313 hb; replace HK := mk0 (KeepBut.trans z12_1 (KeepBut.of_below hb g none) (.inl rfl)); replace HB := bS q_79 hb; replace HI0 := mk0 (IsS152.below q_152 hb); (try clear hb); (try clear hb2); (try clear hk); (try clear hi); refine hK.out _ _ ⟨(blk_cell BK313.out 0).trans rfl, (blk_cell BK313.out 1).trans rfl⟩ (fun hHeld => ?_); clear hK K
       refine norm_ (a' := ?_) ?_ ?_
       rotate_left
       ·show Act.put _ (some 55) _ = _
        simp only [Act.put, List.setIfInBounds_toArray, List.set_cons_zero, List.set_cons_succ, i64_w, i32_w]
        rfl
       refine pure_ (i := 5) (N := some 56) (v := ?_) (a' := ?_) (bA 7 63) rfl rfl (by kernel_rfl) (fun _ _ _ h => h) (Or.inl ⟨by rfl, ?_⟩) ?_ ?_; rotate_left
       ·intro w'
        go_simp; with_reducible rfl
       rotate_left
       ·exact x12_put
       refine pure_ (i := 6) (N := some 57) (v := ?_) (a' := ?_) (bA 7 127) rfl rfl (by kernel_rfl) (fun _ _ _ h => h) (Or.inl ⟨by rfl, ?_⟩) ?_ ?_; rotate_left
       ·intro w'
        go_simp; with_reducible rfl
       rotate_left
       ·exact x12_put
       refine done_ (by kernel_rfl) ?_
       have hnb60 := NB313_291.out; have hnc60 := NB291_313.out; have hnb61 := NB313_0.out; have hnc61 := NB0_313.out; obtain ⟨_, _, _, _⟩ := be_2 BK313.out
       try go_wp2_with (first | ((with_reducible refine gate_builtin (b := .append) (xs := #[.tmp 60, .tmp 62]) rfl ?_); at_builtin; refine Kd.R_append (Kd.int .i64) w.heap.size rfl (.tmp 60) (.tmp 62) 22 3 (.int .i64 0) 8 rfl Try.underlying22 info3 rfl (by decide) (by omega) u314000 x314000_1 x7_42 [.int .i64 x7_42] (fun _ => True) (fun _ => False) rfl rfl ?aP (fun _ hk => hk.elim) ?aF ?aO (Below.refl _ _) ?aS ?aL ?_; (case aP => exact rfl); (case aF => exact (fun _ _ => trivial)); (case aO => exact (pkR HO_314000)); (case aS => exact (keep_size (w := w) (g := g) (row := none) z12_1)); (case aL => have := LMc56.out; omega); intro v326 w63 ho hb hg hat; rw [← Ny325.out] at ho; replace HO_314001 := mk0 (Kd.R_over' (pkR HO_314001) (Kd.R_typed (pkR HO_314000)) (by decide) hg); replace BK291 := mk0 (blk_grown (g := gb291) (o := .cells #[.slice none 0 0, .slice none 0 0] 31 (0, 0)) (pkb BK291) hg (Kd.R_ne HO_314000.out BK291.out (by decide))); replace BK313 := mk0 (blk_grown (g := gb313) (o := .cells #[u314000, .slice Ao58 x314001_1.length co58] 31 (0, 0)) (pkb BK313) hg (Kd.R_ne HO_314000.out BK313.out (by decide))); replace HB := mk0 (below_weaken q_79 HL.out hb); replace HI0 := mk0 (IsS152.grown q_152 hg (IsS152.own_ne HI0.out HO_314000.out (by decide))); replace HK := mk0 (KeepBut.trans z12_1 (KeepBut.of_grown hg g) (Kd.R_base2 HO_314000.out)); have HO327 := mk0 (ho); clear HO_314000 ho hb hg hat; obtain ⟨Ao64, co64, eo64⟩ := Kd.R_slice HO327.out; subst eo64; obtain ⟨_, _, _, _⟩ := be_2 BK313.out))
       go_loopg [8] kj42 (fun kq v8 w' => ∃ (x8_4 : Int) (x1001_4 : Int) (x1002_4 : Int) (x314001_4 : List (S52)) (u314001 : Value), v8 = .int .i64 x8_4 ∧ Aside0 (spec_l06Path.l1 kq x6_1 x7_42 x8_4 s0_0 x1001_4 x1002_4 y325 x314001_4 = some (r1, r2, r3, r4)) ∧ Aside0 (kq ≤ kj42) ∧ Aside0 (Kd.R (Kd.int .i64) 3 w' w.heap.size (fun _ => True) (.slice Ao64 y325.length co64) y325) ∧ Aside0 (Kd.R k52 52 w' w.heap.size (fun _ => True) u314001 x314001_4) ∧ Aside0 (w'.heap[gb291]? = some (.cells #[(.slice none 0 0), (.slice none 0 0)] 31 (0, 0))) ∧ Aside0 (w'.heap[gb313]? = some (.cells #[(.slice Ao64 y325.length co64), u314001] 31 (0, 0))) ∧ Aside0 (IsS152 w0 w' g s0_0 x1001_4 x1002_4) ∧ Aside0 (KeepBut w w' g none) ∧ Aside0 (Below w0.heap.size w0 w'))
       case atStart => exact ⟨(0), (t321), (t322), (x314001_1), (.slice Ao58 x314001_1.length co58), rs0, H', ⟨Nat.le_refl _⟩, ⟨(by (with_reducible repeat (first | apply Kd.R_alloc | apply Kd.R_drewN | apply Kd.R_drew)); exact Kd.R_mono (Kd.R_far (p := ⟨gb313, 0, none⟩) (Kd.R_types HO327.out BK313.out (by decide)) (fun _ hk => hk.2) (.slice Ao64 y325.length co64)) (fun _ hk => trivial))⟩, ⟨(by (with_reducible repeat (first | apply Kd.R_alloc | apply Kd.R_drewN | apply Kd.R_drew)); exact Kd.R_mono (Kd.R_far (p := ⟨gb313, 0, none⟩) (Kd.R_types HO_314001.out BK313.out (by decide)) (fun _ hk => hk.2) (.slice Ao64 y325.length co64)) (fun _ hk => trivial))⟩, ⟨z12_15⟩, ⟨(by (with_reducible repeat (first | refine blk_drewN ?_ _ | refine blk_drew ?_ | refine blk_alloc ?_ _)); refine blk_put (cs := #[u314000, .slice Ao58 x314001_1.length co58]) ?_ 0 _ rfl; (with_reducible repeat (first | refine blk_drewN ?_ _ | refine blk_drew ?_ | refine blk_alloc ?_ _)); exact BK313.out)⟩, ⟨q_152⟩, ⟨z12_1⟩, ⟨q_79⟩⟩
       case round =>
        clear H'; (try clear c46b0); obtain ⟨x8_4, x1001_4, x1002_4, x314001_4, u314001, rfl, HA, HK4, HO_314000, HO_314001, BK291, BK313, HI0, HK, HB⟩ := hrel
        cases gk with
        | zero => exact absurd HA.out (by simp [spec_l06Path.l1])
        | succ k4 =>
         have H := HA.out; clear HA; simp only [spec_l06Path.l1] at H; obtain ⟨t328, A66, H⟩ := bnd H
         try dsimp only at H
         by_cases c67 : x8_4 < t328
         rotate_left
         ·rw [if_neg c67] at H; have c67b0 := decide_eq_false c67; clear c67
          have H' := mk0 H
          clear H
          go_wp2_with (first | ((with_reducible refine gate_callee (f := 55) rfl ?_); refine gl_ (some 67) Try.func55 #[.int .i64 x7_42] rfl q_0 ?_; (with_reducible refine (spec_NeedOf.calls x7_42 t328 _ A66.out).mono ?_); rintro e w76 ⟨rfl, hb⟩; refine ⟨_, rfl, ?_⟩; replace HO_314000 := bR HO_314000 hb; replace HO_314001 := bR HO_314001 hb; replace BK291 := bB BK291 hb; replace BK313 := bB BK313 hb; replace HK := mk0 (KeepBut.trans z12_1 (KeepBut.of_below hb g none) (.inl rfl)); replace HB := bS q_79 hb; replace HI0 := mk0 (IsS152.below q_152 hb); clear hb))
          go_roundg k4
          case measure => have := HK1.out; have := HJ28.out; have := HJ42.out; have := HK4.out; omega
          case rel => exact ⟨(wrap64 (x6_1 + 1)), (x1001_4), (x1002_4), (y325), (x314001_4), (.slice Ao64 y325.length co64), (u314001), rs0, H', ⟨(by have := HK1.out; have := HJ28.out; have := HJ42.out; have := HK4.out; omega)⟩, ⟨pkR HO_314000⟩, ⟨pkR HO_314001⟩, ⟨pkb BK291⟩, ⟨pkb BK313⟩, ⟨q_152⟩, ⟨z12_1⟩, ⟨q_79⟩⟩
         rw [if_pos c67] at H; have c67b0 := decide_eq_true c67; clear c67
         obtain ⟨⟨t329, t330, t331, t332⟩, A68, H⟩ := bnd H
         try dsimp only at H
         by_cases c69 : x314001_4.length < 8796093022208
         rotate_left
         ·rw [if_neg c69] at H
          exact absurd H (by simp)
         rw [if_pos c69] at H; have LMc69 := mk0 c69; clear c69
         obtain ⟨y333, hy_⟩ : ∃ y_ : List (S52), y_ = (x314001_4 ++ [(⟨t329, t330⟩ : S52)]) := ⟨_, rfl⟩
         replace H : (spec_l06Path.l1 k4 x6_1 x7_42 (wrap64 (x8_4 + 1)) s0_0 t331 t332 y325 y333) = some (r1, r2, r3, r4) := q_69
         have Ny333 := mk0 hy_; clear hy_
         have H' := mk0 H
         clear H
         try go_wp2_with (first | ((with_reducible refine gate_callee (f := 55) rfl ?_); refine gl_ (some 67) Try.func55 #[.int .i64 x7_42] rfl q_0 ?_; (with_reducible refine (spec_NeedOf.calls x7_42 t328 _ A66.out).mono ?_); rintro e w70 ⟨rfl, hb⟩; refine ⟨_, rfl, ?_⟩; replace HO_314000 := bR HO_314000 hb; replace HO_314001 := bR HO_314001 hb; replace BK291 := bB BK291 hb; replace BK313 := bB BK313 hb; replace HK := mk0 (KeepBut.trans z12_1 (KeepBut.of_below hb g none) (.inl rfl)); replace HB := bS q_79 hb; replace HI0 := mk0 (IsS152.below q_152 hb); clear hb))
         replace HO_314000 := mk0 (Kd.R_drew HO_314000.out); replace HO_314001 := mk0 (Kd.R_drew HO_314001.out); replace BK291 := mk0 (blk_drew BK291.out); replace BK313 := mk0 (blk_drew BK313.out); replace HI0 := mk0 (IsS152.drew HI0.out); replace HK := mk0 (keep_drew HK.out); replace HB := mk0 (below_drew1 HB.out)
         refine start_ (n := 8) (S := fun w' => w'.cell? ⟨gb313, 0, none⟩ = some (.slice Ao64 y325.length co64) ∧ w'.cell? ⟨gb313, 1, none⟩ = some (u314001)) (ds := [7]) #[false, false, false, false, false, false, false, false] (by kernel_rfl) rfl rfl ⟨(blk_cell BK313.out 0).trans rfl, (blk_cell BK313.out 1).trans rfl⟩ (fun hHeld => ?_); refine with_tabW spec_l06Path.tab18 spec_l06Path.bits18 (fun HT_ HW_ => ?_)
         generalize w70.drew = w71 at HO_314000 HO_314001 BK291 BK313 HI0 HK HB hHeld ⊢
         refine pzx (i := 0) (N := 71) (bA 8 1) HT_ ?_; refine pzx (i := 2) (N := 73) (bA 8 5) HT_ ?_
         refine take_ (i := 1) (N := some 72) (v := ?_) (a' := ?_) (bA 8 7) rfl rfl (take_ofW HT_.out HW_.out (by kernel_rfl)) (fun _ _ _ h => h) (Or.inl ⟨by rfl, ?_⟩) hHeld ?_ ?_
         rotate_left
         ·rintro w' ⟨s0, s1⟩
          go_simp; with_reducible rfl
         rotate_left
         ·exact x12_put
         refine one_ (i := 3) (N := some 74) (bA 8 15) rfl rfl (one_of HT_.out (by kernel_rfl)) (by decide) (fun K hK => ?_)
         refine goes_ Try.func149 (by kernel_rfl) rfl #[.pointer (some ⟨g, 0, none⟩)] (by rfl) rfl rfl q_0 ?_
         with_reducible refine (spec_l04Point.calls g s0_0 x1001_4 x1002_4 t329 t330 t331 t332 w0 _ ?side1 ?side2 A68.out).mono ?_
         (case side1 => exact q_152)
         (case side2 => exact q_79)
         rintro e w72 ⟨rfl, hi, hb, hk⟩
         refine ⟨_, rfl, ?_⟩
         replace HO_314000 := mk0 (Kd.R_mono (Kd.R_keep (IsS152.apart (show IsS152 w0 _ g s0_0 x1001_4 x1002_4 from q_152) (pkR HO_314000) (by decide)) hk (fun _ h => h.2)) (fun _ h => h.1))
         replace HO_314001 := mk0 (Kd.R_mono (Kd.R_keep (IsS152.apart (show IsS152 w0 _ g s0_0 x1001_4 x1002_4 from q_152) (pkR HO_314001) (by decide)) hk (fun _ h => h.2)) (fun _ h => h.1))
         replace BK291 := kB BK291 hk (pkb BK291) NB291_0; replace BK313 := kB BK313 hk (pkb BK313) NB313_0; replace HK := mk0 (KeepBut.trans z12_1 hk (.inl rfl)); replace HB := mk0 (hb); replace HI0 := mk0 (hi); (try clear hb); (try clear hb2); (try clear hk); (try clear hi); refine hK.out _ _ ⟨(blk_cell BK313.out 0).trans rfl, (blk_cell BK313.out 1).trans rfl⟩ (fun hHeld => ?_); clear hK K
         refine norm_ (a' := ?_) ?_ ?_
         rotate_left
         ·show Act.put _ (some 74) _ = _
          simp only [Act.put, List.setIfInBounds_toArray, List.set_cons_zero, List.set_cons_succ, i64_w, i32_w]
          rfl
         refine one_ (i := 4) (N := some 75) (bA 8 31) rfl rfl (one_of HT_.out (by kernel_rfl)) (by decide) (fun K hK => ?_)
         refine value_ (w1 := ?_) (v := ?_) (by rfl) rfl ?_ ?_
         rotate_left 2
         ·go_simp
          constructor
          ·rfl
          rfl
         refine hK.out _ _ ⟨(blk_cell (blk_alloc BK313.out _) 0).trans rfl, (blk_cell (blk_alloc BK313.out _) 1).trans rfl⟩ (fun hHeld => ?_); clear hK K
         refine norm_ (a' := ?_) ?_ ?_
         rotate_left
         ·show Act.put _ (some 75) _ = _
          simp only [Act.put, List.setIfInBounds_toArray, List.set_cons_zero, List.set_cons_succ, i64_w, i32_w]
          rfl
         refine one_ (i := 5) (N := some 76) (bA 8 63) rfl rfl (one_of HT_.out (by kernel_rfl)) (by decide) (fun K hK => ?_)
         refine Kd.R_append_step k52 w.heap.size (by rfl) (.tmp 72) (.tmp 75) 29 52 (.agg #[(.int .i64 0), (.int .i64 0)]) 16 rfl Try.underlying29 info52 rfl (by decide) (by omega) u314001 x314001_4 (⟨t329, t330⟩ : S52) [.int .i64 t329, .int .i64 t330] (fun _ => True) (fun _ => False) rfl rfl ?aP (fun _ hk => hk.elim) ?aF ?aO (Below.refl _ _) ?aS ?aL ?_
         (case aP => exact k52_mkM _ _ _ (⟨t329, t330⟩ : S52))
         (case aF => exact (fun _ _ => trivial))
         (case aO => exact (pkR HO_314001))
         (case aS => exact (keep_size (w := w) (g := g) (row := none) z12_1))
         (case aL => have := LMc69.out; omega)
         intro v334 w73 ho hb hg hat; rw [← Ny333.out] at ho
         replace HO_314000 := mk0 (Kd.R_over' (pkR HO_314000) (Kd.R_typed (pkR HO_314001)) (by decide) hg)
         replace BK291 := mk0 (blk_grown (g := gb291) (o := .cells #[.slice none 0 0, .slice none 0 0] 31 (0, 0)) (pkb BK291) hg (Kd.R_ne HO_314001.out BK291.out (by decide)))
         replace BK313 := mk0 (blk_grown (g := gb313) (o := .cells #[.slice Ao64 y325.length co64, u314001] 31 (0, 0)) (pkb BK313) hg (Kd.R_ne HO_314001.out BK313.out (by decide)))
         replace HB := mk0 (below_weaken q_79 HL.out hb)
         replace HI0 := mk0 (IsS152.grown q_152 hg (IsS152.own_ne HI0.out HO_314001.out (by decide)))
         replace HK := mk0 (KeepBut.trans z12_1 (KeepBut.of_grown hg g) (Kd.R_base2 HO_314001.out)); have HO335 := mk0 (ho); clear HO_314001 ho hb hg hat; obtain ⟨Ao74, co74, eo74⟩ := Kd.R_slice HO335.out
         (first | subst eo74 | (injection eo74 with f1_ f2_ f3_; have f4_ := f1_.symm; have f5_ := f3_.symm; clear f1_ f2_ f3_; subst f4_; subst f5_))
         refine hK.out _ _ ⟨(blk_cell BK313.out 0).trans rfl, (blk_cell BK313.out 1).trans rfl⟩ (fun hHeld => ?_); clear hK K
         refine norm_ (a' := ?_) ?_ ?_
         rotate_left
         ·show Act.put _ (some 76) _ = _
          simp only [Act.put, List.setIfInBounds_toArray, List.set_cons_zero, List.set_cons_succ, i64_w, i32_w]
          rfl
         refine pzx (i := 6) (N := 77) (bA 8 127) HT_ ?_
         refine last_ (i := 7) (N := none) (bA 8 255) rfl rfl (one_of HT_.out (by kernel_rfl)) (by decide) (fun K hK => ?_)
         have hs75 : w73.cell? ⟨gb313, 1, none⟩ = some (u314001) := (blk_cell BK313.out 1).trans rfl
         have hfs75 := blk_frozen BK313.out 1; have hns75_0 := NB291_313.out; have hms75_0 := NB313_291.out
         refine skip_ (w1 := ?_) ?hwx ?hN ?_ ?_; (case hwx => rfl); (case hN => rfl)
         rotate_left
         ·go_simp
          rfl
         refine hK.out _ _ ?_; clear hK K
         refine done_ (done_of HT_.out (by kernel_rfl)) ?_
         try go_wp2
         go_roundg k4
         case measure => have := HK1.out; have := HJ28.out; have := HJ42.out; have := HK4.out; omega
         case rel => exact ⟨(wrap64 (x8_4 + 1)), (t331), (t332), (y333), (.slice Ao74 y333.length co74), rs0, H', ⟨(by have := HK1.out; have := HJ28.out; have := HJ42.out; have := HK4.out; omega)⟩, ⟨(by (with_reducible repeat (first | apply Kd.R_alloc | apply Kd.R_drewN | apply Kd.R_drew)); exact Kd.R_mono (Kd.R_far (p := ⟨gb313, 1, none⟩) (Kd.R_types HO_314000.out BK313.out (by decide)) (fun _ hk => hk.2) (.slice Ao74 y333.length co74)) (fun _ hk => trivial))⟩, ⟨(by (with_reducible repeat (first | apply Kd.R_alloc | apply Kd.R_drewN | apply Kd.R_drew)); exact Kd.R_mono (Kd.R_far (p := ⟨gb313, 1, none⟩) (Kd.R_types HO335.out BK313.out (by decide)) (fun _ hk => hk.2) (.slice Ao74 y333.length co74)) (fun _ hk => trivial))⟩, ⟨z12_15⟩, ⟨(by (with_reducible repeat (first | refine blk_drewN ?_ _ | refine blk_drew ?_ | refine blk_alloc ?_ _)); refine blk_put (cs := #[.slice Ao64 y325.length co64, u314001]) ?_ 1 _ rfl; (with_reducible repeat (first | refine blk_drewN ?_ _ | refine blk_drew ?_ | refine blk_alloc ?_ _)); exact BK313.out)⟩, ⟨q_152⟩, ⟨z12_1⟩, ⟨q_79⟩⟩

end Go.Proofs.Ytghbenapnhcllaa.MFnMasks
