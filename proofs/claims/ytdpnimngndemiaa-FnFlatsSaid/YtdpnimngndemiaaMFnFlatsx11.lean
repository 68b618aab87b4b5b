/- Functions of the program as Lean functions, and the proof that a call comes to just these: machine text of this session's own program (myprint.py). -/
import Derived.Test.YtdpnimngndemiaaMFnFlatsx0
import Derived.Test.YtdpnimngndemiaaMFnFlatsx2
import Derived.Test.YtdpnimngndemiaaMFnFlatsx10
namespace Go.Proofs.Ytdpnimngndemiaa.MFnFlats
open Go.RowKit Go.Proofs.YtdpnimngndemiaaW.PrintWords Go.Proofs.YtdpnimngndemiaaW.PrintLast Go.Proofs.YtdpnimngndemiaaW.PrintMore
attribute [local go_sem] max2_int min2_int max_two min_two max_three min_three max_four min_four   -- for this text's walks alone
set_option linter.unusedVariables false
set_option linter.unusedSimpArgs false

theorem x11_put {P : Prop} (h : P := by simp only [Act.put, List.setIfInBounds_toArray, List.set_cons_zero, List.set_cons_succ, i64_w, i32_w]; rfl) : P := h
theorem z11_1 {P : Prop} (h : P := by repeat (first | (with_reducible first | exact HK.out | apply KeepBut.set_ | apply keep_drewN | apply keep_drew | apply keep_alloc | refine keep_far ?_ GW376.out _ | refine keep_far ?_ GW398.out _) | exact HK.out)) : P := h
theorem z11_2 {P : Prop} (h : P := by repeat (first | (with_reducible first | exact HB.out | apply below_alloc | apply pw_below_drewN | apply below_drew1 | refine below_set ?_ (IsS78.ge HI0.out) | refine below_set ?_ GE376.out | refine below_set ?_ GE398.out) | exact HB.out)) : P := h
theorem z11_3 {P : Prop} (h : P := by repeat (first | (with_reducible first | exact HI0.out | apply IsS78.alloc | apply IsS78.drewN | apply IsS78.drew | apply IsS78.set_1 | apply IsS78.set_2 | apply IsS78.farB NB0_376.out | apply IsS78.farB NB0_398.out) | exact HI0.out)) : P := h
theorem z11_4 {P : Prop} (h : P := by repeat (first | (with_reducible first | exact HK.out | apply KeepBut.set_ | apply keep_drewN | apply keep_drew | apply keep_alloc | refine keep_far ?_ GW376.out _) | exact HK.out)) : P := h
theorem z11_5 {P : Prop} (h : P := by (try simp only [List.map_toArray, List.map_cons, List.map_nil]); first | done | rfl | (simp only [List.length_drop, List.length_take]; rfl)) : P := h
theorem z11_6 {P : Prop} (h : P := by repeat (first | (with_reducible first | exact HB.out | apply below_alloc | apply pw_below_drewN | apply below_drew1 | refine below_set ?_ (IsS78.ge HI0.out) | refine below_set ?_ GE376.out) | exact HB.out)) : P := h
theorem z11_7 {P : Prop} (h : P := by repeat (first | (with_reducible first | exact HI0.out | apply IsS78.alloc | apply IsS78.drewN | apply IsS78.drew | apply IsS78.set_1 | apply IsS78.set_2 | apply IsS78.farB NB0_376.out) | exact HI0.out)) : P := h
theorem z11_8 {P : Prop} (h : P := by repeat (first | (with_reducible first | exact HK.out | apply KeepBut.set_ | apply keep_drewN | apply keep_drew | apply keep_alloc) | exact HK.out)) : P := h
theorem z11_9 {P : Prop} (h : P := by repeat (first | (with_reducible first | exact HB.out | apply below_alloc | apply pw_below_drewN | apply below_drew1 | refine below_set ?_ (IsS78.ge HI0.out) | refine below_set ?_ GE376.out | refine below_set ?_ GE398.out) | exact HB.out)) : P := h
theorem z11_10 {P : Prop} (h : P := by repeat (first | (with_reducible first | exact HI0.out | apply IsS78.alloc | apply IsS78.drewN | apply IsS78.drew | apply IsS78.set_1 | apply IsS78.set_2 | apply IsS78.farB NB0_376.out | apply IsS78.farB NB0_398.out) | exact HI0.out)) : P := h
theorem z11_11 {P : Prop} (h : P := by first | (rw [hy_]; with_reducible exact H) | (have H2_ := (Option.bind_some _ _).symm.trans H; rw [hy_]; with_reducible exact H2_) | (have H2_ := (Option.bind_some _ _).symm.trans H; with_reducible exact H2_) | with_reducible exact H | (rw [hy_]; exact H) | exact H) : P := h
theorem z11_12 {P : Prop} (h : P := by apply blk_fin; (focus ((with_reducible repeat (first | apply blk_putQ | refine blk_drewN ?_ _ | refine blk_drew ?_ | refine blk_alloc ?_ _)); exact BK376.out)); first | (simp only [List.setIfInBounds_toArray, List.set_cons_zero, List.set_cons_succ]; done) | rfl) : P := h
theorem z11_13 {P : Prop} (h : P := by repeat (first | (with_reducible first | exact HB.out | apply below_alloc | apply pw_below_drewN | apply below_drew1 | refine below_set ?_ (IsS78.ge HI0.out) | refine below_set ?_ GE376.out) | exact HB.out)) : P := h
theorem z11_14 {P : Prop} (h : P := by repeat (first | (with_reducible first | exact HI0.out | apply IsS78.alloc | apply IsS78.drewN | apply IsS78.drew | apply IsS78.set_1 | apply IsS78.set_2 | apply IsS78.farB NB0_376.out) | exact HI0.out)) : P := h
theorem z11_15 {P : Prop} (h : P := by (with_reducible repeat (first | refine blk_drewN ?_ _ | refine blk_drew ?_ | refine blk_alloc ?_ _)); refine blk_far ?_ NB376_398.out _; (with_reducible repeat (first | refine blk_drewN ?_ _ | refine blk_drew ?_ | refine blk_alloc ?_ _)); exact BK376.out) : P := h
theorem z11_16 {P : Prop} (h : P := by first | rfl | (simp [errW_none, errW_some] <;> rfl) | (simp [*, errW_none, errW_some] <;> rfl)) : P := h
theorem z11_17 {P : Prop} (h : P := by repeat (first | (with_reducible first | exact HB.out | apply below_alloc | apply pw_below_drewN | apply below_drew1 | refine below_set ?_ (IsS78.ge HI0.out)) | exact HB.out)) : P := h
theorem z11_18 {P : Prop} (h : P := by repeat (first | (with_reducible first | exact HI0.out | apply IsS78.alloc | apply IsS78.drewN | apply IsS78.drew | apply IsS78.set_1 | apply IsS78.set_2) | exact HI0.out)) : P := h
theorem z11_19 {P : Prop} (h : P := by first | exact Kd.R_nil _ _ _ _ _ | exact Kd.N_nil _ _ _ _ _ | exact Kd.V_nil _ _ _ _ _ | exact Kd.Q_nil _ _ _ _ _ | exact Kd.S_nil _ _ _ _ _) : P := h
theorem z11_20 {P : Prop} (h : P := by (with_reducible repeat (first | apply Kd.R_alloc | apply Kd.R_drewN | apply Kd.R_drew)); exact Kd.R_mono HO_399000.out (fun _ hk => trivial)) : P := h
/-! ### spec_l06Path: function 35 -/
mutual
def spec_l06Path.l0 : Nat → Int → List Int → Int → Int → List Int → List (S46) → Option (List Int × (List (S46)) × Int × Int)
 | 0, _, _, _, _, _, _ => none
 | k + 1, x6, x1000, x1001, x1002, x399000, x399001 => (spec_l01Below.f x1000 x1001 x1002 6).bind fun bt399 => (if x6 < (wrap64 (1 + bt399.1)) then ((spec_l01PickInt.f x1000 bt399.2.1 bt399.2.2 (([2, 2, 2, 3, 4, 5, 1] : List Int))).bind fun bt405 => (if x6 = 0 then (spec_l06Path.j1 k x6 bt405.1 true x1000 bt405.2.1 bt405.2.2 x399000 x399001) else (if 0 ≤ (wrap64 (x6 - 1)) then (if (wrap64 (x6 - 1)) < (x399000.length : Int) then (spec_l06Path.j1 k x6 bt405.1 ((rd x399000 (wrap64 (x6 - 1))) == 5) x1000 bt405.2.1 bt405.2.2 x399000 x399001) else (none)) else (none)))) else (some (x399000, x399001, bt399.2.1, bt399.2.2)))
def spec_l06Path.j1 : Nat → Int → Int → Bool → List Int → Int → Int → List Int → List (S46) → Option (List Int × (List (S46)) × Int × Int)
 | 0, _, _, _, _, _, _, _, _ => none
 | k + 1, x6, x7, x50, x1000, x1001, x1002, x399000, x399001 => if x50 = true then (spec_l06Path.j2 k x6 1 x1000 x1001 x1002 x399000 x399001) else (spec_l06Path.j2 k x6 x7 x1000 x1001 x1002 x399000 x399001)
def spec_l06Path.j2 : Nat → Int → Int → List Int → Int → Int → List Int → List (S46) → Option (List Int × (List (S46)) × Int × Int)
 | 0, _, _, _, _, _, _, _ => none
 | k + 1, x6, x7, x1000, x1001, x1002, x399000, x399001 => (spec_NeedOf.f x7).bind fun t409 => (if (wrap64 ((x399001.length : Int) + t409)) > 24 then (some (x399000, x399001, x1001, x1002)) else (if x399000.length < 17592186044416 then (spec_l06Path.l1 k x6 x7 0 x1000 x1001 x1002 (x399000 ++ [x7]) x399001) else (none)))
def spec_l06Path.l1 : Nat → Int → Int → Int → List Int → Int → Int → List Int → List (S46) → Option (List Int × (List (S46)) × Int × Int)
 | 0, _, _, _, _, _, _, _, _ => none
 | k + 1, x6, x7, x8, x1000, x1001, x1002, x399000, x399001 => (spec_NeedOf.f x7).bind fun t413 => (if x8 < t413 then ((spec_l04Point.f x1000 x1001 x1002).bind fun bt414 => (if x399001.length < 8796093022208 then (spec_l06Path.l1 k x6 x7 (wrap64 (x8 + 1)) x1000 bt414.2.2.1 bt414.2.2.2 x399000 (x399001 ++ [(⟨bt414.1, bt414.2.1⟩ : S46)])) else (none))) else (spec_l06Path.l0 k (wrap64 (x6 + 1)) x1000 x1001 x1002 x399000 x399001))
end
def spec_l06Path.f (k : Nat) (s0_0 : List Int) (s0_1 : Int) (s0_2 : Int) : Option (List Int × (List (S46)) × Int × Int) := (spec_l01Once.f s0_0 s0_1 s0_2 2).bind fun bt377 => (if bt377.1 = true then ((spec_l01Below.f s0_0 bt377.2.1 bt377.2.2 2400).bind fun bt380 => ((spec_l01Below.f s0_0 bt380.2.1 bt380.2.2 2400).bind fun bt383 => ((spec_l01Below.f s0_0 bt383.2.1 bt383.2.2 1500).bind fun bt386 => ((spec_l01Below.f s0_0 bt386.2.1 bt386.2.2 1500).bind fun bt389 => ((spec_RectPath.f bt380.1 bt383.1 (wrap64 ((wrap64 (bt380.1 + 1)) + bt386.1)) (wrap64 ((wrap64 (bt383.1 + 1)) + bt389.1))).bind fun bt392 => (some (bt392.1, bt392.2, bt389.2.1, bt389.2.2))))))) else (spec_l06Path.l0 k 0 s0_0 bt377.2.1 bt377.2.2 ([] : List Int) ([] : List (S46))))
theorem spec_l06Path.mono_l : ∀ k, (∀ y0 y1 y2 y3 y4 y5, LeO (spec_l06Path.l0 k y0 y1 y2 y3 y4 y5) (spec_l06Path.l0 (k + 1) y0 y1 y2 y3 y4 y5)) ∧ (∀ y0 y1 y2 y3 y4 y5 y6 y7, LeO (spec_l06Path.j1 k y0 y1 y2 y3 y4 y5 y6 y7) (spec_l06Path.j1 (k + 1) y0 y1 y2 y3 y4 y5 y6 y7)) ∧ (∀ y0 y1 y2 y3 y4 y5 y6, LeO (spec_l06Path.j2 k y0 y1 y2 y3 y4 y5 y6) (spec_l06Path.j2 (k + 1) y0 y1 y2 y3 y4 y5 y6)) ∧ (∀ y0 y1 y2 y3 y4 y5 y6 y7, LeO (spec_l06Path.l1 k y0 y1 y2 y3 y4 y5 y6 y7) (spec_l06Path.l1 (k + 1) y0 y1 y2 y3 y4 y5 y6 y7))
 | 0 => ⟨fun _ _ _ _ _ _ r h => by simp [spec_l06Path.l0] at h, fun _ _ _ _ _ _ _ _ r h => by simp [spec_l06Path.j1] at h, fun _ _ _ _ _ _ _ r h => by simp [spec_l06Path.j2] at h, fun _ _ _ _ _ _ _ _ r h => by simp [spec_l06Path.l1] at h⟩
 | k + 1 => by
  obtain ⟨ih0, ih1, ih2, ih3⟩ := spec_l06Path.mono_l k
  refine ⟨?_, ?_, ?_, ?_⟩
  ·intro y0 y1 y2 y3 y4 y5
   unfold spec_l06Path.l0
   repeat' first
   | (with_reducible exact ih0 _ _ _ _ _ _)
   | (with_reducible exact ih1 _ _ _ _ _ _ _ _)
   | (with_reducible exact ih2 _ _ _ _ _ _ _)
   | (with_reducible exact ih3 _ _ _ _ _ _ _ _)
   | (with_reducible exact LeO.refl _)
   | (with_reducible exact LeO.none _)
   | (with_reducible refine LeO.ite ?_ ?_)
   | (with_reducible refine LeO.bind ?_ (fun _ => ?_))
  ·intro y0 y1 y2 y3 y4 y5 y6 y7
   unfold spec_l06Path.j1
   repeat' first
   | (with_reducible exact ih0 _ _ _ _ _ _)
   | (with_reducible exact ih1 _ _ _ _ _ _ _ _)
   | (with_reducible exact ih2 _ _ _ _ _ _ _)
   | (with_reducible exact ih3 _ _ _ _ _ _ _ _)
   | (with_reducible exact LeO.refl _)
   | (with_reducible exact LeO.none _)
   | (with_reducible refine LeO.ite ?_ ?_)
   | (with_reducible refine LeO.bind ?_ (fun _ => ?_))
  ·intro y0 y1 y2 y3 y4 y5 y6
   unfold spec_l06Path.j2
   repeat' first
   | (with_reducible exact ih0 _ _ _ _ _ _)
   | (with_reducible exact ih1 _ _ _ _ _ _ _ _)
   | (with_reducible exact ih2 _ _ _ _ _ _ _)
   | (with_reducible exact ih3 _ _ _ _ _ _ _ _)
   | (with_reducible exact LeO.refl _)
   | (with_reducible exact LeO.none _)
   | (with_reducible refine LeO.ite ?_ ?_)
   | (with_reducible refine LeO.bind ?_ (fun _ => ?_))
  ·intro y0 y1 y2 y3 y4 y5 y6 y7
   unfold spec_l06Path.l1
   repeat' first
   | (with_reducible exact ih0 _ _ _ _ _ _)
   | (with_reducible exact ih1 _ _ _ _ _ _ _ _)
   | (with_reducible exact ih2 _ _ _ _ _ _ _)
   | (with_reducible exact ih3 _ _ _ _ _ _ _ _)
   | (with_reducible exact LeO.refl _)
   | (with_reducible exact LeO.none _)
   | (with_reducible refine LeO.ite ?_ ?_)
   | (with_reducible refine LeO.bind ?_ (fun _ => ?_))
theorem spec_l06Path.mono : ∀ a0 a1 a2 k, LeO (spec_l06Path.f k a0 a1 a2) (spec_l06Path.f (k + 1) a0 a1 a2) := by
 intro a0 a1 a2 k
 obtain ⟨ih0, ih1, ih2, ih3⟩ := spec_l06Path.mono_l k
 unfold spec_l06Path.f
 repeat' first
   | (with_reducible exact ih0 _ _ _ _ _ _)
   | (with_reducible exact ih1 _ _ _ _ _ _ _ _)
   | (with_reducible exact ih2 _ _ _ _ _ _ _)
   | (with_reducible exact ih3 _ _ _ _ _ _ _ _)
   | (with_reducible exact LeO.refl _)
   | (with_reducible exact LeO.none _)
   | (with_reducible refine LeO.ite ?_ ?_)
   | (with_reducible refine LeO.bind ?_ (fun _ => ?_))
def spec_l06Path.T18 : Bool × List (List Nat × List Nat) := (true, [([], []), ([0], [0]), ([], []), ([2], [2]), ([3], [3]), ([1, 4, 3], [1, 4]), ([0, 1, 2, 3, 4, 5], []), ([6, 5, 5, 0, 1, 2, 3, 4, 5], [5, 6])])
def spec_l06Path.B18 : List Nat := [0, 1, 0, 4, 12, 31, 63, 127]
theorem spec_l06Path.tab18 : rtab .any (opsOf Try.f35 18) = spec_l06Path.T18 := by kernel_rfl
theorem spec_l06Path.bits18 : waitsOk spec_l06Path.T18.2 spec_l06Path.B18 = true := by kernel_rfl
set_option maxHeartbeats 8000000 in
set_option maxRecDepth 100000 in
theorem spec_l06Path.calls (k : Nat) (g : Nat) (s0_0 : List Int) (s0_1 : Int) (s0_2 : Int) (r1 : List Int) (r2 : List (S46)) (r3 : Int) (r4 : Int) (w0 w : World) (hI : IsS78 w0 w g s0_0 s0_1 s0_2) (hB : Below w0.heap.size w0 w) (h : spec_l06Path.f k s0_0 s0_1 s0_2 = some (r1, r2, r3, r4)) :
  Calls Try.prog 35 #[.pointer (some ⟨g, 0, none⟩)] w fun e w' => ∃ v0_ v1_ : Value, e = .returned (.agg #[v0_, v1_]) ∧ Kd.R (Kd.int .i64) 3 w' w.heap.size (fun _ => True) v0_ r1 ∧ Kd.R k46 46 w' w.heap.size (fun _ => True) v1_ r2 ∧ IsS78 w0 w' g s0_0 r3 r4 ∧ Below w0.heap.size w0 w' ∧ KeepBut w w' g none := by
 have hu31 := Try.underlying31
 have hu42 := Try.underlying42
 have HI0 := mk0 hI
 have HK := mk0 (KeepBut.refl w g none)
 have HL := mk0 hB.size
 clear hI
 have HW0 := mk0 hB.size
 have HB := mk0 hB
 clear hB
 have H : ((spec_l01Once.f s0_0 s0_1 s0_2 2).bind fun bt377 => (if bt377.1 = true then ((spec_l01Below.f s0_0 bt377.2.1 bt377.2.2 2400).bind fun bt380 => ((spec_l01Below.f s0_0 bt380.2.1 bt380.2.2 2400).bind fun bt383 => ((spec_l01Below.f s0_0 bt383.2.1 bt383.2.2 1500).bind fun bt386 => ((spec_l01Below.f s0_0 bt386.2.1 bt386.2.2 1500).bind fun bt389 => ((spec_RectPath.f bt380.1 bt383.1 (wrap64 ((wrap64 (bt380.1 + 1)) + bt386.1)) (wrap64 ((wrap64 (bt383.1 + 1)) + bt389.1))).bind fun bt392 => (some (bt392.1, bt392.2, bt389.2.1, bt389.2.2))))))) else (spec_l06Path.l0 k 0 s0_0 bt377.2.1 bt377.2.2 ([] : List Int) ([] : List (S46))))) = some (r1, r2, r3, r4) := h
 clear h
 replace H := Option.bind_eq_some_iff.mp H
 obtain ⟨⟨t377, t378, t379⟩, A20, H⟩ := H
 try dsimp only at H
 have A2 := mk0 A20
 clear A20
 by_cases c3 : t377 = true
 ·subst c3
  rw [if_pos rfl] at H
  replace H := Option.bind_eq_some_iff.mp H
  obtain ⟨⟨t380, t381, t382⟩, A40, H⟩ := H
  try dsimp only at H
  have A4 := mk0 A40
  clear A40
  replace H := Option.bind_eq_some_iff.mp H
  obtain ⟨⟨t383, t384, t385⟩, A50, H⟩ := H
  try dsimp only at H
  have A5 := mk0 A50
  clear A50
  replace H := Option.bind_eq_some_iff.mp H
  obtain ⟨⟨t386, t387, t388⟩, A60, H⟩ := H
  try dsimp only at H
  have A6 := mk0 A60
  clear A60
  replace H := Option.bind_eq_some_iff.mp H
  obtain ⟨⟨t389, t390, t391⟩, A70, H⟩ := H
  try dsimp only at H
  have A7 := mk0 A70
  clear A70
  replace H := Option.bind_eq_some_iff.mp H
  obtain ⟨⟨t392, t395⟩, A80, H⟩ := H
  try dsimp only at H
  have A8 := mk0 A80
  clear A80
  simp only [Option.some.injEq, Prod.mk.injEq] at H
  obtain ⟨rfl, rfl, rfl, rfl⟩ := H
  go_enter Try.func35, Try.ntmps35
  go_wp2_with (first | ((with_reducible refine gate_dst (N := 2) rfl ?_); refine boxz (cs := #[.slice none 0 0, .slice none 0 0]) (t := 31) rfl ?_; intro gb376 hg w9 hbox hb; have n0_ := mk0 (IsS78.below z11_18 hb); have n1_ := mk0 (KeepBut.trans z11_8 (KeepBut.of_below hb g none) (.inl rfl)); have n2_ := mk0 (below_step z11_17 hb); have n3_ := mk0 (hbox); have n4_ := mk0 ((by rw [hg]; exact (keep_size (w := w) (g := g) (row := none) z11_8) : w.heap.size ≤ gb376)); have n5_ := mk0 ((Nat.le_trans HW0.out (by rw [hg]; exact (keep_size (w := w) (g := g) (row := none) z11_8) : w.heap.size ≤ gb376) : w0.heap.size ≤ gb376)); have n6_ := mk0 ((by rw [hg]; exact Nat.ne_of_lt (IsS78.lt (show IsS78 w0 _ g s0_0 s0_1 s0_2 from by repeat (first | (with_reducible first | exact HI0.out | apply IsS78.alloc | apply IsS78.drewN | apply IsS78.drew | apply IsS78.set_1 | apply IsS78.set_2) | exact HI0.out))) : g ≠ gb376)); have n7_ := mk0 ((by rw [hg]; exact Nat.ne_of_gt (IsS78.lt (show IsS78 w0 _ g s0_0 s0_1 s0_2 from by repeat (first | (with_reducible first | exact HI0.out | apply IsS78.alloc | apply IsS78.drewN | apply IsS78.drew | apply IsS78.set_1 | apply IsS78.set_2) | exact HI0.out))) : gb376 ≠ g)); clear HI0 HK HB; have HI0 := n0_; have HK := n1_; have HB := n2_; have BK376 := n3_; have GW376 := n4_; have GE376 := n5_; have NB0_376 := n6_; have NB376_0 := n7_; clear n0_ n1_ n2_ n3_ n4_ n5_ n6_ n7_ hb hbox hg) | ((with_reducible refine gate_callee (f := 48) rfl ?_); refine goesL_ (some 10) rfl rfl Try.func48 (by kernel_rfl) rfl #[.pointer (some ⟨g, 0, none⟩), .int .i64 2] rfl z11_5 ?_; (with_reducible refine (spec_l01Once.calls g s0_0 s0_1 s0_2 2 true t378 t379 w0 _ ?side1 ?side2 A2.out).mono ?_); (case side1 => exact z11_7); (case side2 => exact z11_6); rintro e w10 ⟨rfl, hi, hb, hk⟩; refine ⟨_, rfl, ?_⟩; have n0_ := mk0 (KeepBut.blk hk (g' := gb376) (o := .cells #[.slice none 0 0, .slice none 0 0] 31 (0, 0)) (pkb BK376) NB376_0.out (by simp)); have n1_ := mk0 (KeepBut.trans z11_4 hk (.inl rfl)); have n2_ := mk0 (hb); have n3_ := mk0 (hi); clear BK376 HK HB HI0; have BK376 := n0_; have HK := n1_; have HB := n2_; have HI0 := n3_; clear n0_ n1_ n2_ n3_; (try clear hb); (try clear hk); (try clear hi)) | ((with_reducible refine gate_callee (f := 49) rfl ?_); refine goesL_ (some 12) rfl rfl Try.func49 (by kernel_rfl) rfl #[.pointer (some ⟨g, 0, none⟩), .int .i64 2400] rfl z11_5 ?_; (with_reducible refine (spec_l01Below.calls g s0_0 t378 t379 2400 t380 t381 t382 w0 _ ?side1 ?side2 A4.out).mono ?_); (case side1 => exact z11_7); (case side2 => exact z11_6); rintro e w11 ⟨rfl, hi, hb, hk⟩; refine ⟨_, rfl, ?_⟩; have n0_ := mk0 (KeepBut.blk hk (g' := gb376) (o := .cells #[.slice none 0 0, .slice none 0 0] 31 (0, 0)) (pkb BK376) NB376_0.out (by simp)); have n1_ := mk0 (KeepBut.trans z11_4 hk (.inl rfl)); have n2_ := mk0 (hb); have n3_ := mk0 (hi); clear BK376 HK HB HI0; have BK376 := n0_; have HK := n1_; have HB := n2_; have HI0 := n3_; clear n0_ n1_ n2_ n3_; (try clear hb); (try clear hk); (try clear hi)) | ((with_reducible refine gate_callee (f := 49) rfl ?_); refine goesL_ (some 14) rfl rfl Try.func49 (by kernel_rfl) rfl #[.pointer (some ⟨g, 0, none⟩), .int .i64 2400] rfl z11_5 ?_; (with_reducible refine (spec_l01Below.calls g s0_0 t381 t382 2400 t383 t384 t385 w0 _ ?side1 ?side2 A5.out).mono ?_); (case side1 => exact z11_7); (case side2 => exact z11_6); rintro e w12 ⟨rfl, hi, hb, hk⟩; refine ⟨_, rfl, ?_⟩; have n0_ := mk0 (KeepBut.blk hk (g' := gb376) (o := .cells #[.slice none 0 0, .slice none 0 0] 31 (0, 0)) (pkb BK376) NB376_0.out (by simp)); have n1_ := mk0 (KeepBut.trans z11_4 hk (.inl rfl)); have n2_ := mk0 (hb); have n3_ := mk0 (hi); clear BK376 HK HB HI0; have BK376 := n0_; have HK := n1_; have HB := n2_; have HI0 := n3_; clear n0_ n1_ n2_ n3_; (try clear hb); (try clear hk); (try clear hi)) | ((with_reducible refine gate_callee (f := 49) rfl ?_); refine goesL_ (some 20) rfl rfl Try.func49 (by kernel_rfl) rfl #[.pointer (some ⟨g, 0, none⟩), .int .i64 1500] rfl z11_5 ?_; (with_reducible refine (spec_l01Below.calls g s0_0 t384 t385 1500 t386 t387 t388 w0 _ ?side1 ?side2 A6.out).mono ?_); (case side1 => exact z11_7); (case side2 => exact z11_6); rintro e w13 ⟨rfl, hi, hb, hk⟩; refine ⟨_, rfl, ?_⟩; have n0_ := mk0 (KeepBut.blk hk (g' := gb376) (o := .cells #[.slice none 0 0, .slice none 0 0] 31 (0, 0)) (pkb BK376) NB376_0.out (by simp)); have n1_ := mk0 (KeepBut.trans z11_4 hk (.inl rfl)); have n2_ := mk0 (hb); have n3_ := mk0 (hi); clear BK376 HK HB HI0; have BK376 := n0_; have HK := n1_; have HB := n2_; have HI0 := n3_; clear n0_ n1_ n2_ n3_; (try clear hb); (try clear hk); (try clear hi)) | ((with_reducible refine gate_callee (f := 49) rfl ?_); refine goesL_ (some 25) rfl rfl Try.func49 (by kernel_rfl) rfl #[.pointer (some ⟨g, 0, none⟩), .int .i64 1500] rfl z11_5 ?_; (with_reducible refine (spec_l01Below.calls g s0_0 t387 t388 1500 t389 t390 t391 w0 _ ?side1 ?side2 A7.out).mono ?_); (case side1 => exact z11_7); (case side2 => exact z11_6); rintro e w14 ⟨rfl, hi, hb, hk⟩; refine ⟨_, rfl, ?_⟩; have n0_ := mk0 (KeepBut.blk hk (g' := gb376) (o := .cells #[.slice none 0 0, .slice none 0 0] 31 (0, 0)) (pkb BK376) NB376_0.out (by simp)); have n1_ := mk0 (KeepBut.trans z11_4 hk (.inl rfl)); have n2_ := mk0 (hb); have n3_ := mk0 (hi); clear BK376 HK HB HI0; have BK376 := n0_; have HK := n1_; have HB := n2_; have HI0 := n3_; clear n0_ n1_ n2_ n3_; (try clear hb); (try clear hk); (try clear hi)) | ((with_reducible refine gate_callee (f := 50) rfl ?_); refine goesL_ (some 28) rfl rfl Try.func50 (by kernel_rfl) rfl #[.agg #[.int .i64 t380, .int .i64 t383, .int .i64 (wrap64 ((wrap64 (t380 + 1)) + t386)), .int .i64 (wrap64 ((wrap64 (t383 + 1)) + t389))]] rfl z11_5 ?_; (with_reducible refine (spec_RectPath.calls t380 t383 (wrap64 ((wrap64 (t380 + 1)) + t386)) (wrap64 ((wrap64 (t383 + 1)) + t389)) t392 t395 _ A8.out).mono ?_); rintro e w15 ⟨v393, v396, rfl, ho0, ho1, hb⟩; refine ⟨_, rfl, ?_⟩; have n0_ := mk0 (Kd.R_lower ho0 (keep_size (w := w) (g := g) (row := none) z11_4)); have n1_ := mk0 (Kd.R_lower ho1 (keep_size (w := w) (g := g) (row := none) z11_4)); have n2_ := mk0 (IsS78.below z11_14 hb); have n3_ := mk0 (blk_belowB BK376 (pkb BK376) hb); have n4_ := mk0 (KeepBut.trans z11_4 (KeepBut.of_below hb g none) (.inl rfl)); have n5_ := mk0 (below_step z11_13 hb); clear HI0 BK376 HK HB; have HO394 := n0_; have HO397 := n1_; have HI0 := n2_; have BK376 := n3_; have HK := n4_; have HB := n5_; clear n0_ n1_ n2_ n3_ n4_ n5_; (try clear hb); (try clear hk); (try clear hi); (try clear ho0); (try clear ho1); obtain ⟨Ao16, co16, eo16⟩ := Kd.R_slice HO394.out; subst eo16; have hnb17 := NB376_0.out; have hnc17 := NB0_376.out; obtain ⟨_, _, _, _⟩ := be_2 BK376.out; obtain ⟨Ao19, co19, eo19⟩ := Kd.R_slice HO397.out; subst eo19))
  refine bodyPost_ret (results_cell_row rfl _ _ gb376 31 #[.slice Ao16 t392.length co16, .slice Ao19 t395.length co19] (0, 0) _ rfl z11_12 Try.underlying31 rfl (by kernel_rfl)) rfl ?_
  exact ⟨_, _, z11_16, (by (with_reducible repeat (first | apply Kd.R_alloc | apply Kd.R_drewN | apply Kd.R_drew)); exact Kd.R_mono (Kd.R_far (p := ⟨gb376, 1, none⟩) (Kd.R_far (p := ⟨gb376, 0, none⟩) (Kd.R_types HO394.out BK376.out (by decide)) (fun _ hk => hk.2) (.slice Ao16 t392.length co16)) (fun _ hk => hk.2) (.slice Ao19 t395.length co19)) (fun _ hk => trivial)), (by (with_reducible repeat (first | apply Kd.R_alloc | apply Kd.R_drewN | apply Kd.R_drew)); exact Kd.R_mono (Kd.R_far (p := ⟨gb376, 1, none⟩) (Kd.R_far (p := ⟨gb376, 0, none⟩) (Kd.R_types HO397.out BK376.out (by decide)) (fun _ hk => hk.2) (.slice Ao16 t392.length co16)) (fun _ hk => hk.2) (.slice Ao19 t395.length co19)) (fun _ hk => trivial)), z11_14, z11_13, z11_4⟩
 replace c3 := Bool.eq_false_iff.mpr c3
 subst c3
 rw [if_neg (show ¬ (false = true) by decide)] at H
 have H' := mk0 H
 clear H
 go_enter Try.func35, Try.ntmps35
 go_wp2_with (first | ((with_reducible refine gate_dst (N := 2) rfl ?_); refine boxz (cs := #[.slice none 0 0, .slice none 0 0]) (t := 31) rfl ?_; intro gb376 hg w20 hbox hb; have n0_ := mk0 (IsS78.below z11_18 hb); have n1_ := mk0 (KeepBut.trans z11_8 (KeepBut.of_below hb g none) (.inl rfl)); have n2_ := mk0 (below_step z11_17 hb); have n3_ := mk0 (hbox); have n4_ := mk0 ((by rw [hg]; exact (keep_size (w := w) (g := g) (row := none) z11_8) : w.heap.size ≤ gb376)); have n5_ := mk0 ((Nat.le_trans HW0.out (by rw [hg]; exact (keep_size (w := w) (g := g) (row := none) z11_8) : w.heap.size ≤ gb376) : w0.heap.size ≤ gb376)); have n6_ := mk0 ((by rw [hg]; exact Nat.ne_of_lt (IsS78.lt (show IsS78 w0 _ g s0_0 s0_1 s0_2 from by repeat (first | (with_reducible first | exact HI0.out | apply IsS78.alloc | apply IsS78.drewN | apply IsS78.drew | apply IsS78.set_1 | apply IsS78.set_2) | exact HI0.out))) : g ≠ gb376)); have n7_ := mk0 ((by rw [hg]; exact Nat.ne_of_gt (IsS78.lt (show IsS78 w0 _ g s0_0 s0_1 s0_2 from by repeat (first | (with_reducible first | exact HI0.out | apply IsS78.alloc | apply IsS78.drewN | apply IsS78.drew | apply IsS78.set_1 | apply IsS78.set_2) | exact HI0.out))) : gb376 ≠ g)); clear HI0 HK HB; have HI0 := n0_; have HK := n1_; have HB := n2_; have BK376 := n3_; have GW376 := n4_; have GE376 := n5_; have NB0_376 := n6_; have NB376_0 := n7_; clear n0_ n1_ n2_ n3_ n4_ n5_ n6_ n7_ hb hbox hg) | ((with_reducible refine gate_callee (f := 48) rfl ?_); refine goesL_ (some 10) rfl rfl Try.func48 (by kernel_rfl) rfl #[.pointer (some ⟨g, 0, none⟩), .int .i64 2] rfl z11_5 ?_; (with_reducible refine (spec_l01Once.calls g s0_0 s0_1 s0_2 2 false t378 t379 w0 _ ?side1 ?side2 A2.out).mono ?_); (case side1 => exact z11_7); (case side2 => exact z11_6); rintro e w21 ⟨rfl, hi, hb, hk⟩; refine ⟨_, rfl, ?_⟩; have n0_ := mk0 (KeepBut.blk hk (g' := gb376) (o := .cells #[.slice none 0 0, .slice none 0 0] 31 (0, 0)) (pkb BK376) NB376_0.out (by simp)); have n1_ := mk0 (KeepBut.trans z11_4 hk (.inl rfl)); have n2_ := mk0 (hb); have n3_ := mk0 (hi); clear BK376 HK HB HI0; have BK376 := n0_; have HK := n1_; have HB := n2_; have HI0 := n3_; clear n0_ n1_ n2_ n3_; (try clear hb); (try clear hk); (try clear hi)) | ((with_reducible refine gate_dst (N := 5) rfl ?_); refine boxz (cs := #[.slice none 0 0, .slice none 0 0]) (t := 31) rfl ?_; intro gb398 hg w22 hbox hb; have n0_ := mk0 (IsS78.below z11_14 hb); have n1_ := mk0 (blk_belowB BK376 (pkb BK376) hb); have n2_ := mk0 (KeepBut.trans z11_4 (KeepBut.of_below hb g none) (.inl rfl)); have n3_ := mk0 (below_step z11_13 hb); have n4_ := mk0 (hbox); have n5_ := mk0 ((by rw [hg]; exact (keep_size (w := w) (g := g) (row := none) z11_4) : w.heap.size ≤ gb398)); have n6_ := mk0 ((Nat.le_trans HW0.out (by rw [hg]; exact (keep_size (w := w) (g := g) (row := none) z11_4) : w.heap.size ≤ gb398) : w0.heap.size ≤ gb398)); have n7_ := mk0 (nb_lt hg (blk_ltB BK376 (pkb BK376))); have n8_ := mk0 (nb_gt hg (blk_ltB BK376 (pkb BK376))); have n9_ := mk0 ((by rw [hg]; exact Nat.ne_of_lt (IsS78.lt (show IsS78 w0 _ g s0_0 t378 t379 from by repeat (first | (with_reducible first | exact HI0.out | apply IsS78.alloc | apply IsS78.drewN | apply IsS78.drew | apply IsS78.set_1 | apply IsS78.set_2 | apply IsS78.farB NB0_376.out) | exact HI0.out))) : g ≠ gb398)); have n10_ := mk0 ((by rw [hg]; exact Nat.ne_of_gt (IsS78.lt (show IsS78 w0 _ g s0_0 t378 t379 from by repeat (first | (with_reducible first | exact HI0.out | apply IsS78.alloc | apply IsS78.drewN | apply IsS78.drew | apply IsS78.set_1 | apply IsS78.set_2 | apply IsS78.farB NB0_376.out) | exact HI0.out))) : gb398 ≠ g)); clear HI0 BK376 HK HB; have HI0 := n0_; have BK376 := n1_; have HK := n2_; have HB := n3_; have BK398 := n4_; have GW398 := n5_; have GE398 := n6_; have NB376_398 := n7_; have NB398_376 := n8_; have NB0_398 := n9_; have NB398_0 := n10_; clear n0_ n1_ n2_ n3_ n4_ n5_ n6_ n7_ n8_ n9_ n10_ hb hbox hg; have hnb23 := NB398_376.out; have hnc23 := NB376_398.out; have hnb24 := NB398_0.out; have hnc24 := NB0_398.out; obtain ⟨_, _, _, _⟩ := be_2 BK398.out))
 go_loopg [6] k (fun kq v6 w' => ∃ (x6_1 : Int) (x1001_1 : Int) (x1002_1 : Int) (x399000_1 : List Int) (x399001_1 : List (S46)) (u399000 : Value) (u399001 : Value), v6 = .int .i64 x6_1 ∧ Aside0 (spec_l06Path.l0 kq x6_1 s0_0 x1001_1 x1002_1 x399000_1 x399001_1 = some (r1, r2, r3, r4)) ∧ Aside0 (kq ≤ k) ∧ Aside0 (Kd.R (Kd.int .i64) 3 w' w.heap.size (fun _ => True) u399000 x399000_1) ∧ Aside0 (Kd.R k46 46 w' w.heap.size (fun _ => True) u399001 x399001_1) ∧ Aside0 (w'.heap[gb376]? = some (.cells #[(.slice none 0 0), (.slice none 0 0)] 31 (0, 0))) ∧ Aside0 (w'.heap[gb398]? = some (.cells #[u399000, u399001] 31 (0, 0))) ∧ Aside0 (IsS78 w0 w' g s0_0 x1001_1 x1002_1) ∧ Aside0 (KeepBut w w' g none) ∧ Aside0 (Below w0.heap.size w0 w'))
 case atStart => exact ⟨(0), (t378), (t379), (([] : List Int)), (([] : List (S46))), (.slice none 0 0), (.slice none 0 0), rs0, H', ⟨Nat.le_refl _⟩, ⟨z11_19⟩, ⟨z11_19⟩, ⟨(by (with_reducible repeat (first | refine blk_drewN ?_ _ | refine blk_drew ?_ | refine blk_alloc ?_ _)); refine blk_far ?_ NB376_398.out _; (with_reducible repeat (first | refine blk_drewN ?_ _ | refine blk_drew ?_ | refine blk_alloc ?_ _)); refine blk_far ?_ NB376_398.out _; (with_reducible repeat (first | refine blk_drewN ?_ _ | refine blk_drew ?_ | refine blk_alloc ?_ _)); exact BK376.out)⟩, ⟨(by (with_reducible repeat (first | refine blk_drewN ?_ _ | refine blk_drew ?_ | refine blk_alloc ?_ _)); refine blk_put (cs := #[.slice none 0 0, .slice none 0 0]) ?_ 1 _ rfl; (with_reducible repeat (first | refine blk_drewN ?_ _ | refine blk_drew ?_ | refine blk_alloc ?_ _)); refine blk_put (cs := #[.slice none 0 0, .slice none 0 0]) ?_ 0 _ rfl; (with_reducible repeat (first | refine blk_drewN ?_ _ | refine blk_drew ?_ | refine blk_alloc ?_ _)); exact BK398.out)⟩, ⟨z11_3⟩, ⟨z11_1⟩, ⟨z11_2⟩⟩
 case round =>
  clear H'
  try clear c1
  try clear c2
  try clear p2
  try clear c3
  try clear c4
  try clear c5
  try clear p6
  try clear c17
  try clear c23
  try clear c24
  try clear hcz18_0
  try clear hcz18_1
  try clear hcz25_0
  try clear hcz25_1
  try clear hfz18_0
  try clear hfz18_1
  try clear hfz25_0
  try clear hfz25_1
  obtain ⟨x6_1, x1001_1, x1002_1, x399000_1, x399001_1, u399000, u399001, rfl, HA, HK1, HO_399000, HO_399001, BK376, BK398, HI0, HK, HB⟩ := hrel
  cases gk with
  | zero => exact absurd HA.out (by simp [spec_l06Path.l0])
  | succ k1 =>
   have H := HA.out; clear HA
   simp only [spec_l06Path.l0] at H
   replace H := Option.bind_eq_some_iff.mp H
   obtain ⟨⟨t399, t400, t401⟩, A260, H⟩ := H
   try dsimp only at H
   have A26 := mk0 A260
   clear A260
   by_cases c27 : x6_1 < (wrap64 (1 + t399))
   rotate_left
   ·rw [if_neg c27] at H
    have c27b0 := decide_eq_false c27
    clear c27
    simp only [Option.some.injEq, Prod.mk.injEq] at H
    obtain ⟨rfl, rfl, rfl, rfl⟩ := H
    go_wp2_with (first | ((with_reducible refine gate_callee (f := 49) rfl ?_); refine goesL_ (some 32) rfl rfl Try.func49 (by kernel_rfl) rfl #[.pointer (some ⟨g, 0, none⟩), .int .i64 6] rfl z11_5 ?_; (with_reducible refine (spec_l01Below.calls g s0_0 x1001_1 x1002_1 6 t399 t400 t401 w0 _ ?side1 ?side2 A26.out).mono ?_); (case side1 => exact z11_10); (case side2 => exact z11_9); rintro e w77 ⟨rfl, hi, hb, hk⟩; refine ⟨_, rfl, ?_⟩; have n0_ := mk0 (Kd.R_mono (Kd.R_keep (IsS78.apart (show IsS78 w0 _ g s0_0 x1001_1 x1002_1 from by repeat (first | (with_reducible first | exact HI0.out | apply IsS78.alloc | apply IsS78.drewN | apply IsS78.drew | apply IsS78.set_1 | apply IsS78.set_2 | apply IsS78.farB NB0_376.out | apply IsS78.farB NB0_398.out) | exact HI0.out)) (pkR HO_399000) (by decide)) hk (fun _ h => h.2)) (fun _ h => h.1)); have n1_ := mk0 (Kd.R_mono (Kd.R_keep (IsS78.apart (show IsS78 w0 _ g s0_0 x1001_1 x1002_1 from by repeat (first | (with_reducible first | exact HI0.out | apply IsS78.alloc | apply IsS78.drewN | apply IsS78.drew | apply IsS78.set_1 | apply IsS78.set_2 | apply IsS78.farB NB0_376.out | apply IsS78.farB NB0_398.out) | exact HI0.out)) (pkR HO_399001) (by decide)) hk (fun _ h => h.2)) (fun _ h => h.1)); have n2_ := mk0 (KeepBut.blk hk (g' := gb376) (o := .cells #[.slice none 0 0, .slice none 0 0] 31 (0, 0)) (pkb BK376) NB376_0.out (by simp)); have n3_ := mk0 (KeepBut.blk hk (g' := gb398) (o := .cells #[u399000, u399001] 31 (0, 0)) (pkb BK398) NB398_0.out (by simp)); have n4_ := mk0 (KeepBut.trans z11_1 hk (.inl rfl)); have n5_ := mk0 (hb); have n6_ := mk0 (hi); clear HO_399000 HO_399001 BK376 BK398 HK HB HI0; have HO_399000 := n0_; have HO_399001 := n1_; have BK376 := n2_; have BK398 := n3_; have HK := n4_; have HB := n5_; have HI0 := n6_; clear n0_ n1_ n2_ n3_ n4_ n5_ n6_; (try clear hb); (try clear hk); (try clear hi); have hnb78 := NB398_376.out; have hnc78 := NB376_398.out; have hnb79 := NB398_0.out; have hnc79 := NB0_398.out; obtain ⟨_, _, _, _⟩ := be_2 BK398.out; obtain ⟨Ao81, co81, eo81⟩ := Kd.R_slice HO_399000.out; subst eo81; have hnb82 := NB376_0.out; have hnc82 := NB0_376.out; obtain ⟨_, _, _, _⟩ := be_2 BK376.out; obtain ⟨Ao84, co84, eo84⟩ := Kd.R_slice HO_399001.out; subst eo84))
    refine bodyPost_ret (results_cell_row rfl _ _ gb376 31 #[.slice Ao81 x399000_1.length co81, .slice Ao84 x399001_1.length co84] (0, 0) _ rfl z11_12 Try.underlying31 rfl (by kernel_rfl)) rfl ?_
    exact ⟨_, _, z11_16, (by (with_reducible repeat (first | apply Kd.R_alloc | apply Kd.R_drewN | apply Kd.R_drew)); exact Kd.R_mono (Kd.R_far (p := ⟨gb376, 1, none⟩) (Kd.R_far (p := ⟨gb376, 0, none⟩) (Kd.R_types HO_399000.out BK376.out (by decide)) (fun _ hk => hk.2) (.slice Ao81 x399000_1.length co81)) (fun _ hk => hk.2) (.slice Ao84 x399001_1.length co84)) (fun _ hk => trivial)), (by (with_reducible repeat (first | apply Kd.R_alloc | apply Kd.R_drewN | apply Kd.R_drew)); exact Kd.R_mono (Kd.R_far (p := ⟨gb376, 1, none⟩) (Kd.R_far (p := ⟨gb376, 0, none⟩) (Kd.R_types HO_399001.out BK376.out (by decide)) (fun _ hk => hk.2) (.slice Ao81 x399000_1.length co81)) (fun _ hk => hk.2) (.slice Ao84 x399001_1.length co84)) (fun _ hk => trivial)), z11_3, z11_2, z11_1⟩
   rw [if_pos c27] at H
   have c27b0 := decide_eq_true c27
   clear c27
   obtain ⟨y402, hy_⟩ : ∃ y_ : List Int, y_ = (([2, 2, 2, 3, 4, 5, 1] : List Int)) := ⟨_, rfl⟩
   replace H : ((spec_l01PickInt.f s0_0 t400 t401 y402).bind fun bt405 => (if x6_1 = 0 then (spec_l06Path.j1 k1 x6_1 bt405.1 true s0_0 bt405.2.1 bt405.2.2 x399000_1 x399001_1) else (if 0 ≤ (wrap64 (x6_1 - 1)) then (if (wrap64 (x6_1 - 1)) < (x399000_1.length : Int) then (spec_l06Path.j1 k1 x6_1 bt405.1 ((rd x399000_1 (wrap64 (x6_1 - 1))) == 5) s0_0 bt405.2.1 bt405.2.2 x399000_1 x399001_1) else (none)) else (none)))) = some (r1, r2, r3, r4) := z11_11
   have Ny402 := mk0 hy_
   clear hy_
   replace H := Option.bind_eq_some_iff.mp H
   obtain ⟨⟨t405, t406, t407⟩, A280, H⟩ := H
   try dsimp only at H
   have A28 := mk0 A280
   clear A280
   have HC29 := mk0 H
   clear H
   go_upto_region 10 with (first | ((with_reducible refine gate_callee (f := 49) rfl ?_); refine goesL_ (some 32) rfl rfl Try.func49 (by kernel_rfl) rfl #[.pointer (some ⟨g, 0, none⟩), .int .i64 6] rfl z11_5 ?_; (with_reducible refine (spec_l01Below.calls g s0_0 x1001_1 x1002_1 6 t399 t400 t401 w0 _ ?side1 ?side2 A26.out).mono ?_); (case side1 => exact z11_10); (case side2 => exact z11_9); rintro e w30 ⟨rfl, hi, hb, hk⟩; refine ⟨_, rfl, ?_⟩; have n0_ := mk0 (Kd.R_mono (Kd.R_keep (IsS78.apart (show IsS78 w0 _ g s0_0 x1001_1 x1002_1 from by repeat (first | (with_reducible first | exact HI0.out | apply IsS78.alloc | apply IsS78.drewN | apply IsS78.drew | apply IsS78.set_1 | apply IsS78.set_2 | apply IsS78.farB NB0_376.out | apply IsS78.farB NB0_398.out) | exact HI0.out)) (pkR HO_399000) (by decide)) hk (fun _ h => h.2)) (fun _ h => h.1)); have n1_ := mk0 (Kd.R_mono (Kd.R_keep (IsS78.apart (show IsS78 w0 _ g s0_0 x1001_1 x1002_1 from by repeat (first | (with_reducible first | exact HI0.out | apply IsS78.alloc | apply IsS78.drewN | apply IsS78.drew | apply IsS78.set_1 | apply IsS78.set_2 | apply IsS78.farB NB0_376.out | apply IsS78.farB NB0_398.out) | exact HI0.out)) (pkR HO_399001) (by decide)) hk (fun _ h => h.2)) (fun _ h => h.1)); have n2_ := mk0 (KeepBut.blk hk (g' := gb376) (o := .cells #[.slice none 0 0, .slice none 0 0] 31 (0, 0)) (pkb BK376) NB376_0.out (by simp)); have n3_ := mk0 (KeepBut.blk hk (g' := gb398) (o := .cells #[u399000, u399001] 31 (0, 0)) (pkb BK398) NB398_0.out (by simp)); have n4_ := mk0 (KeepBut.trans z11_1 hk (.inl rfl)); have n5_ := mk0 (hb); have n6_ := mk0 (hi); clear HO_399000 HO_399001 BK376 BK398 HK HB HI0; have HO_399000 := n0_; have HO_399001 := n1_; have BK376 := n2_; have BK398 := n3_; have HK := n4_; have HB := n5_; have HI0 := n6_; clear n0_ n1_ n2_ n3_ n4_ n5_ n6_; (try clear hb); (try clear hk); (try clear hi)) | ((with_reducible refine gate_dst (N := 38) rfl ?_); refine Kd.R_lit (Kd.int .i64) _ 3 ?hg (N := 38) ?hd (xs := ([2, 2, 2, 3, 4, 5, 1] : List Int)) (inner := [.int .i64 2, .int .i64 2, .int .i64 2, .int .i64 3, .int .i64 4, .int .i64 5, .int .i64 1]) (ok := fun _ => True) (okp := fun _ => True) ?hr ?hp (fun _ hk => hk) trivial (Below.refl _ _) (Nat.le_refl _) (by simp) ?_; (case hd => rfl); (case hg => rfl); (case hr => first | (go_simp; done) | (go_simp; rfl)); (case hp => exact (Reps.one (show Kd.M (Kd.int .i64) _ _ _ 2 [.int .i64 2] from rfl) (Reps.one (show Kd.M (Kd.int .i64) _ _ _ 2 [.int .i64 2] from rfl) (Reps.one (show Kd.M (Kd.int .i64) _ _ _ 2 [.int .i64 2] from rfl) (Reps.one (show Kd.M (Kd.int .i64) _ _ _ 3 [.int .i64 3] from rfl) (Reps.one (show Kd.M (Kd.int .i64) _ _ _ 4 [.int .i64 4] from rfl) (Reps.one (show Kd.M (Kd.int .i64) _ _ _ 5 [.int .i64 5] from rfl) (Reps.one (show Kd.M (Kd.int .i64) _ _ _ 1 [.int .i64 1] from rfl) (Reps.none _ _))))))))); intro v403 w31 ho32 hb hg_ hnew_; clear hg_ hnew_; (first | rw [← Ny402.out] at ho32 | (simp only [Int.reduceToNat] at ho32; rw [← Ny402.out] at ho32)); have n0_ := mk0 (Kd.R_elder' (pkR HO_399000) (Kd.R_base ho32) hb); have n1_ := mk0 (Kd.R_below (pkR HO_399001) hb); have n2_ := mk0 (Kd.R_lower (Kd.R_new' ho32 (Kd.R_lt (pkR HO_399000))) (keep_size (w := w) (g := g) (row := none) z11_1)); have n3_ := mk0 (blk_belowB BK376 (pkb BK376) hb); have n4_ := mk0 (blk_belowB BK398 (pkb BK398) hb); have n5_ := mk0 (IsS78.below z11_3 hb); have n6_ := mk0 (KeepBut.trans z11_1 (KeepBut.of_below hb g none) (.inl rfl)); have n7_ := mk0 (below_step z11_2 hb); clear HO_399000 HO_399001 BK376 BK398 HI0 HK HB; have HO_399000 := n0_; have HO_399001 := n1_; have HO404 := n2_; have BK376 := n3_; have BK398 := n4_; have HI0 := n5_; have HK := n6_; have HB := n7_; clear n0_ n1_ n2_ n3_ n4_ n5_ n6_ n7_ hb ho32; obtain ⟨Ao33, co33, eo33⟩ := Kd.R_slice HO404.out; subst eo33) | ((with_reducible refine gate_callee (f := 51) rfl ?_); refine goesL_ (some 39) rfl rfl Try.func51 (by kernel_rfl) rfl #[.pointer (some ⟨g, 0, none⟩), .slice Ao33 y402.length co33] rfl z11_5 ?_; (with_reducible refine (spec_l01PickInt.calls g s0_0 t400 t401 _ _ y402 t405 t406 t407 w0 _ ?side1 ?side2 ?side3 ?side4 ?side5 A28.out).mono ?_); (case side1 => exact z11_10); (case side2 => exact z11_9); (case side3 => repeat (first | exact (Kd.R_reads' HO404.out).2.2 | (with_reducible refine Kd.C_alloc ?_ _) | (with_reducible refine Kd.C_drewN ?_ _) | (with_reducible refine Kd.C_drew ?_))); (case side4 => exact (Kd.R_reads' HO404.out).2.1); (case side5 => exact far_slice (IsS78.own_ne HI0.out HO404.out (by decide))); rintro e w34 ⟨rfl, hi, hb, hk⟩; refine ⟨_, rfl, ?_⟩; have n0_ := mk0 (Kd.R_mono (Kd.R_keep (IsS78.apart (show IsS78 w0 _ g s0_0 t400 t401 from by repeat (first | (with_reducible first | exact HI0.out | apply IsS78.alloc | apply IsS78.drewN | apply IsS78.drew | apply IsS78.set_1 | apply IsS78.set_2 | apply IsS78.farB NB0_376.out | apply IsS78.farB NB0_398.out) | exact HI0.out)) (pkR HO_399000) (by decide)) hk (fun _ h => h.2)) (fun _ h => h.1)); have n1_ := mk0 (Kd.R_mono (Kd.R_keep (IsS78.apart (show IsS78 w0 _ g s0_0 t400 t401 from by repeat (first | (with_reducible first | exact HI0.out | apply IsS78.alloc | apply IsS78.drewN | apply IsS78.drew | apply IsS78.set_1 | apply IsS78.set_2 | apply IsS78.farB NB0_376.out | apply IsS78.farB NB0_398.out) | exact HI0.out)) (pkR HO_399001) (by decide)) hk (fun _ h => h.2)) (fun _ h => h.1)); have n2_ := mk0 (KeepBut.blk hk (g' := gb376) (o := .cells #[.slice none 0 0, .slice none 0 0] 31 (0, 0)) (pkb BK376) NB376_0.out (by simp)); have n3_ := mk0 (KeepBut.blk hk (g' := gb398) (o := .cells #[u399000, u399001] 31 (0, 0)) (pkb BK398) NB398_0.out (by simp)); have n4_ := mk0 (Kd.R_mono (Kd.R_keep (IsS78.apart (show IsS78 w0 _ g s0_0 t400 t401 from by repeat (first | (with_reducible first | exact HI0.out | apply IsS78.alloc | apply IsS78.drewN | apply IsS78.drew | apply IsS78.set_1 | apply IsS78.set_2 | apply IsS78.farB NB0_376.out | apply IsS78.farB NB0_398.out) | exact HI0.out)) (pkR HO404) (by decide)) hk (fun _ h => h.2)) (fun _ h => h.1)); have n5_ := mk0 (KeepBut.trans z11_1 hk (.inl rfl)); have n6_ := mk0 (hb); have n7_ := mk0 (hi); clear HO_399000 HO_399001 BK376 BK398 HO404 HK HB HI0; have HO_399000 := n0_; have HO_399001 := n1_; have BK376 := n2_; have BK398 := n3_; have HO404 := n4_; have HK := n5_; have HB := n6_; have HI0 := n7_; clear n0_ n1_ n2_ n3_ n4_ n5_ n6_ n7_; (try clear hb); (try clear hk); (try clear hi)))
   (try simp only [Act.put, List.setIfInBounds_toArray, List.set_cons_zero, List.set_cons_succ])
   go_cut [50] (fun v50 wc => ∃ (kq : Nat) (x50_28 : Bool), v50 = .bool x50_28 ∧ Aside0 (spec_l06Path.j1 kq x6_1 t405 x50_28 s0_0 t406 t407 x399000_1 x399001_1 = some (r1, r2, r3, r4)) ∧ Aside0 (kq ≤ k1) ∧ Aside0 (Kd.R (Kd.int .i64) 3 wc w.heap.size (fun _ => True) u399000 x399000_1) ∧ Aside0 (Kd.R k46 46 wc w.heap.size (fun _ => True) u399001 x399001_1) ∧ Aside0 (wc.heap[gb376]? = some (.cells #[(.slice none 0 0), (.slice none 0 0)] 31 (0, 0))) ∧ Aside0 (wc.heap[gb398]? = some (.cells #[u399000, u399001] 31 (0, 0))) ∧ Aside0 (IsS78 w0 wc g s0_0 t406 t407) ∧ Aside0 (KeepBut w wc g none) ∧ Aside0 (Below w0.heap.size w0 wc))
   case first =>
    have H := HC29.out; clear HC29
    by_cases c35 : x6_1 = 0
    ·rw [if_pos c35] at H
     have c35b0 : (x6_1 == 0) = true := beq_iff_eq.mpr c35
     have c35b1 : (x6_1 != 0) = false := bne_eq_false_iff_eq.mpr c35
     clear c35
     (first | rw [c35b0] | (simp only [i64_w, i32_w]; rw [c35b0]) | skip)
     have H' := mk0 H
     clear H
     go_wp2
     go_meet
     case rel => exact ⟨_, (true), rs0, H', ⟨(by have := HK1.out; first | omega | exact Nat.le_refl _)⟩, ⟨z11_20⟩, ⟨pkR HO_399001⟩, ⟨pkb BK376⟩, ⟨pkb BK398⟩, ⟨z11_3⟩, ⟨z11_1⟩, ⟨z11_2⟩⟩
    rw [if_neg c35] at H
    have c35b0 : (x6_1 == 0) = false := beq_eq_false_iff_ne.mpr c35
    have c35b1 : (x6_1 != 0) = true := bne_iff_ne.mpr c35
    (first | rw [c35b0] | (simp only [i64_w, i32_w]; rw [c35b0]) | skip)
    obtain ⟨ji36, hji36⟩ : ∃ j_ : Int, (wrap64 (x6_1 - 1)) = j_ := ⟨_, rfl⟩
    replace H : (if 0 ≤ (ji36) then (if (ji36) < (x399000_1.length : Int) then (spec_l06Path.j1 k1 x6_1 t405 ((rd x399000_1 (ji36)) == 5) s0_0 t406 t407 x399000_1 x399001_1) else (none)) else (none)) = some (r1, r2, r3, r4) := by first | (rw [hji36] at H; exact H) | (simp only [hji36] at H ⊢; exact H)
    have hji36w : (IntKind.i64.wrap (x6_1 - 1)) = ji36 := (i64_w _).trans hji36
    by_cases c37 : 0 ≤ (ji36)
    rotate_left
    ·rw [if_neg c37] at H
     exact absurd H (by simp)
    rw [if_pos c37] at H
    have c37b0 := decide_eq_true c37
    clear c37
    by_cases c38 : (ji36) < (x399000_1.length : Int)
    rotate_left
    ·rw [if_neg c38] at H
     exact absurd H (by simp)
    rw [if_pos c38] at H
    have c38b0 := decide_eq_true c38
    clear c38
    have H' := mk0 H
    clear H; have hnb39 := NB398_376.out; have hnc39 := NB376_398.out; have hnb40 := NB398_0.out; have hnc40 := NB0_398.out
    obtain ⟨_, _, _, _⟩ := be_2 BK398.out
    obtain ⟨Ao42, co42, eo42⟩ := Kd.R_slice HO_399000.out
    subst eo42
    have p408 : 0 ≤ ((ji36) : Int) := of_decide_eq_true (by first | (with_reducible assumption) | assumption)
    have q408 : (ji36) < (x399000_1.length : Int) := of_decide_eq_true (by first | (with_reducible assumption) | assumption)
    obtain ⟨ad408, e408, hx408_0⟩ := Kd.at_int (Kd.R_reads' HO_399000.out).2.2 (ji36) p408 q408
    cases e408
    replace p408 := eq_true p408
    replace q408 := eq_true q408
    go_wp2
    go_meet
    case rel => exact ⟨_, (((rd x399000_1 (ji36)) == 5)), (by first | rfl | (simp; done) | (simp only [← hji36] <;> (first | rfl | simp)) | (simp [*]; done)), H', ⟨(by have := HK1.out; first | omega | exact Nat.le_refl _)⟩, ⟨z11_20⟩, ⟨pkR HO_399001⟩, ⟨pkb BK376⟩, ⟨pkb BK398⟩, ⟨z11_3⟩, ⟨z11_1⟩, ⟨z11_2⟩⟩
   case rest =>
    clear HC29; try clear c1
    try clear c2
    try clear p2
    try clear c3
    try clear c4
    try clear p4
    try clear q4
    try clear hx4
    try clear c5
    try clear p6
    try clear c17
    try clear c23
    try clear c24
    try clear c27
    try clear c27b0
    try clear c35
    try clear c35b0
    try clear c35b1
    try clear c37
    try clear c37b0
    try clear c38
    try clear c38b0
    try clear c39
    try clear c40
    try clear p40
    try clear q40
    try clear hx40
    try clear hcz18_0
    try clear hcz18_1
    try clear hcz25_0
    try clear hcz25_1
    try clear hcz41_0
    try clear hcz41_1
    try clear hfz18_0
    try clear hfz18_1
    try clear hfz25_0
    try clear hfz25_1
    try clear hfz41_0
    try clear hfz41_1
    try clear hx408_0
    try clear p2
    try clear p408
    try clear p6
    try clear q408
    obtain ⟨kq, x50_28, rfl, HA, HJ28, HO_399000, HO_399001, BK376, BK398, HI0, HK, HB⟩ := hcut
    cases kq with
    | zero => exact absurd HA.out (by simp [spec_l06Path.j1])
    | succ kj28 =>
     have H := HA.out; clear HA
     simp only [spec_l06Path.j1] at H
     have HC43 := mk0 H
     clear H
     go_upto_if 50 with (fail)
     go_cut [7] (fun v7 wc => ∃ (kq : Nat) (x7_42 : Int), v7 = .int .i64 x7_42 ∧ Aside0 (spec_l06Path.j2 kq x6_1 x7_42 s0_0 t406 t407 x399000_1 x399001_1 = some (r1, r2, r3, r4)) ∧ Aside0 (kq ≤ kj28) ∧ Aside0 (Kd.R (Kd.int .i64) 3 wc w.heap.size (fun _ => True) u399000 x399000_1) ∧ Aside0 (Kd.R k46 46 wc w.heap.size (fun _ => True) u399001 x399001_1) ∧ Aside0 (wc.heap[gb376]? = some (.cells #[(.slice none 0 0), (.slice none 0 0)] 31 (0, 0))) ∧ Aside0 (wc.heap[gb398]? = some (.cells #[u399000, u399001] 31 (0, 0))) ∧ Aside0 (IsS78 w0 wc g s0_0 t406 t407) ∧ Aside0 (KeepBut w wc g none) ∧ Aside0 (Below w0.heap.size w0 wc))
     case first =>
      have H := HC43.out; clear HC43
      by_cases c44 : x50_28 = true
      ·subst c44
       rw [if_pos rfl] at H
       have H' := mk0 H
       clear H
       go_wp2
       go_meet
       case rel => exact ⟨_, (1), rs0, H', ⟨(by have := HK1.out; have := HJ28.out; first | omega | exact Nat.le_refl _)⟩, ⟨pkR HO_399000⟩, ⟨pkR HO_399001⟩, ⟨pkb BK376⟩, ⟨pkb BK398⟩, ⟨z11_3⟩, ⟨z11_1⟩, ⟨z11_2⟩⟩
      replace c44 := Bool.eq_false_iff.mpr c44
      subst c44
      rw [if_neg (show ¬ (false = true) by decide)] at H
      have H' := mk0 H
      clear H
      go_wp2
      go_meet
      case rel => exact ⟨_, (t405), rs0, H', ⟨(by have := HK1.out; have := HJ28.out; first | omega | exact Nat.le_refl _)⟩, ⟨pkR HO_399000⟩, ⟨pkR HO_399001⟩, ⟨pkb BK376⟩, ⟨pkb BK398⟩, ⟨z11_3⟩, ⟨z11_1⟩, ⟨z11_2⟩⟩
     case rest =>
      clear HC43; try clear c1
      try clear c2
      try clear p2
      try clear c3
      try clear c4
      try clear p4
      try clear q4
      try clear hx4
      try clear c5
      try clear p6
      try clear c17
      try clear c23
      try clear c24
      try clear c27
      try clear c27b0
      try clear c35
      try clear c35b0
      try clear c35b1
      try clear c37
      try clear c37b0
      try clear c38
      try clear c38b0
      try clear c39
      try clear c40
      try clear p40
      try clear q40
      try clear hx40
      try clear c44
      try clear hcz18_0
      try clear hcz18_1
      try clear hcz25_0
      try clear hcz25_1
      try clear hcz41_0
      try clear hcz41_1
      try clear hfz18_0
      try clear hfz18_1
      try clear hfz25_0
      try clear hfz25_1
      try clear hfz41_0
      try clear hfz41_1
      try clear hx408_0
      try clear p2
      try clear p4
      try clear p40
      try clear p408
      try clear p6
      try clear q4
      try clear q40
      try clear q408
      obtain ⟨kq, x7_42, rfl, HA, HJ42, HO_399000, HO_399001, BK376, BK398, HI0, HK, HB⟩ := hcut
      cases kq with
      | zero => exact absurd HA.out (by simp [spec_l06Path.j2])
      | succ kj42 =>
       have H := HA.out; clear HA
       simp only [spec_l06Path.j2] at H
       replace H := Option.bind_eq_some_iff.mp H
       obtain ⟨t409, A450, H⟩ := H
       try dsimp only at H
       have A45 := mk0 A450
       clear A450
       by_cases c46 : (wrap64 ((x399001_1.length : Int) + t409)) > 24
       ·rw [if_pos c46] at H
        have c46b0 := decide_eq_true c46
        clear c46
        simp only [Option.some.injEq, Prod.mk.injEq] at H
        obtain ⟨rfl, rfl, rfl, rfl⟩ := H
        try go_wp2
        have n0_ := mk0 (Kd.R_drew HO_399000.out)
        have n1_ := mk0 (Kd.R_drew HO_399001.out)
        have n2_ := mk0 (blk_drew BK376.out)
        have n3_ := mk0 (blk_drew BK398.out)
        have n4_ := mk0 (IsS78.drew HI0.out)
        have n5_ := mk0 (keep_drew HK.out)
        have n6_ := mk0 (below_drew1 HB.out)
        clear HO_399000 HO_399001 BK376 BK398 HI0 HK HB; have HO_399000 := n0_; have HO_399001 := n1_; have BK376 := n2_; have BK398 := n3_; have HI0 := n4_; have HK := n5_; have HB := n6_; clear n0_ n1_ n2_ n3_ n4_ n5_ n6_
        obtain ⟨Ao48, co48, eo48⟩ := Kd.R_slice HO_399001.out
        (first | subst eo48 | (injection eo48 with f1_ f2_ f3_; have f4_ := f1_.symm; have f5_ := f3_.symm; clear f1_ f2_ f3_; subst f4_; subst f5_))
        refine start_ (n := 7) (S := fun w' => w'.cell? ⟨gb398, 0, none⟩ = some (u399000) ∧ w'.cell? ⟨gb398, 1, none⟩ = some (.slice Ao48 x399001_1.length co48)) (ds := []) #[false, false, false, false, false, false, false] (by kernel_rfl) rfl rfl ⟨(blk_cell BK398.out 0).trans rfl, (blk_cell BK398.out 1).trans rfl⟩ (fun hHeld => ?_)
        generalize wc.drew = w47 at HO_399000 HO_399001 BK376 BK398 HI0 HK HB hHeld ⊢
        refine pure_ (i := 0) (N := some 51) (v := ?_) (a' := ?_) (bA 7 1) rfl rfl (by kernel_rfl) (fun _ _ _ h => h) (Or.inl ⟨by rfl, ?_⟩) ?_ ?_; rotate_left
        ·intro w'
         go_simp; with_reducible rfl
        rotate_left
        ·exact x11_put
        refine pure_ (i := 3) (N := some 54) (v := ?_) (a' := ?_) (bA 7 9) rfl rfl (by kernel_rfl) (fun _ _ _ h => h) (Or.inl ⟨by rfl, ?_⟩) ?_ ?_; rotate_left
        ·intro w'
         go_simp; with_reducible rfl
        rotate_left
        ·exact x11_put
        refine take_ (i := 1) (N := some 52) (v := ?_) (a' := ?_) (bA 7 11) rfl rfl (by kernel_rfl) (fun _ _ _ h => h) (Or.inl ⟨by rfl, ?_⟩) hHeld ?_ ?_
        rotate_left
        ·rintro w' ⟨s0, s1⟩
         go_simp; with_reducible rfl
        rotate_left
        ·exact x11_put
        refine pure_ (i := 2) (N := some 53) (v := ?_) (a' := ?_) (bA 7 15) rfl rfl (by kernel_rfl) (fun _ _ _ h => h) (Or.inl ⟨by rfl, ?_⟩) ?_ ?_; rotate_left
        ·intro w'
         go_simp; with_reducible rfl
        rotate_left
        ·exact x11_put
        refine one_ (i := 4) (N := some 55) (bA 7 31) rfl rfl (by kernel_rfl) (by decide) (fun K hK => ?_)
        refine goes_ Try.func24 (by kernel_rfl) rfl #[.int .i64 x7_42] (by rfl) rfl rfl z11_5 ?_
        with_reducible refine (spec_NeedOf.calls x7_42 t409 _ A45.out).mono ?_
        rintro e w49 ⟨rfl, hb⟩
        refine ⟨_, rfl, ?_⟩
        have n0_ := mk0 (Kd.R_below (pkR HO_399000) hb)
        have n1_ := mk0 (Kd.R_below (pkR HO_399001) hb)
        have n2_ := mk0 (blk_belowB BK376 (pkb BK376) hb)
        have n3_ := mk0 (blk_belowB BK398 (pkb BK398) hb)
        have n4_ := mk0 (IsS78.below z11_3 hb)
        have n5_ := mk0 (KeepBut.trans z11_1 (KeepBut.of_below hb g none) (.inl rfl))
        have n6_ := mk0 (below_step z11_2 hb)
        clear HO_399000 HO_399001 BK376 BK398 HI0 HK HB; have HO_399000 := n0_; have HO_399001 := n1_; have BK376 := n2_; have BK398 := n3_; have HI0 := n4_; have HK := n5_; have HB := n6_; clear n0_ n1_ n2_ n3_ n4_ n5_ n6_; (try clear hb); (try clear hb2); (try clear hk); (try clear hi)
        refine hK.out _ _ ⟨(blk_cell BK398.out 0).trans rfl, (blk_cell BK398.out 1).trans rfl⟩ (fun hHeld => ?_)
        clear hK K
        refine norm_ (a' := ?_) ?_ ?_
        rotate_left
        ·show Act.put _ (some 55) _ = _
         simp only [Act.put, List.setIfInBounds_toArray, List.set_cons_zero, List.set_cons_succ, i64_w, i32_w]
         rfl
        refine pure_ (i := 5) (N := some 56) (v := ?_) (a' := ?_) (bA 7 63) rfl rfl (by kernel_rfl) (fun _ _ _ h => h) (Or.inl ⟨by rfl, ?_⟩) ?_ ?_; rotate_left
        ·intro w'
         go_simp; with_reducible rfl
        rotate_left
        ·exact x11_put
        refine pure_ (i := 6) (N := some 57) (v := ?_) (a' := ?_) (bA 7 127) rfl rfl (by kernel_rfl) (fun _ _ _ h => h) (Or.inl ⟨by rfl, ?_⟩) ?_ ?_; rotate_left
        ·intro w'
         go_simp; with_reducible rfl
        rotate_left
        ·exact x11_put
        refine done_ (by kernel_rfl) ?_
        have hnb50 := NB398_376.out; have hnc50 := NB376_398.out; have hnb51 := NB398_0.out; have hnc51 := NB0_398.out
        obtain ⟨_, _, _, _⟩ := be_2 BK398.out
        obtain ⟨Ao53, co53, eo53⟩ := Kd.R_slice HO_399000.out
        subst eo53; have hnb54 := NB376_0.out; have hnc54 := NB0_376.out
        obtain ⟨_, _, _, _⟩ := be_2 BK376.out
        try go_wp2
        refine bodyPost_ret (results_cell_row rfl _ _ gb376 31 #[.slice Ao53 x399000_1.length co53, .slice Ao48 x399001_1.length co48] (0, 0) _ rfl z11_12 Try.underlying31 rfl (by kernel_rfl)) rfl ?_
        exact ⟨_, _, z11_16, (by (with_reducible repeat (first | apply Kd.R_alloc | apply Kd.R_drewN | apply Kd.R_drew)); exact Kd.R_mono (Kd.R_far (p := ⟨gb376, 1, none⟩) (Kd.R_far (p := ⟨gb376, 0, none⟩) (Kd.R_types HO_399000.out BK376.out (by decide)) (fun _ hk => hk.2) (.slice Ao53 x399000_1.length co53)) (fun _ hk => hk.2) (.slice Ao48 x399001_1.length co48)) (fun _ hk => trivial)), (by (with_reducible repeat (first | apply Kd.R_alloc | apply Kd.R_drewN | apply Kd.R_drew)); exact Kd.R_mono (Kd.R_far (p := ⟨gb376, 1, none⟩) (Kd.R_far (p := ⟨gb376, 0, none⟩) (Kd.R_types HO_399001.out BK376.out (by decide)) (fun _ hk => hk.2) (.slice Ao53 x399000_1.length co53)) (fun _ hk => hk.2) (.slice Ao48 x399001_1.length co48)) (fun _ hk => trivial)), z11_3, z11_2, z11_1⟩
       rw [if_neg c46] at H
       have c46b0 := decide_eq_false c46
       clear c46
       by_cases c56 : x399000_1.length < 17592186044416
       rotate_left
       ·rw [if_neg c56] at H
        exact absurd H (by simp)
       rw [if_pos c56] at H
       have LMc56 := mk0 c56
       clear c56
       obtain ⟨y410, hy_⟩ : ∃ y_ : List Int, y_ = (x399000_1 ++ [x7_42]) := ⟨_, rfl⟩
       replace H : (spec_l06Path.l1 kj42 x6_1 x7_42 0 s0_0 t406 t407 y410 x399001_1) = some (r1, r2, r3, r4) := z11_11
       have Ny410 := mk0 hy_
       clear hy_
       have H' := mk0 H
       clear H
       try go_wp2
       have n0_ := mk0 (Kd.R_drew HO_399000.out)
       have n1_ := mk0 (Kd.R_drew HO_399001.out)
       have n2_ := mk0 (blk_drew BK376.out)
       have n3_ := mk0 (blk_drew BK398.out)
       have n4_ := mk0 (IsS78.drew HI0.out)
       have n5_ := mk0 (keep_drew HK.out)
       have n6_ := mk0 (below_drew1 HB.out)
       clear HO_399000 HO_399001 BK376 BK398 HI0 HK HB; have HO_399000 := n0_; have HO_399001 := n1_; have BK376 := n2_; have BK398 := n3_; have HI0 := n4_; have HK := n5_; have HB := n6_; clear n0_ n1_ n2_ n3_ n4_ n5_ n6_
       obtain ⟨Ao58, co58, eo58⟩ := Kd.R_slice HO_399001.out
       (first | subst eo58 | (injection eo58 with f1_ f2_ f3_; have f4_ := f1_.symm; have f5_ := f3_.symm; clear f1_ f2_ f3_; subst f4_; subst f5_))
       refine start_ (n := 7) (S := fun w' => w'.cell? ⟨gb398, 0, none⟩ = some (u399000) ∧ w'.cell? ⟨gb398, 1, none⟩ = some (.slice Ao58 x399001_1.length co58)) (ds := []) #[false, false, false, false, false, false, false] (by kernel_rfl) rfl rfl ⟨(blk_cell BK398.out 0).trans rfl, (blk_cell BK398.out 1).trans rfl⟩ (fun hHeld => ?_)
       generalize wc.drew = w57 at HO_399000 HO_399001 BK376 BK398 HI0 HK HB hHeld ⊢
       refine pure_ (i := 0) (N := some 51) (v := ?_) (a' := ?_) (bA 7 1) rfl rfl (by kernel_rfl) (fun _ _ _ h => h) (Or.inl ⟨by rfl, ?_⟩) ?_ ?_; rotate_left
       ·intro w'
        go_simp; with_reducible rfl
       rotate_left
       ·exact x11_put
       refine pure_ (i := 3) (N := some 54) (v := ?_) (a' := ?_) (bA 7 9) rfl rfl (by kernel_rfl) (fun _ _ _ h => h) (Or.inl ⟨by rfl, ?_⟩) ?_ ?_; rotate_left
       ·intro w'
        go_simp; with_reducible rfl
       rotate_left
       ·exact x11_put
       refine take_ (i := 1) (N := some 52) (v := ?_) (a' := ?_) (bA 7 11) rfl rfl (by kernel_rfl) (fun _ _ _ h => h) (Or.inl ⟨by rfl, ?_⟩) hHeld ?_ ?_
       rotate_left
       ·rintro w' ⟨s0, s1⟩
        go_simp; with_reducible rfl
       rotate_left
       ·exact x11_put
       refine pure_ (i := 2) (N := some 53) (v := ?_) (a' := ?_) (bA 7 15) rfl rfl (by kernel_rfl) (fun _ _ _ h => h) (Or.inl ⟨by rfl, ?_⟩) ?_ ?_; rotate_left
       ·intro w'
        go_simp; with_reducible rfl
       rotate_left
       ·exact x11_put
       refine one_ (i := 4) (N := some 55) (bA 7 31) rfl rfl (by kernel_rfl) (by decide) (fun K hK => ?_)
       refine goes_ Try.func24 (by kernel_rfl) rfl #[.int .i64 x7_42] (by rfl) rfl rfl z11_5 ?_
       with_reducible refine (spec_NeedOf.calls x7_42 t409 _ A45.out).mono ?_
       rintro e w59 ⟨rfl, hb⟩
       refine ⟨_, rfl, ?_⟩
       have n0_ := mk0 (Kd.R_below (pkR HO_399000) hb)
       have n1_ := mk0 (Kd.R_below (pkR HO_399001) hb)
       have n2_ := mk0 (blk_belowB BK376 (pkb BK376) hb)
       have n3_ := mk0 (blk_belowB BK398 (pkb BK398) hb)
       have n4_ := mk0 (IsS78.below z11_3 hb)
       have n5_ := mk0 (KeepBut.trans z11_1 (KeepBut.of_below hb g none) (.inl rfl))
       have n6_ := mk0 (below_step z11_2 hb)
       clear HO_399000 HO_399001 BK376 BK398 HI0 HK HB; have HO_399000 := n0_; have HO_399001 := n1_; have BK376 := n2_; have BK398 := n3_; have HI0 := n4_; have HK := n5_; have HB := n6_; clear n0_ n1_ n2_ n3_ n4_ n5_ n6_; (try clear hb); (try clear hb2); (try clear hk); (try clear hi)
       refine hK.out _ _ ⟨(blk_cell BK398.out 0).trans rfl, (blk_cell BK398.out 1).trans rfl⟩ (fun hHeld => ?_)
       clear hK K
       refine norm_ (a' := ?_) ?_ ?_
       rotate_left
       ·show Act.put _ (some 55) _ = _
        simp only [Act.put, List.setIfInBounds_toArray, List.set_cons_zero, List.set_cons_succ, i64_w, i32_w]
        rfl
       refine pure_ (i := 5) (N := some 56) (v := ?_) (a' := ?_) (bA 7 63) rfl rfl (by kernel_rfl) (fun _ _ _ h => h) (Or.inl ⟨by rfl, ?_⟩) ?_ ?_; rotate_left
       ·intro w'
        go_simp; with_reducible rfl
       rotate_left
       ·exact x11_put
       refine pure_ (i := 6) (N := some 57) (v := ?_) (a' := ?_) (bA 7 127) rfl rfl (by kernel_rfl) (fun _ _ _ h => h) (Or.inl ⟨by rfl, ?_⟩) ?_ ?_; rotate_left
       ·intro w'
        go_simp; with_reducible rfl
       rotate_left
       ·exact x11_put
       refine done_ (by kernel_rfl) ?_
       have hnb60 := NB398_376.out; have hnc60 := NB376_398.out; have hnb61 := NB398_0.out; have hnc61 := NB0_398.out
       obtain ⟨_, _, _, _⟩ := be_2 BK398.out
       try go_wp2_with (first | ((with_reducible refine gate_builtin (b := .append) (xs := #[.tmp 60, .tmp 62]) rfl ?_); at_builtin; refine Kd.R_append (Kd.int .i64) w.heap.size rfl (.tmp 60) (.tmp 62) 22 3 (.int .i64 0) 8 rfl Try.underlying22 info3 rfl (by decide) (by omega) u399000 x399000_1 x7_42 [.int .i64 x7_42] (fun _ => True) (fun _ => False) rfl rfl ?aP (fun _ hk => hk.elim) ?aF ?aO (Below.refl _ _) ?aS ?aL ?_; (case aP => exact rfl); (case aF => exact (fun _ _ => trivial)); (case aO => exact (pkR HO_399000)); (case aS => exact (keep_size (w := w) (g := g) (row := none) z11_1)); (case aL => have := LMc56.out; omega); intro v411 w63 ho hb hg hat; rw [← Ny410.out] at ho; have n0_ := mk0 (Kd.R_over' (pkR HO_399001) (Kd.R_typed (pkR HO_399000)) (by decide) hg); have n1_ := mk0 (blk_grown (g := gb376) (o := .cells #[.slice none 0 0, .slice none 0 0] 31 (0, 0)) (pkb BK376) hg (Kd.R_ne HO_399000.out BK376.out (by decide))); have n2_ := mk0 (blk_grown (g := gb398) (o := .cells #[u399000, .slice Ao58 x399001_1.length co58] 31 (0, 0)) (pkb BK398) hg (Kd.R_ne HO_399000.out BK398.out (by decide))); have n3_ := mk0 (IsS78.grown z11_3 hg (IsS78.own_ne HI0.out HO_399000.out (by decide))); have n4_ := mk0 (below_weaken z11_2 HL.out hb); have n5_ := mk0 (KeepBut.trans z11_1 (KeepBut.of_grown hg g) (Kd.R_base2 HO_399000.out)); have n6_ := mk0 (ho); clear HO_399001 BK376 BK398 HI0 HB HK HO_399000; have HO_399001 := n0_; have BK376 := n1_; have BK398 := n2_; have HI0 := n3_; have HB := n4_; have HK := n5_; have HO412 := n6_; clear n0_ n1_ n2_ n3_ n4_ n5_ n6_ ho hb hg hat; obtain ⟨Ao64, co64, eo64⟩ := Kd.R_slice HO412.out; subst eo64; obtain ⟨_, _, _, _⟩ := be_2 BK398.out))
       go_loopg [8] kj42 (fun kq v8 w' => ∃ (x8_4 : Int) (x1001_4 : Int) (x1002_4 : Int) (x399001_4 : List (S46)) (u399001 : Value), v8 = .int .i64 x8_4 ∧ Aside0 (spec_l06Path.l1 kq x6_1 x7_42 x8_4 s0_0 x1001_4 x1002_4 y410 x399001_4 = some (r1, r2, r3, r4)) ∧ Aside0 (kq ≤ kj42) ∧ Aside0 (Kd.R (Kd.int .i64) 3 w' w.heap.size (fun _ => True) (.slice Ao64 y410.length co64) y410) ∧ Aside0 (Kd.R k46 46 w' w.heap.size (fun _ => True) u399001 x399001_4) ∧ Aside0 (w'.heap[gb376]? = some (.cells #[(.slice none 0 0), (.slice none 0 0)] 31 (0, 0))) ∧ Aside0 (w'.heap[gb398]? = some (.cells #[(.slice Ao64 y410.length co64), u399001] 31 (0, 0))) ∧ Aside0 (IsS78 w0 w' g s0_0 x1001_4 x1002_4) ∧ Aside0 (KeepBut w w' g none) ∧ Aside0 (Below w0.heap.size w0 w'))
       case atStart => exact ⟨(0), (t406), (t407), (x399001_1), (.slice Ao58 x399001_1.length co58), rs0, H', ⟨Nat.le_refl _⟩, ⟨(by (with_reducible repeat (first | apply Kd.R_alloc | apply Kd.R_drewN | apply Kd.R_drew)); exact Kd.R_mono (Kd.R_far (p := ⟨gb398, 0, none⟩) (Kd.R_types HO412.out BK398.out (by decide)) (fun _ hk => hk.2) (.slice Ao64 y410.length co64)) (fun _ hk => trivial))⟩, ⟨(by (with_reducible repeat (first | apply Kd.R_alloc | apply Kd.R_drewN | apply Kd.R_drew)); exact Kd.R_mono (Kd.R_far (p := ⟨gb398, 0, none⟩) (Kd.R_types HO_399001.out BK398.out (by decide)) (fun _ hk => hk.2) (.slice Ao64 y410.length co64)) (fun _ hk => trivial))⟩, ⟨z11_15⟩, ⟨(by (with_reducible repeat (first | refine blk_drewN ?_ _ | refine blk_drew ?_ | refine blk_alloc ?_ _)); refine blk_put (cs := #[u399000, .slice Ao58 x399001_1.length co58]) ?_ 0 _ rfl; (with_reducible repeat (first | refine blk_drewN ?_ _ | refine blk_drew ?_ | refine blk_alloc ?_ _)); exact BK398.out)⟩, ⟨z11_3⟩, ⟨z11_1⟩, ⟨z11_2⟩⟩
       case round =>
        clear H'
        try clear c1
        try clear c2
        try clear p2
        try clear c3
        try clear c4
        try clear p4
        try clear q4
        try clear hx4
        try clear c5
        try clear c6
        try clear p6
        try clear c17
        try clear c23
        try clear c24
        try clear c27
        try clear c27b0
        try clear c35
        try clear c35b0
        try clear c35b1
        try clear c37
        try clear c37b0
        try clear c38
        try clear c38b0
        try clear c39
        try clear c40
        try clear p40
        try clear q40
        try clear hx40
        try clear c44
        try clear c46
        try clear c46b0
        try clear c48
        try clear c49
        try clear c50
        try clear c51
        try clear c54
        try clear c56
        try clear c60
        try clear c61
        try clear p64
        try clear hcz18_0
        try clear hcz18_1
        try clear hcz25_0
        try clear hcz25_1
        try clear hcz41_0
        try clear hcz41_1
        try clear hcz52_0
        try clear hcz52_1
        try clear hcz55_0
        try clear hcz55_1
        try clear hcz62_0
        try clear hcz62_1
        try clear hcz65_0
        try clear hcz65_1
        try clear hfz18_0
        try clear hfz18_1
        try clear hfz25_0
        try clear hfz25_1
        try clear hfz41_0
        try clear hfz41_1
        try clear hfz52_0
        try clear hfz52_1
        try clear hfz55_0
        try clear hfz55_1
        try clear hfz62_0
        try clear hfz62_1
        try clear hfz65_0
        try clear hfz65_1
        try clear hx408_0
        try clear p2
        try clear p4
        try clear p40
        try clear p408
        try clear p6
        try clear q4
        try clear q40
        try clear q408
        obtain ⟨x8_4, x1001_4, x1002_4, x399001_4, u399001, rfl, HA, HK4, HO_399000, HO_399001, BK376, BK398, HI0, HK, HB⟩ := hrel
        cases gk with
        | zero => exact absurd HA.out (by simp [spec_l06Path.l1])
        | succ k4 =>
         have H := HA.out; clear HA
         simp only [spec_l06Path.l1] at H
         replace H := Option.bind_eq_some_iff.mp H
         obtain ⟨t413, A660, H⟩ := H
         try dsimp only at H
         have A66 := mk0 A660
         clear A660
         by_cases c67 : x8_4 < t413
         rotate_left
         ·rw [if_neg c67] at H
          have c67b0 := decide_eq_false c67
          clear c67
          have H' := mk0 H
          clear H
          go_wp2_with (first | ((with_reducible refine gate_callee (f := 24) rfl ?_); refine goesL_ (some 67) rfl rfl Try.func24 (by kernel_rfl) rfl #[.int .i64 x7_42] rfl z11_5 ?_; (with_reducible refine (spec_NeedOf.calls x7_42 t413 _ A66.out).mono ?_); rintro e w76 ⟨rfl, hb⟩; refine ⟨_, rfl, ?_⟩; have n0_ := mk0 (Kd.R_below (pkR HO_399000) hb); have n1_ := mk0 (Kd.R_below (pkR HO_399001) hb); have n2_ := mk0 (blk_belowB BK376 (pkb BK376) hb); have n3_ := mk0 (blk_belowB BK398 (pkb BK398) hb); have n4_ := mk0 (IsS78.below z11_3 hb); have n5_ := mk0 (KeepBut.trans z11_1 (KeepBut.of_below hb g none) (.inl rfl)); have n6_ := mk0 (below_step z11_2 hb); clear HO_399000 HO_399001 BK376 BK398 HI0 HK HB; have HO_399000 := n0_; have HO_399001 := n1_; have BK376 := n2_; have BK398 := n3_; have HI0 := n4_; have HK := n5_; have HB := n6_; clear n0_ n1_ n2_ n3_ n4_ n5_ n6_; (try clear hb)))
          go_roundg k4
          case measure => have := HK1.out; have := HJ28.out; have := HJ42.out; have := HK4.out; omega
          case rel => exact ⟨(wrap64 (x6_1 + 1)), (x1001_4), (x1002_4), (y410), (x399001_4), (.slice Ao64 y410.length co64), (u399001), rs0, H', ⟨(by have := HK1.out; have := HJ28.out; have := HJ42.out; have := HK4.out; omega)⟩, ⟨pkR HO_399000⟩, ⟨pkR HO_399001⟩, ⟨pkb BK376⟩, ⟨pkb BK398⟩, ⟨z11_3⟩, ⟨z11_1⟩, ⟨z11_2⟩⟩
         rw [if_pos c67] at H
         have c67b0 := decide_eq_true c67
         clear c67
         replace H := Option.bind_eq_some_iff.mp H
         obtain ⟨⟨t414, t415, t416, t417⟩, A680, H⟩ := H
         try dsimp only at H
         have A68 := mk0 A680
         clear A680
         by_cases c69 : x399001_4.length < 8796093022208
         rotate_left
         ·rw [if_neg c69] at H
          exact absurd H (by simp)
         rw [if_pos c69] at H
         have LMc69 := mk0 c69
         clear c69
         obtain ⟨y418, hy_⟩ : ∃ y_ : List (S46), y_ = (x399001_4 ++ [(⟨t414, t415⟩ : S46)]) := ⟨_, rfl⟩
         replace H : (spec_l06Path.l1 k4 x6_1 x7_42 (wrap64 (x8_4 + 1)) s0_0 t416 t417 y410 y418) = some (r1, r2, r3, r4) := z11_11
         have Ny418 := mk0 hy_
         clear hy_
         have H' := mk0 H
         clear H
         try go_wp2_with (first | ((with_reducible refine gate_callee (f := 24) rfl ?_); refine goesL_ (some 67) rfl rfl Try.func24 (by kernel_rfl) rfl #[.int .i64 x7_42] rfl z11_5 ?_; (with_reducible refine (spec_NeedOf.calls x7_42 t413 _ A66.out).mono ?_); rintro e w70 ⟨rfl, hb⟩; refine ⟨_, rfl, ?_⟩; have n0_ := mk0 (Kd.R_below (pkR HO_399000) hb); have n1_ := mk0 (Kd.R_below (pkR HO_399001) hb); have n2_ := mk0 (blk_belowB BK376 (pkb BK376) hb); have n3_ := mk0 (blk_belowB BK398 (pkb BK398) hb); have n4_ := mk0 (IsS78.below z11_3 hb); have n5_ := mk0 (KeepBut.trans z11_1 (KeepBut.of_below hb g none) (.inl rfl)); have n6_ := mk0 (below_step z11_2 hb); clear HO_399000 HO_399001 BK376 BK398 HI0 HK HB; have HO_399000 := n0_; have HO_399001 := n1_; have BK376 := n2_; have BK398 := n3_; have HI0 := n4_; have HK := n5_; have HB := n6_; clear n0_ n1_ n2_ n3_ n4_ n5_ n6_; (try clear hb)))
         have n0_ := mk0 (Kd.R_drew HO_399000.out)
         have n1_ := mk0 (Kd.R_drew HO_399001.out)
         have n2_ := mk0 (blk_drew BK376.out)
         have n3_ := mk0 (blk_drew BK398.out)
         have n4_ := mk0 (IsS78.drew HI0.out)
         have n5_ := mk0 (keep_drew HK.out)
         have n6_ := mk0 (below_drew1 HB.out)
         clear HO_399000 HO_399001 BK376 BK398 HI0 HK HB; have HO_399000 := n0_; have HO_399001 := n1_; have BK376 := n2_; have BK398 := n3_; have HI0 := n4_; have HK := n5_; have HB := n6_; clear n0_ n1_ n2_ n3_ n4_ n5_ n6_
         refine start_ (n := 8) (S := fun w' => w'.cell? ⟨gb398, 0, none⟩ = some (.slice Ao64 y410.length co64) ∧ w'.cell? ⟨gb398, 1, none⟩ = some (u399001)) (ds := [7]) #[false, false, false, false, false, false, false, false] (by kernel_rfl) rfl rfl ⟨(blk_cell BK398.out 0).trans rfl, (blk_cell BK398.out 1).trans rfl⟩ (fun hHeld => ?_); refine with_tabW spec_l06Path.tab18 spec_l06Path.bits18 (fun HT_ HW_ => ?_)
         generalize w70.drew = w71 at HO_399000 HO_399001 BK376 BK398 HI0 HK HB hHeld ⊢
         refine pzv (i := 0) (N := 71) (v := ?_) (a' := ?_) (bA 8 1) HT_ ?_ ?_ ?_
         rotate_left
         ·intro w'
          go_simp; with_reducible rfl
         rotate_left
         ·exact x11_put
         refine pzv (i := 2) (N := 73) (v := ?_) (a' := ?_) (bA 8 5) HT_ ?_ ?_ ?_
         rotate_left
         ·intro w'
          go_simp; with_reducible rfl
         rotate_left
         ·exact x11_put
         refine take_ (i := 1) (N := some 72) (v := ?_) (a' := ?_) (bA 8 7) rfl rfl (take_ofW HT_.out HW_.out (by kernel_rfl)) (fun _ _ _ h => h) (Or.inl ⟨by rfl, ?_⟩) hHeld ?_ ?_
         rotate_left
         ·rintro w' ⟨s0, s1⟩
          go_simp; with_reducible rfl
         rotate_left
         ·exact x11_put
         refine one_ (i := 3) (N := some 74) (bA 8 15) rfl rfl (one_of HT_.out (by kernel_rfl)) (by decide) (fun K hK => ?_)
         refine goes_ Try.func52 (by kernel_rfl) rfl #[.pointer (some ⟨g, 0, none⟩)] (by rfl) rfl rfl z11_5 ?_
         with_reducible refine (spec_l04Point.calls g s0_0 x1001_4 x1002_4 t414 t415 t416 t417 w0 _ ?side1 ?side2 A68.out).mono ?_
         (case side1 => exact z11_10)
         (case side2 => exact z11_9)
         rintro e w72 ⟨rfl, hi, hb, hk⟩
         refine ⟨_, rfl, ?_⟩
         have n0_ := mk0 (Kd.R_mono (Kd.R_keep (IsS78.apart (show IsS78 w0 _ g s0_0 x1001_4 x1002_4 from by repeat (first | (with_reducible first | exact HI0.out | apply IsS78.alloc | apply IsS78.drewN | apply IsS78.drew | apply IsS78.set_1 | apply IsS78.set_2 | apply IsS78.farB NB0_376.out | apply IsS78.farB NB0_398.out) | exact HI0.out)) (pkR HO_399000) (by decide)) hk (fun _ h => h.2)) (fun _ h => h.1))
         have n1_ := mk0 (Kd.R_mono (Kd.R_keep (IsS78.apart (show IsS78 w0 _ g s0_0 x1001_4 x1002_4 from by repeat (first | (with_reducible first | exact HI0.out | apply IsS78.alloc | apply IsS78.drewN | apply IsS78.drew | apply IsS78.set_1 | apply IsS78.set_2 | apply IsS78.farB NB0_376.out | apply IsS78.farB NB0_398.out) | exact HI0.out)) (pkR HO_399001) (by decide)) hk (fun _ h => h.2)) (fun _ h => h.1))
         have n2_ := mk0 (KeepBut.blk hk (g' := gb376) (o := .cells #[.slice none 0 0, .slice none 0 0] 31 (0, 0)) (pkb BK376) NB376_0.out (by simp))
         have n3_ := mk0 (KeepBut.blk hk (g' := gb398) (o := .cells #[.slice Ao64 y410.length co64, u399001] 31 (0, 0)) (pkb BK398) NB398_0.out (by simp))
         have n4_ := mk0 (KeepBut.trans z11_1 hk (.inl rfl))
         have n5_ := mk0 (hb)
         have n6_ := mk0 (hi)
         clear HO_399000 HO_399001 BK376 BK398 HK HB HI0; have HO_399000 := n0_; have HO_399001 := n1_; have BK376 := n2_; have BK398 := n3_; have HK := n4_; have HB := n5_; have HI0 := n6_; clear n0_ n1_ n2_ n3_ n4_ n5_ n6_; (try clear hb); (try clear hb2); (try clear hk); (try clear hi)
         refine hK.out _ _ ⟨(blk_cell BK398.out 0).trans rfl, (blk_cell BK398.out 1).trans rfl⟩ (fun hHeld => ?_)
         clear hK K
         refine norm_ (a' := ?_) ?_ ?_
         rotate_left
         ·show Act.put _ (some 74) _ = _
          simp only [Act.put, List.setIfInBounds_toArray, List.set_cons_zero, List.set_cons_succ, i64_w, i32_w]
          rfl
         refine one_ (i := 4) (N := some 75) (bA 8 31) rfl rfl (one_of HT_.out (by kernel_rfl)) (by decide) (fun K hK => ?_)
         refine value_ (w1 := ?_) (v := ?_) (by rfl) rfl ?_ ?_
         rotate_left 2
         ·go_simp
          constructor
          ·rfl
          rfl
         refine hK.out _ _ ⟨(blk_cell (blk_alloc BK398.out _) 0).trans rfl, (blk_cell (blk_alloc BK398.out _) 1).trans rfl⟩ (fun hHeld => ?_)
         clear hK K
         refine norm_ (a' := ?_) ?_ ?_
         rotate_left
         ·show Act.put _ (some 75) _ = _
          simp only [Act.put, List.setIfInBounds_toArray, List.set_cons_zero, List.set_cons_succ, i64_w, i32_w]
          rfl
         refine one_ (i := 5) (N := some 76) (bA 8 63) rfl rfl (one_of HT_.out (by kernel_rfl)) (by decide) (fun K hK => ?_)
         refine Kd.R_append_step k46 w.heap.size (by rfl) (.tmp 72) (.tmp 75) 29 46 (.agg #[(.int .i64 0), (.int .i64 0)]) 16 rfl Try.underlying29 info46 rfl (by decide) (by omega) u399001 x399001_4 (⟨t414, t415⟩ : S46) [.int .i64 t414, .int .i64 t415] (fun _ => True) (fun _ => False) rfl rfl ?aP (fun _ hk => hk.elim) ?aF ?aO (Below.refl _ _) ?aS ?aL ?_
         (case aP => exact k46_mkM _ _ _ (⟨t414, t415⟩ : S46))
         (case aF => exact (fun _ _ => trivial))
         (case aO => exact (pkR HO_399001))
         (case aS => exact (keep_size (w := w) (g := g) (row := none) z11_1))
         (case aL => have := LMc69.out; omega)
         intro v419 w73 ho hb hg hat
         rw [← Ny418.out] at ho
         have n0_ := mk0 (Kd.R_over' (pkR HO_399000) (Kd.R_typed (pkR HO_399001)) (by decide) hg)
         have n1_ := mk0 (blk_grown (g := gb376) (o := .cells #[.slice none 0 0, .slice none 0 0] 31 (0, 0)) (pkb BK376) hg (Kd.R_ne HO_399001.out BK376.out (by decide)))
         have n2_ := mk0 (blk_grown (g := gb398) (o := .cells #[.slice Ao64 y410.length co64, u399001] 31 (0, 0)) (pkb BK398) hg (Kd.R_ne HO_399001.out BK398.out (by decide)))
         have n3_ := mk0 (IsS78.grown z11_3 hg (IsS78.own_ne HI0.out HO_399001.out (by decide)))
         have n4_ := mk0 (below_weaken z11_2 HL.out hb)
         have n5_ := mk0 (KeepBut.trans z11_1 (KeepBut.of_grown hg g) (Kd.R_base2 HO_399001.out))
         have n6_ := mk0 (ho)
         clear HO_399000 BK376 BK398 HI0 HB HK HO_399001; have HO_399000 := n0_; have BK376 := n1_; have BK398 := n2_; have HI0 := n3_; have HB := n4_; have HK := n5_; have HO420 := n6_; clear n0_ n1_ n2_ n3_ n4_ n5_ n6_ ho hb hg hat
         obtain ⟨Ao74, co74, eo74⟩ := Kd.R_slice HO420.out
         (first | subst eo74 | (injection eo74 with f1_ f2_ f3_; have f4_ := f1_.symm; have f5_ := f3_.symm; clear f1_ f2_ f3_; subst f4_; subst f5_))
         refine hK.out _ _ ⟨(blk_cell BK398.out 0).trans rfl, (blk_cell BK398.out 1).trans rfl⟩ (fun hHeld => ?_)
         clear hK K
         refine norm_ (a' := ?_) ?_ ?_
         rotate_left
         ·show Act.put _ (some 76) _ = _
          simp only [Act.put, List.setIfInBounds_toArray, List.set_cons_zero, List.set_cons_succ, i64_w, i32_w]
          rfl
         refine pzv (i := 6) (N := 77) (v := ?_) (a' := ?_) (bA 8 127) HT_ ?_ ?_ ?_
         rotate_left
         ·intro w'
          go_simp; with_reducible rfl
         rotate_left
         ·exact x11_put
         refine last_ (i := 7) (N := none) (bA 8 255) rfl rfl (one_of HT_.out (by kernel_rfl)) (by decide) (fun K hK => ?_)
         have hs75 : w73.cell? ⟨gb398, 1, none⟩ = some (u399001) := (blk_cell BK398.out 1).trans rfl
         have hfs75 := blk_frozen BK398.out 1
         have hns75_0 := NB376_398.out; have hms75_0 := NB398_376.out
         refine skip_ (w1 := ?_) ?hwx ?hN ?_ ?_; (case hwx => rfl); (case hN => rfl)
         rotate_left
         ·go_simp
          rfl
         refine hK.out _ _ ?_
         clear hK K
         refine done_ (done_of HT_.out (by kernel_rfl)) ?_
         try go_wp2
         go_roundg k4
         case measure => have := HK1.out; have := HJ28.out; have := HJ42.out; have := HK4.out; omega
         case rel => exact ⟨(wrap64 (x8_4 + 1)), (t416), (t417), (y418), (.slice Ao74 y418.length co74), rs0, H', ⟨(by have := HK1.out; have := HJ28.out; have := HJ42.out; have := HK4.out; omega)⟩, ⟨(by (with_reducible repeat (first | apply Kd.R_alloc | apply Kd.R_drewN | apply Kd.R_drew)); exact Kd.R_mono (Kd.R_far (p := ⟨gb398, 1, none⟩) (Kd.R_types HO_399000.out BK398.out (by decide)) (fun _ hk => hk.2) (.slice Ao74 y418.length co74)) (fun _ hk => trivial))⟩, ⟨(by (with_reducible repeat (first | apply Kd.R_alloc | apply Kd.R_drewN | apply Kd.R_drew)); exact Kd.R_mono (Kd.R_far (p := ⟨gb398, 1, none⟩) (Kd.R_types HO420.out BK398.out (by decide)) (fun _ hk => hk.2) (.slice Ao74 y418.length co74)) (fun _ hk => trivial))⟩, ⟨z11_15⟩, ⟨(by (with_reducible repeat (first | refine blk_drewN ?_ _ | refine blk_drew ?_ | refine blk_alloc ?_ _)); refine blk_put (cs := #[.slice Ao64 y410.length co64, u399001]) ?_ 1 _ rfl; (with_reducible repeat (first | refine blk_drewN ?_ _ | refine blk_drew ?_ | refine blk_alloc ?_ _)); exact BK398.out)⟩, ⟨z11_3⟩, ⟨z11_1⟩, ⟨z11_2⟩⟩

end Go.Proofs.Ytdpnimngndemiaa.MFnFlats
