/- Functions of the program as Lean functions, and the proof that a call comes to just these: machine text of this session's own program (myprint.py). -/
import Derived.Test.YtghbenapnhcllaaMFnMasksx0
import Derived.Test.YtghbenapnhcllaaMFnMasksx4
import Derived.Test.YtghbenapnhcllaaMFnMasksx8
import Derived.Test.YtghbenapnhcllaaMFnMasksx11
import Derived.Test.YtghbenapnhcllaaMFnMasksx12
namespace Go.Proofs.Ytghbenapnhcllaa.MFnMasks
open Go.RowKit Go.Proofs.YtghbenapnhcllaaW.PrintWords Go.Proofs.YtghbenapnhcllaaW.PrintLast Go.Proofs.YtghbenapnhcllaaW.PrintMore
attribute [local go_sem] max2_int min2_int max_two min_two max_three min_three max_four min_four   -- for this text's walks alone
set_option linter.unusedVariables false
set_option linter.unusedSimpArgs false

def y13_0 : Array Bool := (bA 8 0)
def y13_1 : Array Bool := (bA 8 1)
def y13_2 : Array Bool := (bA 8 9)
def y13_5 : Array Bool := (bA 8 11)
def y13_6 : Array Bool := (bA 8 15)
def y13_7 : Array Bool := (bA 8 31)
def y13_8 : Array Bool := (bA 8 63)
def y13_9 : Array Bool := (bA 8 127)
def y13_10 : Array Bool := (bA 8 255)
theorem x13_put {P : Prop} (h : P := by simp only [Act.put, List.setIfInBounds_toArray, List.set_cons_zero, List.set_cons_succ, i64_w, i32_w]; rfl) : P := h
theorem z13_10 {P : Prop} (h : P := by repeat (first | (with_reducible first | exact HK.out | apply KeepBut.set_ | apply keep_drewN | apply keep_drew | apply keep_alloc | refine keep_far ?_ GW336.out _ | refine keep_far ?_ GW343.out _ | refine keep_far ?_ GW368.out _) | exact HK.out)) : P := h
theorem z13_11 {P : Prop} (h : P := by repeat (first | (with_reducible first | exact HK.out | apply KeepBut.set_ | apply keep_drewN | apply keep_drew | apply keep_alloc | refine keep_far ?_ GW336.out _ | refine keep_far ?_ GW343.out _) | exact HK.out)) : P := h
theorem z13_17 {P : Prop} (h : P := by repeat (first | (with_reducible first | exact HK.out | apply KeepBut.set_ | apply keep_drewN | apply keep_drew | apply keep_alloc | refine keep_far ?_ GW336.out _) | exact HK.out)) : P := h
theorem z13_18 {P : Prop} (h : P := by repeat (first | exact (Kd.S_reads' HO360.out).2.2 | (with_reducible refine Kd.C_alloc ?_ _) | (with_reducible refine Kd.C_drewN ?_ _) | (with_reducible refine Kd.C_drew ?_))) : P := h
theorem z13_23 {P : Prop} (h : P := by rw [hw_]; exact (by (with_reducible repeat (first | refine blk_drewN ?_ _ | refine blk_drew ?_ | refine blk_alloc ?_ _)); refine blk_put (cs := #[.int .i64 (wrap64 (t337 - 2)), .int .i64 (wrap64 (t340 - 2)), .int .i64 0, .int .i64 0]) ?_ 3 _ rfl; (with_reducible repeat (first | refine blk_drewN ?_ _ | refine blk_drew ?_ | refine blk_alloc ?_ _)); refine blk_put (cs := #[.int .i64 (wrap64 (t337 - 2)), .int .i64 (wrap64 (t340 - 2)), .int .i64 0, .int .i64 0]) ?_ 2 _ rfl; (with_reducible repeat (first | refine blk_drewN ?_ _ | refine blk_drew ?_ | refine blk_alloc ?_ _)); refine blk_put (cs := #[.int .i64 (wrap64 (t337 - 2)), .int .i64 0, .int .i64 0, .int .i64 0]) ?_ 1 _ rfl; (with_reducible repeat (first | refine blk_drewN ?_ _ | refine blk_drew ?_ | refine blk_alloc ?_ _)); refine blk_put (cs := #[.int .i64 0, .int .i64 0, .int .i64 0, .int .i64 0]) ?_ 0 _ rfl; (with_reducible repeat (first | refine blk_drewN ?_ _ | refine blk_drew ?_ | refine blk_alloc ?_ _)); exact BK343.out)) : P := h
theorem z13_24 {P : Prop} (h : P := by (with_reducible repeat (first | apply Kd.R_alloc | apply Kd.R_drewN | apply Kd.R_drew)); exact Kd.R_mono HO352.out (fun _ hk => hk.2)) : P := h
theorem z13_25 {P : Prop} (h : P := by (with_reducible repeat (first | apply Kd.S_alloc | apply Kd.S_drewN | apply Kd.S_drew)); exact Kd.S_mono HO360.out (fun _ hk => hk.2)) : P := h
theorem z13_26 {P : Prop} (h : P := by (with_reducible repeat (first | apply Kd.R_alloc | apply Kd.R_drewN | apply Kd.R_drew)); exact Kd.R_mono HO367.out (fun _ hk => hk.2)) : P := h
theorem z13_27 {P : Prop} (h : P := by repeat (first | exact (Kd.R_reads' HO352.out).2.2 | (with_reducible refine Kd.C_alloc ?_ _) | (with_reducible refine Kd.C_drewN ?_ _) | (with_reducible refine Kd.C_drew ?_))) : P := h
theorem z13_28 {P : Prop} (h : P := by repeat (first | exact (Kd.R_reads' HO355.out).2.2 | (with_reducible refine Kd.C_alloc ?_ _) | (with_reducible refine Kd.C_drewN ?_ _) | (with_reducible refine Kd.C_drew ?_))) : P := h
theorem z13_30 {P : Prop} (h : P := by (with_reducible repeat (first | refine blk_drewN ?_ _ | refine blk_drew ?_ | refine blk_alloc ?_ _ | refine blk_far ?_ NB336_368.out _)); exact BK336.out) : P := h
theorem z13_31 {P : Prop} (h : P := by (with_reducible repeat (first | refine blk_drewN ?_ _ | refine blk_drew ?_ | refine blk_alloc ?_ _ | refine blk_far ?_ NB343_368.out _)); exact BK343.out) : P := h
theorem z13_33 {P : Prop} (h : P := by simp only [putAll, Act.put, List.setIfInBounds_toArray, List.set_cons_zero, List.set_cons_succ]) : P := h
theorem z13_37 {P : Prop} (h : P := by rw [hw_]; exact (by (with_reducible repeat (first | refine blk_drewN ?_ _ | refine blk_drew ?_ | refine blk_alloc ?_ _)); refine blk_put (cs := #[.int .i64 (wrap64 (t337 - 2)), .int .i64 (wrap64 (t340 - 2)), .int .i64 (wrap64 ((wrap64 ((wrap64 (t337 - 2)) + 1)) + t344)), .int .i64 0]) ?_ 3 _ rfl; (with_reducible repeat (first | refine blk_drewN ?_ _ | refine blk_drew ?_ | refine blk_alloc ?_ _)); exact BK343.out)) : P := h
theorem z13_38 {P : Prop} (h : P := by rw [hw_]; exact (by (with_reducible repeat (first | refine blk_drewN ?_ _ | refine blk_drew ?_ | refine blk_alloc ?_ _)); refine blk_put (cs := #[.int .i64 (wrap64 (t337 - 2)), .int .i64 (wrap64 (t340 - 2)), .int .i64 0, .int .i64 0]) ?_ 2 _ rfl; (with_reducible repeat (first | refine blk_drewN ?_ _ | refine blk_drew ?_ | refine blk_alloc ?_ _)); exact BK343.out)) : P := h
theorem z13_40 {P : Prop} (h : P := by apply blk_fin; (focus ((with_reducible repeat (first | apply blk_putQ | refine blk_drewN ?_ _ | refine blk_drew ?_ | refine blk_alloc ?_ _)); exact BK368.out)); first | (simp only [List.setIfInBounds_toArray, List.set_cons_zero, List.set_cons_succ]; done) | rfl) : P := h
theorem z13_41 {P : Prop} (h : P := by apply blk_fin; (focus ((with_reducible repeat (first | apply blk_putQ | refine blk_drewN ?_ _ | refine blk_drew ?_ | refine blk_alloc ?_ _)); exact BK336.out)); first | (simp only [List.setIfInBounds_toArray, List.set_cons_zero, List.set_cons_succ]; done) | rfl) : P := h
/-! ### spec_l11Mask: function 82 -/
def spec_l11Mask.l0 : Nat → Int → List Int → Int → Int → Int → Int → Int → Int → List Int → Option (Int × Int × Int × Int × List Int × Int × Int)
 | 0, _, _, _, _, _, _, _, _, _ => none
 | k + 1, x5, x1000, x1001, x1002, x369000, x369001, x369002, x369003, x369004 => if x5 < (x369004.length : Int) then ((spec_l01PickInt.f x1000 x1001 x1002 (([0, 0, 15, 15, 3, 8] : List Int))).bind fun bt375 => (if 0 ≤ x5 then (spec_l11Mask.l0 k (wrap64 (x5 + 1)) x1000 bt375.2.1 bt375.2.2 x369000 x369001 x369002 x369003 (x369004.set (x5 : Int).toNat bt375.1)) else (none))) else (some (x369000, x369001, x369002, x369003, x369004, x1001, x1002))
def spec_l11Mask.f (k : Nat) (s0_0 : List Int) (s0_1 : Int) (s0_2 : Int) : Option (Int × Int × Int × Int × List Int × Int × Int) := (spec_l01Below.f s0_0 s0_1 s0_2 8).bind fun bt337 => ((spec_l01Below.f s0_0 bt337.2.1 bt337.2.2 8).bind fun bt340 => ((spec_l01Below.f s0_0 bt340.2.1 bt340.2.2 6).bind fun bt344 => ((spec_l01Below.f s0_0 bt344.2.1 bt344.2.2 6).bind fun bt347 => ((spec_l06Path.f k s0_0 bt347.2.1 bt347.2.2).bind fun bt350 => ((spec_FlatOf.f k bt350.1 bt350.2.1).bind fun t358 => ((spec_MaskOf.f k t358 false (wrap64 (bt337.1 - 2)) (wrap64 (bt340.1 - 2)) (wrap64 ((wrap64 ((wrap64 (bt337.1 - 2)) + 1)) + bt344.1)) (wrap64 ((wrap64 ((wrap64 (bt340.1 - 2)) + 1)) + bt347.1))).bind fun bt361 => ((spec_l01Once.f s0_0 bt350.2.2.1 bt350.2.2.2 3).bind fun bt369 => (if bt369.1 = true then (spec_l11Mask.l0 k 0 s0_0 bt369.2.1 bt369.2.2 bt361.1 bt361.2.1 bt361.2.2.1 bt361.2.2.2.1 bt361.2.2.2.2) else (some (bt361.1, bt361.2.1, bt361.2.2.1, bt361.2.2.2.1, bt361.2.2.2.2, bt369.2.1, bt369.2.2))))))))))
theorem spec_l11Mask.mono_l : ∀ k, (∀ y0 y1 y2 y3 y4 y5 y6 y7 y8, LeO (spec_l11Mask.l0 k y0 y1 y2 y3 y4 y5 y6 y7 y8) (spec_l11Mask.l0 (k + 1) y0 y1 y2 y3 y4 y5 y6 y7 y8))
 | 0 => fun _ _ _ _ _ _ _ _ _ r h => by simp [spec_l11Mask.l0] at h
 | k + 1 => by
  have ih0 := spec_l11Mask.mono_l k
  ·intro y0 y1 y2 y3 y4 y5 y6 y7 y8
   unfold spec_l11Mask.l0
   with_reducible repeat' first | apply ih0 | apply spec_FlatOf.mono | apply spec_MaskOf.mono | apply spec_l06Path.mono | exact LeO.refl _ | exact LeO.none _ | refine LeO.ite ?_ ?_ | refine LeO.bind ?_ (fun _ => ?_)
theorem spec_l11Mask.mono : ∀ a0 a1 a2 k, LeO (spec_l11Mask.f k a0 a1 a2) (spec_l11Mask.f (k + 1) a0 a1 a2) := by
 intro a0 a1 a2 k; have ih0 := spec_l11Mask.mono_l k
 unfold spec_l11Mask.f
 with_reducible repeat' first | apply ih0 | apply spec_FlatOf.mono | apply spec_MaskOf.mono | apply spec_l06Path.mono | exact LeO.refl _ | exact LeO.none _ | refine LeO.ite ?_ ?_ | refine LeO.bind ?_ (fun _ => ?_)
def spec_l11Mask.T2 : Bool × List (List Nat × List Nat) := (true, [([], []), ([0], [0]), ([1], [1]), ([], []), ([3], [3]), ([2, 4], [2, 4]), ([0, 1, 2, 3, 4, 5], []), ([6, 5, 4, 0, 1, 2, 3, 4, 5], [5, 6])])
def spec_l11Mask.B2 : List Nat := [0, 1, 3, 0, 8, 31, 63, 127]
theorem spec_l11Mask.tab2 : rtab .any (opsOf Try.f82 2) = spec_l11Mask.T2 := by kernel_rfl
theorem spec_l11Mask.bits2 : waitsOk spec_l11Mask.T2.2 spec_l11Mask.B2 = true := by kernel_rfl
def spec_l11Mask.T3 : Bool × List (List Nat × List Nat) := (true, [([], []), ([0], [0]), ([1], [1]), ([], []), ([3], [3]), ([2, 4], [2, 4]), ([0, 1, 2, 3, 4, 5], []), ([6, 5, 4, 0, 1, 2, 3, 4, 5], [5, 6])])
def spec_l11Mask.B3 : List Nat := [0, 1, 3, 0, 8, 31, 63, 127]
theorem spec_l11Mask.tab3 : rtab .any (opsOf Try.f82 3) = spec_l11Mask.T3 := by kernel_rfl
theorem spec_l11Mask.bits3 : waitsOk spec_l11Mask.T3.2 spec_l11Mask.B3 = true := by kernel_rfl
def spec_l11Mask.T9 : Bool × List (List Nat × List Nat) := (true, [([], []), ([0], [0]), ([], []), ([], []), ([], []), ([3, 4], [3, 4]), ([1, 2, 0, 1, 2, 3, 4, 5], [1, 2]), ([6, 5, 5, 0, 1, 2, 3, 4, 5], [5, 6])])
def spec_l11Mask.B9 : List Nat := [0, 1, 0, 0, 0, 24, 63, 127]
theorem spec_l11Mask.tab9 : rtab .any (opsOf Try.f82 9) = spec_l11Mask.T9 := by kernel_rfl
theorem spec_l11Mask.bits9 : waitsOk spec_l11Mask.T9.2 spec_l11Mask.B9 = true := by kernel_rfl
set_option maxHeartbeats 8000000 in
set_option maxRecDepth 100000 in
theorem spec_l11Mask.calls (k : Nat) (g : Nat) (s0_0 : List Int) (s0_1 : Int) (s0_2 : Int) (r1 : Int) (r2 : Int) (r3 : Int) (r4 : Int) (r5 : List Int) (r6 : Int) (r7 : Int) (w0 w : World) (hI : IsS152 w0 w g s0_0 s0_1 s0_2) (hB : Below w0.heap.size w0 w) (h : spec_l11Mask.f k s0_0 s0_1 s0_2 = some (r1, r2, r3, r4, r5, r6, r7)) :
  Calls Try.prog 82 #[.pointer (some ⟨g, 0, none⟩)] w fun e w' => ∃ v4_ : Value, e = .returned (.agg #[.int .i64 r1, .int .i64 r2, .int .i64 r3, .int .i64 r4, v4_]) ∧ Kd.R (Kd.int .i64) 3 w' w.heap.size (fun _ => True) v4_ r5 ∧ IsS152 w0 w' g s0_0 r6 r7 ∧ Below w0.heap.size w0 w' ∧ KeepBut w w' g none := by
 have hu65 := Try.underlying65; have hu63 := Try.underlying63; have HI0 := mk0 hI; have HK := mk0 (KeepBut.refl w g none); have HL := mk0 hB.size; clear hI; have HW0 := mk0 hB.size; have HB := mk0 hB; clear hB
 have H := h; unfold spec_l11Mask.f at H
 clear h
 obtain ⟨⟨t337, t338, t339⟩, A2, H⟩ := bnd H
 try dsimp only at H
 obtain ⟨⟨t340, t341, t342⟩, A3, H⟩ := bnd H
 try dsimp only at H
 obtain ⟨⟨t344, t345, t346⟩, A4, H⟩ := bnd H
 try dsimp only at H
 obtain ⟨⟨t347, t348, t349⟩, A5, H⟩ := bnd H
 try dsimp only at H
 obtain ⟨⟨t350, t353, t356, t357⟩, A6, H⟩ := bnd H
 try dsimp only at H
 obtain ⟨t358, A7, H⟩ := bnd H
 try dsimp only at H
 obtain ⟨⟨t361, t362, t363, t364, t365⟩, A8, H⟩ := bnd H
 try dsimp only at H
 obtain ⟨⟨t369, t370, t371⟩, A9, H⟩ := bnd H
 try dsimp only at H
 by_cases c10 : t369 = true
 rotate_left
 ·replace c10 := Bool.eq_false_iff.mpr c10; subst c10; rw [if_neg (show ¬ (false = true) by decide)] at H
  simp only [Option.some.injEq, Prod.mk.injEq] at H; obtain ⟨rfl, rfl, rfl, rfl, rfl, rfl, rfl⟩ := H
  go_enter Try.func82, Try.ntmps82
  try go_wp2_with (first | ((with_reducible refine gate_dst (N := 2) rfl ?_); refine boxz (cs := #[.int .i64 0, .int .i64 0, .int .i64 0, .int .i64 0, .slice none 0 0]) (t := 65) rfl ?_; intro gb336 hg w66 hbox hb; replace HB := bS q_86 hb; have BK336 := mk0 (hbox); have GW336 := mk0 ((by rw [hg]; exact (keep_size (w := w) (g := g) (row := none) q_171) : w.heap.size ≤ gb336)); have GE336 := mk0 ((Nat.le_trans HW0.out (by rw [hg]; exact (keep_size (w := w) (g := g) (row := none) q_171) : w.heap.size ≤ gb336) : w0.heap.size ≤ gb336)); replace HK := mk0 (KeepBut.trans q_171 (KeepBut.of_below hb g none) (.inl rfl)); have NB0_336 := mk0 ((by rw [hg]; exact Nat.ne_of_lt (IsS152.lt (show IsS152 w0 _ g s0_0 s0_1 s0_2 from q_159)) : g ≠ gb336)); have NB336_0 := mk0 ((by rw [hg]; exact Nat.ne_of_gt (IsS152.lt (show IsS152 w0 _ g s0_0 s0_1 s0_2 from q_159)) : gb336 ≠ g)); replace HI0 := mk0 (IsS152.below q_159 hb); clear hb hbox hg) | ((with_reducible refine gate_callee (f := 94) rfl ?_); refine gl_ (some 7) Try.func94 #[.pointer (some ⟨g, 0, none⟩), .int .i64 8] rfl q_0 ?_; (with_reducible refine (spec_l01Below.calls g s0_0 s0_1 s0_2 8 t337 t338 t339 w0 _ ?side1 ?side2 A2.out).mono ?_); (case side1 => exact q_156); (case side2 => exact q_83); rintro e w67 ⟨rfl, hi, hb, hk⟩; refine ⟨_, rfl, ?_⟩; replace BK336 := kB BK336 hk (pkb BK336) NB336_0; replace HK := mk0 (KeepBut.trans z13_17 hk (.inl rfl)); replace HB := mk0 (hb); replace HI0 := mk0 (hi); clear hb hk hi) | ((with_reducible refine gate_callee (f := 94) rfl ?_); refine gl_ (some 10) Try.func94 #[.pointer (some ⟨g, 0, none⟩), .int .i64 8] rfl q_0 ?_; (with_reducible refine (spec_l01Below.calls g s0_0 t338 t339 8 t340 t341 t342 w0 _ ?side1 ?side2 A3.out).mono ?_); (case side1 => exact q_156); (case side2 => exact q_83); rintro e w68 ⟨rfl, hi, hb, hk⟩; refine ⟨_, rfl, ?_⟩; replace BK336 := kB BK336 hk (pkb BK336) NB336_0; replace HK := mk0 (KeepBut.trans z13_17 hk (.inl rfl)); replace HB := mk0 (hb); replace HI0 := mk0 (hi); clear hb hk hi) | ((with_reducible refine gate_dst (N := 3) rfl ?_); refine boxz (cs := #[.int .i64 0, .int .i64 0, .int .i64 0, .int .i64 0]) (t := 63) rfl ?_; intro gb343 hg w69 hbox hb; replace HB := bS q_83 hb; have BK343 := mk0 (hbox); have GW343 := mk0 ((by rw [hg]; exact (keep_size (w := w) (g := g) (row := none) z13_17) : w.heap.size ≤ gb343)); have GE343 := mk0 ((Nat.le_trans HW0.out (by rw [hg]; exact (keep_size (w := w) (g := g) (row := none) z13_17) : w.heap.size ≤ gb343) : w0.heap.size ≤ gb343)); replace HK := mk0 (KeepBut.trans z13_17 (KeepBut.of_below hb g none) (.inl rfl)); have NB336_343 := mk0 (nb_lt hg (blk_ltB BK336 (pkb BK336))); have NB343_336 := mk0 (nb_gt hg (blk_ltB BK336 (pkb BK336))); replace BK336 := bB BK336 hb; have NB0_343 := mk0 ((by rw [hg]; exact Nat.ne_of_lt (IsS152.lt (show IsS152 w0 _ g s0_0 t341 t342 from q_156)) : g ≠ gb343)); have NB343_0 := mk0 ((by rw [hg]; exact Nat.ne_of_gt (IsS152.lt (show IsS152 w0 _ g s0_0 t341 t342 from q_156)) : gb343 ≠ g)); replace HI0 := mk0 (IsS152.below q_156 hb); clear hb hbox hg; have hnb70 := NB343_336.out; have hnc70 := NB336_343.out; have hnb71 := NB343_0.out; have hnc71 := NB0_343.out; obtain ⟨_, _, _, _, _, _, _, _⟩ := be_4 BK343.out))
  obtain ⟨w73, hw_⟩ : ∃ w_ : World, w_ = ((((w69.setCell ⟨gb343, 0, none⟩ (.int .i64 (wrap64 (t337 - 2)))).setCell ⟨gb343, 1, none⟩ (.int .i64 (wrap64 (t340 - 2)))).setCell ⟨gb343, 2, none⟩ (.int .i64 0)).setCell ⟨gb343, 3, none⟩ (.int .i64 0)) := ⟨_, rfl⟩
  have n0_ : Aside0 (w73.heap[gb336]? = some (.cells #[.int .i64 0, .int .i64 0, .int .i64 0, .int .i64 0, .slice none 0 0] 65 (0, 0))) := ⟨q_189⟩
  have n1_ : Aside0 (w73.heap[gb343]? = some (.cells #[.int .i64 (wrap64 (t337 - 2)), .int .i64 (wrap64 (t340 - 2)), .int .i64 0, .int .i64 0] 63 (0, 0))) := ⟨z13_23⟩
  have n2_ : Aside0 (IsS152 w0 w73 g s0_0 t341 t342) := ⟨(by rw [hw_]; exact q_155)⟩
  have n3_ : Aside0 (KeepBut w w73 g none) := ⟨(by rw [hw_]; exact z13_11)⟩
  have n4_ : Aside0 (Below w0.heap.size w0 w73) := ⟨(by rw [hw_]; exact q_82)⟩
  (try clear BK336); (try clear BK343); (try clear HI0); (try clear HK); (try clear HB); rw [← hw_]; clear hw_; have BK336 := n0_; have BK343 := n1_; have HI0 := n2_; have HK := n3_; have HB := n4_; clear n0_ n1_ n2_ n3_ n4_; replace BK336 := mk0 (blk_drew BK336.out); replace BK343 := mk0 (blk_drew BK343.out); replace HI0 := mk0 (IsS152.drew HI0.out); replace HK := mk0 (keep_drew HK.out); replace HB := mk0 (below_drew1 HB.out)
  refine start_ (n := 8) (S := fun w' => w'.cell? ⟨gb343, 0, none⟩ = some (.int .i64 (wrap64 (t337 - 2))) ∧ w'.cell? ⟨gb343, 1, none⟩ = some (.int .i64 (wrap64 (t340 - 2))) ∧ w'.cell? ⟨gb343, 2, none⟩ = some (.int .i64 0) ∧ w'.cell? ⟨gb343, 3, none⟩ = some (.int .i64 0)) (ds := [7]) y13_0 (by kernel_rfl) rfl rfl ⟨(blk_cell BK343.out 0).trans rfl, (blk_cell BK343.out 1).trans rfl, (blk_cell BK343.out 2).trans rfl, (blk_cell BK343.out 3).trans rfl⟩ (fun hHeld => ?_); refine with_tabW spec_l11Mask.tab2 spec_l11Mask.bits2 (fun HT_ HW_ => ?_)
  generalize w73.drew = w74 at BK336 BK343 HI0 HK HB hHeld ⊢
  refine pzx (i := 0) (N := 13) y13_1 HT_ ?_; refine pzx (i := 3) (N := 16) y13_2 HT_ ?_
  refine take_ (i := 1) (N := some 14) (v := ?_) (a' := ?_) y13_5 rfl rfl (take_ofW HT_.out HW_.out (by kernel_rfl)) (fun _ _ _ h => h) (Or.inl ⟨by rfl, ?_⟩) hHeld ?_ ?_
  rotate_left
  ·rintro w' ⟨s0, s1, s2, s3⟩
   go_simp; with_reducible rfl
  rotate_left
  ·exact x13_put
  refine pzx (i := 2) (N := 15) y13_6 HT_ ?_
  refine one_ (i := 4) (N := some 17) y13_7 rfl rfl (one_of HT_.out (by kernel_rfl)) (by decide) (fun K hK => ?_)
  refine goes_ Try.func94 (by kernel_rfl) rfl #[.pointer (some ⟨g, 0, none⟩), .int .i64 6] (by rfl) rfl rfl q_0 ?_
  with_reducible refine (spec_l01Below.calls g s0_0 t341 t342 6 t344 t345 t346 w0 _ ?side1 ?side2 A4.out).mono ?_
  (case side1 => exact q_155)
  (case side2 => exact q_82)
  rintro e w75 ⟨rfl, hi, hb, hk⟩
  refine ⟨_, rfl, ?_⟩
  replace BK336 := kB BK336 hk (pkb BK336) NB336_0; replace BK343 := kB BK343 hk (pkb BK343) NB343_0; replace HK := mk0 (KeepBut.trans z13_11 hk (.inl rfl)); replace HB := mk0 (hb); replace HI0 := mk0 (hi); (try clear hb); (try clear hb2); (try clear hk); (try clear hi); refine hK.out _ _ ⟨(blk_cell BK343.out 0).trans rfl, (blk_cell BK343.out 1).trans rfl, (blk_cell BK343.out 2).trans rfl, (blk_cell BK343.out 3).trans rfl⟩ (fun hHeld => ?_); clear hK K
  refine norm_ (a' := ?_) ?_ ?_
  rotate_left
  ·show Act.put _ (some 17) _ = _
   simp only [Act.put, List.setIfInBounds_toArray, List.set_cons_zero, List.set_cons_succ, i64_w, i32_w]
   rfl
  refine pzx (i := 5) (N := 18) y13_8 HT_ ?_; refine pzx (i := 6) (N := 19) y13_9 HT_ ?_
  refine last_ (i := 7) (N := none) y13_10 rfl rfl (one_of HT_.out (by kernel_rfl)) (by decide) (fun K hK => ?_)
  have hs76 : w75.cell? ⟨gb343, 2, none⟩ = some (.int .i64 0) := (blk_cell BK343.out 2).trans rfl
  have hfs76 := blk_frozen BK343.out 2; have hns76_0 := NB336_343.out; have hms76_0 := NB343_336.out
  refine skip_ (w1 := ?_) ?hwx ?hN ?_ ?_; (case hwx => rfl); (case hN => rfl)
  rotate_left
  ·go_simp
   rfl
  refine hK.out _ _ ?_; clear hK K
  refine done_ (done_of HT_.out (by kernel_rfl)) ?_
  try go_wp2
  obtain ⟨w77, hw_⟩ : ∃ w_ : World, w_ = (w75.setCell ⟨gb343, 2, none⟩ (.int .i64 (wrap64 ((wrap64 ((wrap64 (t337 - 2)) + 1)) + t344)))) := ⟨_, rfl⟩
  have n0_ : Aside0 (w77.heap[gb336]? = some (.cells #[.int .i64 0, .int .i64 0, .int .i64 0, .int .i64 0, .slice none 0 0] 65 (0, 0))) := ⟨q_189⟩
  have n1_ : Aside0 (w77.heap[gb343]? = some (.cells #[.int .i64 (wrap64 (t337 - 2)), .int .i64 (wrap64 (t340 - 2)), .int .i64 (wrap64 ((wrap64 ((wrap64 (t337 - 2)) + 1)) + t344)), .int .i64 0] 63 (0, 0))) := ⟨z13_38⟩
  have n2_ : Aside0 (IsS152 w0 w77 g s0_0 t345 t346) := ⟨(by rw [hw_]; exact q_155)⟩
  have n3_ : Aside0 (KeepBut w w77 g none) := ⟨(by rw [hw_]; exact z13_11)⟩
  have n4_ : Aside0 (Below w0.heap.size w0 w77) := ⟨(by rw [hw_]; exact q_82)⟩
  (try clear BK336); (try clear BK343); (try clear HI0); (try clear HK); (try clear HB); rw [← hw_]; clear hw_; have BK336 := n0_; have BK343 := n1_; have HI0 := n2_; have HK := n3_; have HB := n4_; clear n0_ n1_ n2_ n3_ n4_; replace BK336 := mk0 (blk_drew BK336.out); replace BK343 := mk0 (blk_drew BK343.out); replace HI0 := mk0 (IsS152.drew HI0.out); replace HK := mk0 (keep_drew HK.out); replace HB := mk0 (below_drew1 HB.out)
  refine start_ (n := 8) (S := fun w' => w'.cell? ⟨gb343, 0, none⟩ = some (.int .i64 (wrap64 (t337 - 2))) ∧ w'.cell? ⟨gb343, 1, none⟩ = some (.int .i64 (wrap64 (t340 - 2))) ∧ w'.cell? ⟨gb343, 2, none⟩ = some (.int .i64 (wrap64 ((wrap64 ((wrap64 (t337 - 2)) + 1)) + t344))) ∧ w'.cell? ⟨gb343, 3, none⟩ = some (.int .i64 0)) (ds := [7]) y13_0 (by kernel_rfl) rfl rfl ⟨(blk_cell BK343.out 0).trans rfl, (blk_cell BK343.out 1).trans rfl, (blk_cell BK343.out 2).trans rfl, (blk_cell BK343.out 3).trans rfl⟩ (fun hHeld => ?_); refine with_tabW spec_l11Mask.tab3 spec_l11Mask.bits3 (fun HT_ HW_ => ?_)
  generalize w77.drew = w78 at BK336 BK343 HI0 HK HB hHeld ⊢
  refine pzx (i := 0) (N := 20) y13_1 HT_ ?_; refine pzx (i := 3) (N := 23) y13_2 HT_ ?_
  refine take_ (i := 1) (N := some 21) (v := ?_) (a' := ?_) y13_5 rfl rfl (take_ofW HT_.out HW_.out (by kernel_rfl)) (fun _ _ _ h => h) (Or.inl ⟨by rfl, ?_⟩) hHeld ?_ ?_
  rotate_left
  ·rintro w' ⟨s0, s1, s2, s3⟩
   go_simp; with_reducible rfl
  rotate_left
  ·exact x13_put
  refine pzx (i := 2) (N := 22) y13_6 HT_ ?_
  refine one_ (i := 4) (N := some 24) y13_7 rfl rfl (one_of HT_.out (by kernel_rfl)) (by decide) (fun K hK => ?_)
  refine goes_ Try.func94 (by kernel_rfl) rfl #[.pointer (some ⟨g, 0, none⟩), .int .i64 6] (by rfl) rfl rfl q_0 ?_
  with_reducible refine (spec_l01Below.calls g s0_0 t345 t346 6 t347 t348 t349 w0 _ ?side1 ?side2 A5.out).mono ?_
  (case side1 => exact q_155)
  (case side2 => exact q_82)
  rintro e w79 ⟨rfl, hi, hb, hk⟩
  refine ⟨_, rfl, ?_⟩
  replace BK336 := kB BK336 hk (pkb BK336) NB336_0; replace BK343 := kB BK343 hk (pkb BK343) NB343_0; replace HK := mk0 (KeepBut.trans z13_11 hk (.inl rfl)); replace HB := mk0 (hb); replace HI0 := mk0 (hi); (try clear hb); (try clear hb2); (try clear hk); (try clear hi); refine hK.out _ _ ⟨(blk_cell BK343.out 0).trans rfl, (blk_cell BK343.out 1).trans rfl, (blk_cell BK343.out 2).trans rfl, (blk_cell BK343.out 3).trans rfl⟩ (fun hHeld => ?_); clear hK K
  refine norm_ (a' := ?_) ?_ ?_
  rotate_left
  ·show Act.put _ (some 24) _ = _
   simp only [Act.put, List.setIfInBounds_toArray, List.set_cons_zero, List.set_cons_succ, i64_w, i32_w]
   rfl
  refine pzx (i := 5) (N := 25) y13_8 HT_ ?_; refine pzx (i := 6) (N := 26) y13_9 HT_ ?_
  refine last_ (i := 7) (N := none) y13_10 rfl rfl (one_of HT_.out (by kernel_rfl)) (by decide) (fun K hK => ?_)
  have hs80 : w79.cell? ⟨gb343, 3, none⟩ = some (.int .i64 0) := (blk_cell BK343.out 3).trans rfl
  have hfs80 := blk_frozen BK343.out 3; have hns80_0 := NB336_343.out; have hms80_0 := NB343_336.out
  refine skip_ (w1 := ?_) ?hwx ?hN ?_ ?_; (case hwx => rfl); (case hN => rfl)
  rotate_left
  ·go_simp
   rfl
  refine hK.out _ _ ?_; clear hK K
  refine done_ (done_of HT_.out (by kernel_rfl)) ?_
  try go_wp2
  obtain ⟨w81, hw_⟩ : ∃ w_ : World, w_ = (w79.setCell ⟨gb343, 3, none⟩ (.int .i64 (wrap64 ((wrap64 ((wrap64 (t340 - 2)) + 1)) + t347)))) := ⟨_, rfl⟩
  have n0_ : Aside0 (w81.heap[gb336]? = some (.cells #[.int .i64 0, .int .i64 0, .int .i64 0, .int .i64 0, .slice none 0 0] 65 (0, 0))) := ⟨q_189⟩
  have n1_ : Aside0 (w81.heap[gb343]? = some (.cells #[.int .i64 (wrap64 (t337 - 2)), .int .i64 (wrap64 (t340 - 2)), .int .i64 (wrap64 ((wrap64 ((wrap64 (t337 - 2)) + 1)) + t344)), .int .i64 (wrap64 ((wrap64 ((wrap64 (t340 - 2)) + 1)) + t347))] 63 (0, 0))) := ⟨z13_37⟩
  have n2_ : Aside0 (IsS152 w0 w81 g s0_0 t348 t349) := ⟨(by rw [hw_]; exact q_155)⟩
  have n3_ : Aside0 (KeepBut w w81 g none) := ⟨(by rw [hw_]; exact z13_11)⟩
  have n4_ : Aside0 (Below w0.heap.size w0 w81) := ⟨(by rw [hw_]; exact q_82)⟩
  (try clear BK336); (try clear BK343); (try clear HI0); (try clear HK); (try clear HB); rw [← hw_]; clear hw_; have BK336 := n0_; have BK343 := n1_; have HI0 := n2_; have HK := n3_; have HB := n4_; clear n0_ n1_ n2_ n3_ n4_; replace BK336 := mk0 (blk_drew BK336.out); replace BK343 := mk0 (blk_drew BK343.out); replace HI0 := mk0 (IsS152.drew HI0.out); replace HK := mk0 (keep_drew HK.out); replace HB := mk0 (below_drew1 HB.out)
  refine start_ (n := 7) (S := fun w' => w'.cell? ⟨gb343, 0, none⟩ = some (.int .i64 (wrap64 (t337 - 2))) ∧ w'.cell? ⟨gb343, 1, none⟩ = some (.int .i64 (wrap64 (t340 - 2))) ∧ w'.cell? ⟨gb343, 2, none⟩ = some (.int .i64 (wrap64 ((wrap64 ((wrap64 (t337 - 2)) + 1)) + t344))) ∧ w'.cell? ⟨gb343, 3, none⟩ = some (.int .i64 (wrap64 ((wrap64 ((wrap64 (t340 - 2)) + 1)) + t347)))) (ds := []) #[false, false, false, false, false, false, false] (by kernel_rfl) rfl rfl ⟨(blk_cell BK343.out 0).trans rfl, (blk_cell BK343.out 1).trans rfl, (blk_cell BK343.out 2).trans rfl, (blk_cell BK343.out 3).trans rfl⟩ (fun hHeld => ?_)
  generalize w81.drew = w82 at BK336 BK343 HI0 HK HB hHeld ⊢
  refine pure_ (i := 0) (N := some 27) (v := ?_) (a' := ?_) (bA 7 1) rfl rfl (by kernel_rfl) (fun _ _ _ h => h) (Or.inl ⟨by rfl, ?_⟩) ?_ ?_; rotate_left
  ·intro w'
   go_simp; with_reducible rfl
  rotate_left
  ·exact x13_put
  refine take_ (i := 3) (N := some 30) (v := ?_) (a' := ?_) (bA 7 9) rfl rfl (by kernel_rfl) (fun _ _ _ h => h) (Or.inl ⟨by rfl, ?_⟩) hHeld ?_ ?_
  rotate_left
  ·rintro w' ⟨s0, s1, s2, s3⟩
   go_simp; with_reducible rfl
  rotate_left
  ·exact x13_put
  refine join_ (σ := Value × Value × Value × Value × Nat) 1 #[true, true, true, true, true, true, false] (fun s_ => [(28, .agg #[s_.1, s_.2.1]), (29, s_.2.2.1), (31, .agg #[.int .i64 t361, .int .i64 t362, .int .i64 t363, .int .i64 t364, s_.2.2.2.1]), (4, .pointer (some ⟨s_.2.2.2.2, 0, none⟩))]) (fun s_ w' => (w'.cell? ⟨gb343, 0, none⟩ = some (.int .i64 (wrap64 (t337 - 2))) ∧ w'.cell? ⟨gb343, 1, none⟩ = some (.int .i64 (wrap64 (t340 - 2))) ∧ w'.cell? ⟨gb343, 2, none⟩ = some (.int .i64 (wrap64 ((wrap64 ((wrap64 (t337 - 2)) + 1)) + t344))) ∧ w'.cell? ⟨gb343, 3, none⟩ = some (.int .i64 (wrap64 ((wrap64 ((wrap64 (t340 - 2)) + 1)) + t347)))) ∧ (Kd.R (Kd.int .i64) 3 w' w.heap.size (fun k_ => some k_ ≠ (s_.2.2.2.1 : Value).ownBlock) s_.1 t350) ∧ (Kd.R k52 52 w' w.heap.size (fun _ => True) s_.2.1 t353) ∧ (Kd.S (Kd.slice 52 k52) 29 w' w.heap.size (fun k_ => some k_ ≠ (s_.2.1 : Value).ownBlock) s_.2.2.1 t358) ∧ (Kd.R (Kd.int .i64) 3 w' w.heap.size (fun k_ => some k_ ≠ (s_.1 : Value).ownBlock) s_.2.2.2.1 t365) ∧ (w'.heap[gb336]? = some (.cells #[.int .i64 0, .int .i64 0, .int .i64 0, .int .i64 0, .slice none 0 0] 65 (0, 0))) ∧ (w'.heap[gb343]? = some (.cells #[.int .i64 (wrap64 (t337 - 2)), .int .i64 (wrap64 (t340 - 2)), .int .i64 (wrap64 ((wrap64 ((wrap64 (t337 - 2)) + 1)) + t344)), .int .i64 (wrap64 ((wrap64 ((wrap64 (t340 - 2)) + 1)) + t347))] 63 (0, 0))) ∧ (w'.heap[s_.2.2.2.2]? = some (.cells #[.int .i64 0, .int .i64 0, .int .i64 0, .int .i64 0, .slice none 0 0] 65 (0, 0))) ∧ (w.heap.size ≤ s_.2.2.2.2) ∧ (w0.heap.size ≤ s_.2.2.2.2) ∧ (g ≠ s_.2.2.2.2) ∧ (s_.2.2.2.2 ≠ g) ∧ (gb336 ≠ s_.2.2.2.2) ∧ (s_.2.2.2.2 ≠ gb336) ∧ (gb343 ≠ s_.2.2.2.2) ∧ (s_.2.2.2.2 ≠ gb343) ∧ (IsS152 w0 w' g s0_0 t356 t357) ∧ (KeepBut w w' g none) ∧ (Below w0.heap.size w0 w')) ?_ ?_
  rotate_left
  ·intro hCont
   refine two_ (i := 1) (j := 5) (Ni := some 28) (Nj := some 4) (bA 7 11) (bA 7 41) rfl rfl rfl rfl (by kernel_rfl) (by decide) (by decide) (fun K hK => ?_) (fun K hK => ?_)
   rotate_left
   ·skip
    refine box_step ?hg (N := 4) ?hd (cs := #[.int .i64 0, .int .i64 0, .int .i64 0, .int .i64 0, .slice none 0 0]) (t := 65) ?hr ?_; (case hd => rfl); (case hg => rfl); (case hr => first | (go_simp; done) | (go_simp; rfl))
    intro gb368 hg w83 hbox hb; replace HB := bS q_82 hb; have BK368 := mk0 (hbox)
    have GW368 := mk0 ((by rw [hg]; exact (keep_size (w := w) (g := g) (row := none) z13_11) : w.heap.size ≤ gb368))
    have GE368 := mk0 ((Nat.le_trans HW0.out (by rw [hg]; exact (keep_size (w := w) (g := g) (row := none) z13_11) : w.heap.size ≤ gb368) : w0.heap.size ≤ gb368))
    replace HK := mk0 (KeepBut.trans z13_11 (KeepBut.of_below hb g none) (.inl rfl)); have NB336_368 := mk0 (nb_lt hg (blk_ltB BK336 (pkb BK336))); have NB368_336 := mk0 (nb_gt hg (blk_ltB BK336 (pkb BK336))); replace BK336 := bB BK336 hb; have NB343_368 := mk0 (nb_lt hg (blk_ltB BK343 (pkb BK343))); have NB368_343 := mk0 (nb_gt hg (blk_ltB BK343 (pkb BK343))); replace BK343 := bB BK343 hb
    have NB0_368 := mk0 ((by rw [hg]; exact Nat.ne_of_lt (IsS152.lt (show IsS152 w0 _ g s0_0 t348 t349 from q_155)) : g ≠ gb368))
    have NB368_0 := mk0 ((by rw [hg]; exact Nat.ne_of_gt (IsS152.lt (show IsS152 w0 _ g s0_0 t348 t349 from q_155)) : gb368 ≠ g))
    replace HI0 := mk0 (IsS152.below q_155 hb); clear hb hbox hg; refine hK.out _ _ ⟨(blk_cell BK343.out 0).trans rfl, (blk_cell BK343.out 1).trans rfl, (blk_cell BK343.out 2).trans rfl, (blk_cell BK343.out 3).trans rfl⟩ (fun hHeld => ?_); clear hK K
    refine norm_ (a' := ?_) ?_ ?_
    rotate_left
    ·show Act.put _ (some 4) _ = _
     simp only [Act.put, List.setIfInBounds_toArray, List.set_cons_zero, List.set_cons_succ, i64_w, i32_w]
     rfl
    refine one_ (i := 1) (N := some 28) (bA 7 43) rfl rfl (by kernel_rfl) (by decide) (fun K hK => ?_)
    refine goes_ Try.func131 (by kernel_rfl) rfl #[.pointer (some ⟨g, 0, none⟩)] (by rfl) rfl rfl q_0 ?_
    with_reducible refine (spec_l06Path.calls k g s0_0 t348 t349 t350 t353 t356 t357 w0 _ ?side1 ?side2 A6.out).mono ?_
    (case side1 => exact q_154)
    (case side2 => exact q_81)
    rintro e w84 ⟨v351, v354, rfl, ho0, ho1, hi, hb, hk⟩
    refine ⟨_, rfl, ?_⟩
    replace BK336 := kB BK336 hk (pkb BK336) NB336_0; replace BK343 := kB BK343 hk (pkb BK343) NB343_0; replace BK368 := kB BK368 hk (pkb BK368) NB368_0; have HO352 := mk0 (Kd.R_lower ho0 (keep_size (w := w) (g := g) (row := none) z13_10)); have HO355 := mk0 (Kd.R_lower ho1 (keep_size (w := w) (g := g) (row := none) z13_10)); replace HK := mk0 (KeepBut.trans z13_10 hk (.inl rfl)); replace HB := mk0 (hb); replace HI0 := mk0 (hi); (try clear hb); (try clear hb2); (try clear hk); (try clear hi); (try clear ho0); (try clear ho1); obtain ⟨Ao85, co85, eo85⟩ := Kd.R_slice HO352.out
    (first | subst eo85 | (injection eo85 with f1_ f2_ f3_; have f4_ := f1_.symm; have f5_ := f3_.symm; clear f1_ f2_ f3_; subst f4_; subst f5_))
    obtain ⟨Ao86, co86, eo86⟩ := Kd.R_slice HO355.out
    (first | subst eo86 | (injection eo86 with f1_ f2_ f3_; have f4_ := f1_.symm; have f5_ := f3_.symm; clear f1_ f2_ f3_; subst f4_; subst f5_))
    refine hK.out _ _ ⟨(blk_cell BK343.out 0).trans rfl, (blk_cell BK343.out 1).trans rfl, (blk_cell BK343.out 2).trans rfl, (blk_cell BK343.out 3).trans rfl⟩ (fun hHeld => ?_); clear hK K
    refine norm_ (a' := ?_) ?_ ?_
    rotate_left
    ·show Act.put _ (some 28) _ = _
     simp only [Act.put, List.setIfInBounds_toArray, List.set_cons_zero, List.set_cons_succ, i64_w, i32_w]
     rfl
    refine one_ (i := 2) (N := some 29) (bA 7 47) rfl rfl (by kernel_rfl) (by decide) (fun K hK => ?_)
    refine goes_ Try.func11 (by kernel_rfl) rfl #[.agg #[.slice Ao85 t350.length co85, .slice Ao86 t353.length co86]] (by rfl) rfl rfl q_0 ?_
    with_reducible refine (spec_FlatOf.calls k _ _ t350 _ _ t353 t358 _ ?side1 ?side2 ?side3 ?side4 A7.out).mono ?_
    (case side1 => exact z13_27)
    (case side2 => exact (Kd.R_reads' HO352.out).2.1)
    (case side3 => exact z13_28)
    (case side4 => exact (Kd.R_reads' HO355.out).2.1)
    rintro e w87 ⟨v359, rfl, ho0, hb⟩
    refine ⟨_, rfl, ?_⟩
    replace HO352 := bR HO352 hb; have HO360 := mk0 (Kd.S_lower (Kd.S_new' ho0 (Kd.R_lt (pkR HO355))) (keep_size (w := w) (g := g) (row := none) z13_10)); replace HO355 := bR HO355 hb; replace BK336 := bB BK336 hb; replace BK343 := bB BK343 hb; replace BK368 := bB BK368 hb; replace HK := mk0 (KeepBut.trans z13_10 (KeepBut.of_below hb g none) (.inl rfl)); replace HB := bS q_81 hb; replace HI0 := mk0 (IsS152.below q_154 hb); (try clear hb); (try clear hb2); (try clear hk); (try clear hi); (try clear ho0); obtain ⟨Ao88, co88, eo88⟩ := Kd.S_slice HO360.out
    (first | subst eo88 | (injection eo88 with f1_ f2_ f3_; have f4_ := f1_.symm; have f5_ := f3_.symm; clear f1_ f2_ f3_; subst f4_; subst f5_))
    refine hK.out _ _ ⟨(blk_cell BK343.out 0).trans rfl, (blk_cell BK343.out 1).trans rfl, (blk_cell BK343.out 2).trans rfl, (blk_cell BK343.out 3).trans rfl⟩ (fun hHeld => ?_); clear hK K
    refine norm_ (a' := ?_) ?_ ?_
    rotate_left
    ·show Act.put _ (some 29) _ = _
     simp only [Act.put, List.setIfInBounds_toArray, List.set_cons_zero, List.set_cons_succ, i64_w, i32_w]
     rfl
    refine one_ (i := 4) (N := some 31) (bA 7 63) rfl rfl (by kernel_rfl) (by decide) (fun K hK => ?_)
    refine goes_ Try.func33 (by kernel_rfl) rfl #[.slice Ao88 t358.length co88, .bool false, .agg #[.int .i64 (wrap64 (t337 - 2)), .int .i64 (wrap64 (t340 - 2)), .int .i64 (wrap64 ((wrap64 ((wrap64 (t337 - 2)) + 1)) + t344)), .int .i64 (wrap64 ((wrap64 ((wrap64 (t340 - 2)) + 1)) + t347))]] (by rfl) rfl rfl q_0 ?_
    with_reducible refine (spec_MaskOf.calls k _ _ t358 false (wrap64 (t337 - 2)) (wrap64 (t340 - 2)) (wrap64 ((wrap64 ((wrap64 (t337 - 2)) + 1)) + t344)) (wrap64 ((wrap64 ((wrap64 (t340 - 2)) + 1)) + t347)) t361 t362 t363 t364 t365 _ ?side1 ?side2 A8.out).mono ?_
    (case side1 => exact z13_18)
    (case side2 => exact (Kd.S_reads' HO360.out).2.1)
    rintro e w89 ⟨v366, rfl, ho0, hb⟩
    refine ⟨_, rfl, ?_⟩
    replace HO355 := bR HO355 hb; replace HO360 := bSS HO360 hb; have HO367 := mk0 (Kd.R_lower (Kd.R_new' ho0 (Kd.R_lt (pkR HO352))) (keep_size (w := w) (g := g) (row := none) z13_10)); replace HO352 := mk0 (Kd.R_elder' (pkR HO352) (Kd.R_base ho0) hb); replace BK336 := bB BK336 hb; replace BK343 := bB BK343 hb; replace BK368 := bB BK368 hb; replace HK := mk0 (KeepBut.trans z13_10 (KeepBut.of_below hb g none) (.inl rfl)); replace HB := bS q_81 hb; replace HI0 := mk0 (IsS152.below q_154 hb); (try clear hb); (try clear hb2); (try clear hk); (try clear hi); (try clear ho0); refine hK.out _ _ ⟨(blk_cell BK343.out 0).trans rfl, (blk_cell BK343.out 1).trans rfl, (blk_cell BK343.out 2).trans rfl, (blk_cell BK343.out 3).trans rfl⟩ (fun hHeld => ?_); clear hK K
    refine norm_ (a' := ?_) ?_ ?_
    rotate_left
    ·show Act.put _ (some 31) _ = _
     simp only [Act.put, List.setIfInBounds_toArray, List.set_cons_zero, List.set_cons_succ, i64_w, i32_w]
     rfl
    exact norm_ z13_33 (hCont (.slice Ao85 t350.length co85, .slice Ao86 t353.length co86, .slice Ao88 t358.length co88, v366, gb368) _ ⟨hHeld, z13_24, (pkR HO355), z13_25, z13_26, (pkb BK336), (pkb BK343), (pkb BK368), GW368.out, GE368.out, NB0_368.out, NB368_0.out, NB336_368.out, NB368_336.out, NB343_368.out, NB368_343.out, q_154, z13_10, q_81⟩)
   skip
   refine goes_ Try.func131 (by kernel_rfl) rfl #[.pointer (some ⟨g, 0, none⟩)] (by rfl) rfl rfl q_0 ?_
   with_reducible refine (spec_l06Path.calls k g s0_0 t348 t349 t350 t353 t356 t357 w0 _ ?side1 ?side2 A6.out).mono ?_
   (case side1 => exact q_155)
   (case side2 => exact q_82)
   rintro e w83 ⟨v351, v354, rfl, ho0, ho1, hi, hb, hk⟩
   refine ⟨_, rfl, ?_⟩
   replace BK336 := kB BK336 hk (pkb BK336) NB336_0; replace BK343 := kB BK343 hk (pkb BK343) NB343_0; have HO352 := mk0 (Kd.R_lower ho0 (keep_size (w := w) (g := g) (row := none) z13_11)); have HO355 := mk0 (Kd.R_lower ho1 (keep_size (w := w) (g := g) (row := none) z13_11)); replace HK := mk0 (KeepBut.trans z13_11 hk (.inl rfl)); replace HB := mk0 (hb); replace HI0 := mk0 (hi); (try clear hb); (try clear hb2); (try clear hk); (try clear hi); (try clear ho0); (try clear ho1); obtain ⟨Ao84, co84, eo84⟩ := Kd.R_slice HO352.out
   (first | subst eo84 | (injection eo84 with f1_ f2_ f3_; have f4_ := f1_.symm; have f5_ := f3_.symm; clear f1_ f2_ f3_; subst f4_; subst f5_))
   obtain ⟨Ao85, co85, eo85⟩ := Kd.R_slice HO355.out
   (first | subst eo85 | (injection eo85 with f1_ f2_ f3_; have f4_ := f1_.symm; have f5_ := f3_.symm; clear f1_ f2_ f3_; subst f4_; subst f5_))
   refine hK.out _ _ ⟨(blk_cell BK343.out 0).trans rfl, (blk_cell BK343.out 1).trans rfl, (blk_cell BK343.out 2).trans rfl, (blk_cell BK343.out 3).trans rfl⟩ (fun hHeld => ?_); clear hK K
   refine norm_ (a' := ?_) ?_ ?_
   rotate_left
   ·show Act.put _ (some 28) _ = _
    simp only [Act.put, List.setIfInBounds_toArray, List.set_cons_zero, List.set_cons_succ, i64_w, i32_w]
    rfl
   refine two_ (i := 2) (j := 5) (Ni := some 29) (Nj := some 4) (bA 7 15) (bA 7 43) rfl rfl rfl rfl (by kernel_rfl) (by decide) (by decide) (fun K hK => ?_) (fun K hK => ?_)
   rotate_left
   ·skip
    refine box_step ?hg (N := 4) ?hd (cs := #[.int .i64 0, .int .i64 0, .int .i64 0, .int .i64 0, .slice none 0 0]) (t := 65) ?hr ?_; (case hd => rfl); (case hg => rfl); (case hr => first | (go_simp; done) | (go_simp; rfl))
    intro gb368 hg w84 hbox hb; replace HO352 := bR HO352 hb; replace HO355 := bR HO355 hb; replace HB := bS q_82 hb; have BK368 := mk0 (hbox)
    have GW368 := mk0 ((by rw [hg]; exact (keep_size (w := w) (g := g) (row := none) z13_11) : w.heap.size ≤ gb368))
    have GE368 := mk0 ((Nat.le_trans HW0.out (by rw [hg]; exact (keep_size (w := w) (g := g) (row := none) z13_11) : w.heap.size ≤ gb368) : w0.heap.size ≤ gb368))
    replace HK := mk0 (KeepBut.trans z13_11 (KeepBut.of_below hb g none) (.inl rfl)); have NB336_368 := mk0 (nb_lt hg (blk_ltB BK336 (pkb BK336))); have NB368_336 := mk0 (nb_gt hg (blk_ltB BK336 (pkb BK336))); replace BK336 := bB BK336 hb; have NB343_368 := mk0 (nb_lt hg (blk_ltB BK343 (pkb BK343))); have NB368_343 := mk0 (nb_gt hg (blk_ltB BK343 (pkb BK343))); replace BK343 := bB BK343 hb
    have NB0_368 := mk0 ((by rw [hg]; exact Nat.ne_of_lt (IsS152.lt (show IsS152 w0 _ g s0_0 t356 t357 from q_155)) : g ≠ gb368))
    have NB368_0 := mk0 ((by rw [hg]; exact Nat.ne_of_gt (IsS152.lt (show IsS152 w0 _ g s0_0 t356 t357 from q_155)) : gb368 ≠ g))
    replace HI0 := mk0 (IsS152.below q_155 hb); clear hb hbox hg; obtain ⟨Ao85, co85, eo85⟩ := Kd.R_slice HO352.out
    (first | subst eo85 | (injection eo85 with f1_ f2_ f3_; have f4_ := f1_.symm; have f5_ := f3_.symm; clear f1_ f2_ f3_; subst f4_; subst f5_))
    obtain ⟨Ao86, co86, eo86⟩ := Kd.R_slice HO355.out
    (first | subst eo86 | (injection eo86 with f1_ f2_ f3_; have f4_ := f1_.symm; have f5_ := f3_.symm; clear f1_ f2_ f3_; subst f4_; subst f5_))
    refine hK.out _ _ ⟨(blk_cell BK343.out 0).trans rfl, (blk_cell BK343.out 1).trans rfl, (blk_cell BK343.out 2).trans rfl, (blk_cell BK343.out 3).trans rfl⟩ (fun hHeld => ?_); clear hK K
    refine norm_ (a' := ?_) ?_ ?_
    rotate_left
    ·show Act.put _ (some 4) _ = _
     simp only [Act.put, List.setIfInBounds_toArray, List.set_cons_zero, List.set_cons_succ, i64_w, i32_w]
     rfl
    refine one_ (i := 2) (N := some 29) (bA 7 47) rfl rfl (by kernel_rfl) (by decide) (fun K hK => ?_)
    refine goes_ Try.func11 (by kernel_rfl) rfl #[.agg #[.slice Ao85 t350.length co85, .slice Ao86 t353.length co86]] (by rfl) rfl rfl q_0 ?_
    with_reducible refine (spec_FlatOf.calls k _ _ t350 _ _ t353 t358 _ ?side1 ?side2 ?side3 ?side4 A7.out).mono ?_
    (case side1 => exact z13_27)
    (case side2 => exact (Kd.R_reads' HO352.out).2.1)
    (case side3 => exact z13_28)
    (case side4 => exact (Kd.R_reads' HO355.out).2.1)
    rintro e w87 ⟨v359, rfl, ho0, hb⟩
    refine ⟨_, rfl, ?_⟩
    replace HO352 := bR HO352 hb; have HO360 := mk0 (Kd.S_lower (Kd.S_new' ho0 (Kd.R_lt (pkR HO355))) (keep_size (w := w) (g := g) (row := none) z13_10)); replace HO355 := bR HO355 hb; replace BK336 := bB BK336 hb; replace BK343 := bB BK343 hb; replace BK368 := bB BK368 hb; replace HK := mk0 (KeepBut.trans z13_10 (KeepBut.of_below hb g none) (.inl rfl)); replace HB := bS q_81 hb; replace HI0 := mk0 (IsS152.below q_154 hb); (try clear hb); (try clear hb2); (try clear hk); (try clear hi); (try clear ho0); obtain ⟨Ao88, co88, eo88⟩ := Kd.S_slice HO360.out
    (first | subst eo88 | (injection eo88 with f1_ f2_ f3_; have f4_ := f1_.symm; have f5_ := f3_.symm; clear f1_ f2_ f3_; subst f4_; subst f5_))
    refine hK.out _ _ ⟨(blk_cell BK343.out 0).trans rfl, (blk_cell BK343.out 1).trans rfl, (blk_cell BK343.out 2).trans rfl, (blk_cell BK343.out 3).trans rfl⟩ (fun hHeld => ?_); clear hK K
    refine norm_ (a' := ?_) ?_ ?_
    rotate_left
    ·show Act.put _ (some 29) _ = _
     simp only [Act.put, List.setIfInBounds_toArray, List.set_cons_zero, List.set_cons_succ, i64_w, i32_w]
     rfl
    refine one_ (i := 4) (N := some 31) (bA 7 63) rfl rfl (by kernel_rfl) (by decide) (fun K hK => ?_)
    refine goes_ Try.func33 (by kernel_rfl) rfl #[.slice Ao88 t358.length co88, .bool false, .agg #[.int .i64 (wrap64 (t337 - 2)), .int .i64 (wrap64 (t340 - 2)), .int .i64 (wrap64 ((wrap64 ((wrap64 (t337 - 2)) + 1)) + t344)), .int .i64 (wrap64 ((wrap64 ((wrap64 (t340 - 2)) + 1)) + t347))]] (by rfl) rfl rfl q_0 ?_
    with_reducible refine (spec_MaskOf.calls k _ _ t358 false (wrap64 (t337 - 2)) (wrap64 (t340 - 2)) (wrap64 ((wrap64 ((wrap64 (t337 - 2)) + 1)) + t344)) (wrap64 ((wrap64 ((wrap64 (t340 - 2)) + 1)) + t347)) t361 t362 t363 t364 t365 _ ?side1 ?side2 A8.out).mono ?_
    (case side1 => exact z13_18)
    (case side2 => exact (Kd.S_reads' HO360.out).2.1)
    rintro e w89 ⟨v366, rfl, ho0, hb⟩
    refine ⟨_, rfl, ?_⟩
    replace HO355 := bR HO355 hb; replace HO360 := bSS HO360 hb; have HO367 := mk0 (Kd.R_lower (Kd.R_new' ho0 (Kd.R_lt (pkR HO352))) (keep_size (w := w) (g := g) (row := none) z13_10)); replace HO352 := mk0 (Kd.R_elder' (pkR HO352) (Kd.R_base ho0) hb); replace BK336 := bB BK336 hb; replace BK343 := bB BK343 hb; replace BK368 := bB BK368 hb; replace HK := mk0 (KeepBut.trans z13_10 (KeepBut.of_below hb g none) (.inl rfl)); replace HB := bS q_81 hb; replace HI0 := mk0 (IsS152.below q_154 hb); (try clear hb); (try clear hb2); (try clear hk); (try clear hi); (try clear ho0); refine hK.out _ _ ⟨(blk_cell BK343.out 0).trans rfl, (blk_cell BK343.out 1).trans rfl, (blk_cell BK343.out 2).trans rfl, (blk_cell BK343.out 3).trans rfl⟩ (fun hHeld => ?_); clear hK K
    refine norm_ (a' := ?_) ?_ ?_
    rotate_left
    ·show Act.put _ (some 31) _ = _
     simp only [Act.put, List.setIfInBounds_toArray, List.set_cons_zero, List.set_cons_succ, i64_w, i32_w]
     rfl
    exact norm_ z13_33 (hCont (.slice Ao85 t350.length co85, .slice Ao86 t353.length co86, .slice Ao88 t358.length co88, v366, gb368) _ ⟨hHeld, z13_24, (pkR HO355), z13_25, z13_26, (pkb BK336), (pkb BK343), (pkb BK368), GW368.out, GE368.out, NB0_368.out, NB368_0.out, NB336_368.out, NB368_336.out, NB343_368.out, NB368_343.out, q_154, z13_10, q_81⟩)
   skip
   refine goes_ Try.func11 (by kernel_rfl) rfl #[.agg #[.slice Ao84 t350.length co84, .slice Ao85 t353.length co85]] (by rfl) rfl rfl q_0 ?_
   with_reducible refine (spec_FlatOf.calls k _ _ t350 _ _ t353 t358 _ ?side1 ?side2 ?side3 ?side4 A7.out).mono ?_
   (case side1 => exact z13_27)
   (case side2 => exact (Kd.R_reads' HO352.out).2.1)
   (case side3 => exact z13_28)
   (case side4 => exact (Kd.R_reads' HO355.out).2.1)
   rintro e w86 ⟨v359, rfl, ho0, hb⟩
   refine ⟨_, rfl, ?_⟩
   replace HO352 := bR HO352 hb; have HO360 := mk0 (Kd.S_lower (Kd.S_new' ho0 (Kd.R_lt (pkR HO355))) (keep_size (w := w) (g := g) (row := none) z13_11)); replace HO355 := bR HO355 hb; replace BK336 := bB BK336 hb; replace BK343 := bB BK343 hb; replace HK := mk0 (KeepBut.trans z13_11 (KeepBut.of_below hb g none) (.inl rfl)); replace HB := bS q_82 hb; replace HI0 := mk0 (IsS152.below q_155 hb); (try clear hb); (try clear hb2); (try clear hk); (try clear hi); (try clear ho0); obtain ⟨Ao87, co87, eo87⟩ := Kd.S_slice HO360.out
   (first | subst eo87 | (injection eo87 with f1_ f2_ f3_; have f4_ := f1_.symm; have f5_ := f3_.symm; clear f1_ f2_ f3_; subst f4_; subst f5_))
   refine hK.out _ _ ⟨(blk_cell BK343.out 0).trans rfl, (blk_cell BK343.out 1).trans rfl, (blk_cell BK343.out 2).trans rfl, (blk_cell BK343.out 3).trans rfl⟩ (fun hHeld => ?_); clear hK K
   refine norm_ (a' := ?_) ?_ ?_
   rotate_left
   ·show Act.put _ (some 29) _ = _
    simp only [Act.put, List.setIfInBounds_toArray, List.set_cons_zero, List.set_cons_succ, i64_w, i32_w]
    rfl
   refine two_ (i := 4) (j := 5) (Ni := some 31) (Nj := some 4) (bA 7 31) (bA 7 47) rfl rfl rfl rfl (by kernel_rfl) (by decide) (by decide) (fun K hK => ?_) (fun K hK => ?_)
   ·skip
    refine goes_ Try.func33 (by kernel_rfl) rfl #[.slice Ao87 t358.length co87, .bool false, .agg #[.int .i64 (wrap64 (t337 - 2)), .int .i64 (wrap64 (t340 - 2)), .int .i64 (wrap64 ((wrap64 ((wrap64 (t337 - 2)) + 1)) + t344)), .int .i64 (wrap64 ((wrap64 ((wrap64 (t340 - 2)) + 1)) + t347))]] (by rfl) rfl rfl q_0 ?_
    with_reducible refine (spec_MaskOf.calls k _ _ t358 false (wrap64 (t337 - 2)) (wrap64 (t340 - 2)) (wrap64 ((wrap64 ((wrap64 (t337 - 2)) + 1)) + t344)) (wrap64 ((wrap64 ((wrap64 (t340 - 2)) + 1)) + t347)) t361 t362 t363 t364 t365 _ ?side1 ?side2 A8.out).mono ?_
    (case side1 => exact z13_18)
    (case side2 => exact (Kd.S_reads' HO360.out).2.1)
    rintro e w88 ⟨v366, rfl, ho0, hb⟩
    refine ⟨_, rfl, ?_⟩
    replace HO355 := bR HO355 hb; replace HO360 := bSS HO360 hb; have HO367 := mk0 (Kd.R_lower (Kd.R_new' ho0 (Kd.R_lt (pkR HO352))) (keep_size (w := w) (g := g) (row := none) z13_11)); replace HO352 := mk0 (Kd.R_elder' (pkR HO352) (Kd.R_base ho0) hb); replace BK336 := bB BK336 hb; replace BK343 := bB BK343 hb; replace HK := mk0 (KeepBut.trans z13_11 (KeepBut.of_below hb g none) (.inl rfl)); replace HB := bS q_82 hb; replace HI0 := mk0 (IsS152.below q_155 hb); (try clear hb); (try clear hb2); (try clear hk); (try clear hi); (try clear ho0); refine hK.out _ _ ⟨(blk_cell BK343.out 0).trans rfl, (blk_cell BK343.out 1).trans rfl, (blk_cell BK343.out 2).trans rfl, (blk_cell BK343.out 3).trans rfl⟩ (fun hHeld => ?_); clear hK K
    refine norm_ (a' := ?_) ?_ ?_
    rotate_left
    ·show Act.put _ (some 31) _ = _
     simp only [Act.put, List.setIfInBounds_toArray, List.set_cons_zero, List.set_cons_succ, i64_w, i32_w]
     rfl
    refine one_ (i := 5) (N := some 4) (bA 7 63) rfl rfl (by kernel_rfl) (by decide) (fun K hK => ?_)
    refine box_step ?hg (N := 4) ?hd (cs := #[.int .i64 0, .int .i64 0, .int .i64 0, .int .i64 0, .slice none 0 0]) (t := 65) ?hr ?_; (case hd => rfl); (case hg => rfl); (case hr => first | (go_simp; done) | (go_simp; rfl))
    intro gb368 hg w89 hbox hb; replace HO352 := bR HO352 hb; replace HO355 := bR HO355 hb; replace HO360 := bSS HO360 hb; replace HO367 := bR HO367 hb; replace HB := bS q_82 hb; have BK368 := mk0 (hbox)
    have GW368 := mk0 ((by rw [hg]; exact (keep_size (w := w) (g := g) (row := none) z13_11) : w.heap.size ≤ gb368))
    have GE368 := mk0 ((Nat.le_trans HW0.out (by rw [hg]; exact (keep_size (w := w) (g := g) (row := none) z13_11) : w.heap.size ≤ gb368) : w0.heap.size ≤ gb368))
    replace HK := mk0 (KeepBut.trans z13_11 (KeepBut.of_below hb g none) (.inl rfl)); have NB336_368 := mk0 (nb_lt hg (blk_ltB BK336 (pkb BK336))); have NB368_336 := mk0 (nb_gt hg (blk_ltB BK336 (pkb BK336))); replace BK336 := bB BK336 hb; have NB343_368 := mk0 (nb_lt hg (blk_ltB BK343 (pkb BK343))); have NB368_343 := mk0 (nb_gt hg (blk_ltB BK343 (pkb BK343))); replace BK343 := bB BK343 hb
    have NB0_368 := mk0 ((by rw [hg]; exact Nat.ne_of_lt (IsS152.lt (show IsS152 w0 _ g s0_0 t356 t357 from q_155)) : g ≠ gb368))
    have NB368_0 := mk0 ((by rw [hg]; exact Nat.ne_of_gt (IsS152.lt (show IsS152 w0 _ g s0_0 t356 t357 from q_155)) : gb368 ≠ g))
    replace HI0 := mk0 (IsS152.below q_155 hb); clear hb hbox hg; refine hK.out _ _ ⟨(blk_cell BK343.out 0).trans rfl, (blk_cell BK343.out 1).trans rfl, (blk_cell BK343.out 2).trans rfl, (blk_cell BK343.out 3).trans rfl⟩ (fun hHeld => ?_); clear hK K
    refine norm_ (a' := ?_) ?_ ?_
    rotate_left
    ·show Act.put _ (some 4) _ = _
     simp only [Act.put, List.setIfInBounds_toArray, List.set_cons_zero, List.set_cons_succ, i64_w, i32_w]
     rfl
    exact norm_ z13_33 (hCont (.slice Ao84 t350.length co84, .slice Ao85 t353.length co85, .slice Ao87 t358.length co87, v366, gb368) _ ⟨hHeld, z13_24, (pkR HO355), z13_25, z13_26, (pkb BK336), (pkb BK343), (pkb BK368), GW368.out, GE368.out, NB0_368.out, NB368_0.out, NB336_368.out, NB368_336.out, NB343_368.out, NB368_343.out, q_154, z13_10, q_81⟩)
   skip
   refine box_step ?hg (N := 4) ?hd (cs := #[.int .i64 0, .int .i64 0, .int .i64 0, .int .i64 0, .slice none 0 0]) (t := 65) ?hr ?_; (case hd => rfl); (case hg => rfl); (case hr => first | (go_simp; done) | (go_simp; rfl))
   intro gb368 hg w87 hbox hb; replace HO352 := bR HO352 hb; replace HO355 := bR HO355 hb; replace HO360 := bSS HO360 hb; replace HB := bS q_82 hb; have BK368 := mk0 (hbox)
   have GW368 := mk0 ((by rw [hg]; exact (keep_size (w := w) (g := g) (row := none) z13_11) : w.heap.size ≤ gb368))
   have GE368 := mk0 ((Nat.le_trans HW0.out (by rw [hg]; exact (keep_size (w := w) (g := g) (row := none) z13_11) : w.heap.size ≤ gb368) : w0.heap.size ≤ gb368))
   replace HK := mk0 (KeepBut.trans z13_11 (KeepBut.of_below hb g none) (.inl rfl)); have NB336_368 := mk0 (nb_lt hg (blk_ltB BK336 (pkb BK336))); have NB368_336 := mk0 (nb_gt hg (blk_ltB BK336 (pkb BK336))); replace BK336 := bB BK336 hb; have NB343_368 := mk0 (nb_lt hg (blk_ltB BK343 (pkb BK343))); have NB368_343 := mk0 (nb_gt hg (blk_ltB BK343 (pkb BK343))); replace BK343 := bB BK343 hb
   have NB0_368 := mk0 ((by rw [hg]; exact Nat.ne_of_lt (IsS152.lt (show IsS152 w0 _ g s0_0 t356 t357 from q_155)) : g ≠ gb368))
   have NB368_0 := mk0 ((by rw [hg]; exact Nat.ne_of_gt (IsS152.lt (show IsS152 w0 _ g s0_0 t356 t357 from q_155)) : gb368 ≠ g))
   replace HI0 := mk0 (IsS152.below q_155 hb); clear hb hbox hg; obtain ⟨Ao88, co88, eo88⟩ := Kd.S_slice HO360.out
   (first | subst eo88 | (injection eo88 with f1_ f2_ f3_; have f4_ := f1_.symm; have f5_ := f3_.symm; clear f1_ f2_ f3_; subst f4_; subst f5_))
   refine hK.out _ _ ⟨(blk_cell BK343.out 0).trans rfl, (blk_cell BK343.out 1).trans rfl, (blk_cell BK343.out 2).trans rfl, (blk_cell BK343.out 3).trans rfl⟩ (fun hHeld => ?_); clear hK K
   refine norm_ (a' := ?_) ?_ ?_
   rotate_left
   ·show Act.put _ (some 4) _ = _
    simp only [Act.put, List.setIfInBounds_toArray, List.set_cons_zero, List.set_cons_succ, i64_w, i32_w]
    rfl
   refine one_ (i := 4) (N := some 31) (bA 7 63) rfl rfl (by kernel_rfl) (by decide) (fun K hK => ?_)
   refine goes_ Try.func33 (by kernel_rfl) rfl #[.slice Ao88 t358.length co88, .bool false, .agg #[.int .i64 (wrap64 (t337 - 2)), .int .i64 (wrap64 (t340 - 2)), .int .i64 (wrap64 ((wrap64 ((wrap64 (t337 - 2)) + 1)) + t344)), .int .i64 (wrap64 ((wrap64 ((wrap64 (t340 - 2)) + 1)) + t347))]] (by rfl) rfl rfl q_0 ?_
   with_reducible refine (spec_MaskOf.calls k _ _ t358 false (wrap64 (t337 - 2)) (wrap64 (t340 - 2)) (wrap64 ((wrap64 ((wrap64 (t337 - 2)) + 1)) + t344)) (wrap64 ((wrap64 ((wrap64 (t340 - 2)) + 1)) + t347)) t361 t362 t363 t364 t365 _ ?side1 ?side2 A8.out).mono ?_
   (case side1 => exact z13_18)
   (case side2 => exact (Kd.S_reads' HO360.out).2.1)
   rintro e w89 ⟨v366, rfl, ho0, hb⟩
   refine ⟨_, rfl, ?_⟩
   replace HO355 := bR HO355 hb; replace HO360 := bSS HO360 hb; have HO367 := mk0 (Kd.R_lower (Kd.R_new' ho0 (Kd.R_lt (pkR HO352))) (keep_size (w := w) (g := g) (row := none) z13_10)); replace HO352 := mk0 (Kd.R_elder' (pkR HO352) (Kd.R_base ho0) hb); replace BK336 := bB BK336 hb; replace BK343 := bB BK343 hb; replace BK368 := bB BK368 hb; replace HK := mk0 (KeepBut.trans z13_10 (KeepBut.of_below hb g none) (.inl rfl)); replace HB := bS q_81 hb; replace HI0 := mk0 (IsS152.below q_154 hb); (try clear hb); (try clear hb2); (try clear hk); (try clear hi); (try clear ho0); refine hK.out _ _ ⟨(blk_cell BK343.out 0).trans rfl, (blk_cell BK343.out 1).trans rfl, (blk_cell BK343.out 2).trans rfl, (blk_cell BK343.out 3).trans rfl⟩ (fun hHeld => ?_); clear hK K
   refine norm_ (a' := ?_) ?_ ?_
   rotate_left
   ·show Act.put _ (some 31) _ = _
    simp only [Act.put, List.setIfInBounds_toArray, List.set_cons_zero, List.set_cons_succ, i64_w, i32_w]
    rfl
   exact norm_ z13_33 (hCont (.slice Ao84 t350.length co84, .slice Ao85 t353.length co85, .slice Ao88 t358.length co88, v366, gb368) _ ⟨hHeld, z13_24, (pkR HO355), z13_25, z13_26, (pkb BK336), (pkb BK343), (pkb BK368), GW368.out, GE368.out, NB0_368.out, NB368_0.out, NB336_368.out, NB368_336.out, NB343_368.out, NB368_343.out, q_154, z13_10, q_81⟩)
  rintro ⟨v351, v354, v359, v366, gb368⟩ w90 ⟨hS_, h0_, h1_, h2_, h3_, h4_, h5_, h6_, h7_, h8_, h9_, h10_, h11_, h12_, h13_, h14_, h15_, h16_, h17_⟩
  have n0_ : Aside0 (Kd.R (Kd.int .i64) 3 w90 w.heap.size (fun k_ => some k_ ≠ (v366 : Value).ownBlock) v351 t350) := ⟨h0_⟩
  have n1_ : Aside0 (Kd.R k52 52 w90 w.heap.size (fun _ => True) v354 t353) := ⟨h1_⟩
  have n2_ : Aside0 (Kd.S (Kd.slice 52 k52) 29 w90 w.heap.size (fun k_ => some k_ ≠ (v354 : Value).ownBlock) v359 t358) := ⟨h2_⟩
  have n3_ : Aside0 (Kd.R (Kd.int .i64) 3 w90 w.heap.size (fun k_ => some k_ ≠ (v351 : Value).ownBlock) v366 t365) := ⟨h3_⟩
  have n4_ : Aside0 (w90.heap[gb336]? = some (.cells #[.int .i64 0, .int .i64 0, .int .i64 0, .int .i64 0, .slice none 0 0] 65 (0, 0))) := ⟨h4_⟩
  have n5_ : Aside0 (w90.heap[gb343]? = some (.cells #[.int .i64 (wrap64 (t337 - 2)), .int .i64 (wrap64 (t340 - 2)), .int .i64 (wrap64 ((wrap64 ((wrap64 (t337 - 2)) + 1)) + t344)), .int .i64 (wrap64 ((wrap64 ((wrap64 (t340 - 2)) + 1)) + t347))] 63 (0, 0))) := ⟨h5_⟩
  have n6_ : Aside0 (w90.heap[gb368]? = some (.cells #[.int .i64 0, .int .i64 0, .int .i64 0, .int .i64 0, .slice none 0 0] 65 (0, 0))) := ⟨h6_⟩
  have n7_ : Aside0 (w.heap.size ≤ gb368) := ⟨h7_⟩
  have n8_ : Aside0 (w0.heap.size ≤ gb368) := ⟨h8_⟩
  have n9_ : Aside0 (g ≠ gb368) := ⟨h9_⟩
  have n10_ : Aside0 (gb368 ≠ g) := ⟨h10_⟩
  have n11_ : Aside0 (gb336 ≠ gb368) := ⟨h11_⟩
  have n12_ : Aside0 (gb368 ≠ gb336) := ⟨h12_⟩
  have n13_ : Aside0 (gb343 ≠ gb368) := ⟨h13_⟩
  have n14_ : Aside0 (gb368 ≠ gb343) := ⟨h14_⟩
  have n15_ : Aside0 (IsS152 w0 w90 g s0_0 t356 t357) := ⟨h15_⟩
  have n16_ : Aside0 (KeepBut w w90 g none) := ⟨h16_⟩
  have n17_ : Aside0 (Below w0.heap.size w0 w90) := ⟨h17_⟩
  clear BK336 BK343 HI0 HK HB h0_ h1_ h2_ h3_ h4_ h5_ h6_ h7_ h8_ h9_ h10_ h11_ h12_ h13_ h14_ h15_ h16_ h17_; have HO352 := n0_; have HO355 := n1_; have HO360 := n2_; have HO367 := n3_; have BK336 := n4_; have BK343 := n5_; have BK368 := n6_; have GW368 := n7_; have GE368 := n8_; have NB0_368 := n9_; have NB368_0 := n10_; have NB336_368 := n11_; have NB368_336 := n12_; have NB343_368 := n13_; have NB368_343 := n14_; have HI0 := n15_; have HK := n16_; have HB := n17_; clear n0_ n1_ n2_ n3_ n4_ n5_ n6_ n7_ n8_ n9_ n10_ n11_ n12_ n13_ n14_ n15_ n16_ n17_
  have hHeld : w90.cell? ⟨gb343, 0, none⟩ = some (.int .i64 (wrap64 (t337 - 2))) ∧ w90.cell? ⟨gb343, 1, none⟩ = some (.int .i64 (wrap64 (t340 - 2))) ∧ w90.cell? ⟨gb343, 2, none⟩ = some (.int .i64 (wrap64 ((wrap64 ((wrap64 (t337 - 2)) + 1)) + t344))) ∧ w90.cell? ⟨gb343, 3, none⟩ = some (.int .i64 (wrap64 ((wrap64 ((wrap64 (t340 - 2)) + 1)) + t347))) := hS_
  obtain ⟨Ao95, co95, eo95⟩ := Kd.R_slice HO367.out
  (first | subst eo95 | (injection eo95 with f1_ f2_ f3_; have f4_ := f1_.symm; have f5_ := f3_.symm; clear f1_ f2_ f3_; subst f4_; subst f5_))
  refine norm_ (a' := ?_) ?_ ?_
  rotate_left
  ·simp only [putAll, Act.put, List.setIfInBounds_toArray, List.set_cons_zero, List.set_cons_succ]
   rfl
  refine one_ (i := 6) (N := none) (bA 7 127) rfl rfl (by kernel_rfl) (by decide) (fun K hK => ?_)
  have hs91 : w90.cell? ⟨gb368, 0, none⟩ = some (.int .i64 0) := (blk_cell BK368.out 0).trans rfl
  have hfs91 := blk_frozen BK368.out 0; have hns91_0 := NB336_368.out; have hns91_1 := NB343_368.out; have hms91_0 := NB368_336.out; have hms91_1 := NB368_343.out
  have hs92 : w90.cell? ⟨gb368, 1, none⟩ = some (.int .i64 0) := (blk_cell BK368.out 1).trans rfl
  have hfs92 := blk_frozen BK368.out 1; have hns92_0 := NB336_368.out; have hns92_1 := NB343_368.out; have hms92_0 := NB368_336.out; have hms92_1 := NB368_343.out
  have hs93 : w90.cell? ⟨gb368, 2, none⟩ = some (.int .i64 0) := (blk_cell BK368.out 2).trans rfl
  have hfs93 := blk_frozen BK368.out 2; have hns93_0 := NB336_368.out; have hns93_1 := NB343_368.out; have hms93_0 := NB368_336.out; have hms93_1 := NB368_343.out
  have hs94 : w90.cell? ⟨gb368, 3, none⟩ = some (.int .i64 0) := (blk_cell BK368.out 3).trans rfl
  have hfs94 := blk_frozen BK368.out 3; have hns94_0 := NB336_368.out; have hns94_1 := NB343_368.out; have hms94_0 := NB368_336.out; have hms94_1 := NB368_343.out
  have hs96 : w90.cell? ⟨gb368, 4, none⟩ = some (.slice none 0 0) := (blk_cell BK368.out 4).trans rfl
  have hfs96 := blk_frozen BK368.out 4; have hns96_0 := NB336_368.out; have hns96_1 := NB343_368.out; have hms96_0 := NB368_336.out; have hms96_1 := NB368_343.out
  refine skip_ (w1 := ?_) ?hwx ?hN ?_ ?_; (case hwx => rfl); (case hN => rfl)
  rotate_left
  ·go_simp
   rfl
  refine hK.out _ _ ⟨((cell_far (p := ⟨gb368, _, none⟩) NB343_368.out _).trans (((cell_far (p := ⟨gb368, _, none⟩) NB343_368.out _).trans (((cell_far (p := ⟨gb368, _, none⟩) NB343_368.out _).trans (((cell_far (p := ⟨gb368, _, none⟩) NB343_368.out _).trans (((cell_far (p := ⟨gb368, _, none⟩) NB343_368.out _).trans (hHeld.1)))))))))), ((cell_far (p := ⟨gb368, _, none⟩) NB343_368.out _).trans (((cell_far (p := ⟨gb368, _, none⟩) NB343_368.out _).trans (((cell_far (p := ⟨gb368, _, none⟩) NB343_368.out _).trans (((cell_far (p := ⟨gb368, _, none⟩) NB343_368.out _).trans (((cell_far (p := ⟨gb368, _, none⟩) NB343_368.out _).trans (hHeld.2.1)))))))))), ((cell_far (p := ⟨gb368, _, none⟩) NB343_368.out _).trans (((cell_far (p := ⟨gb368, _, none⟩) NB343_368.out _).trans (((cell_far (p := ⟨gb368, _, none⟩) NB343_368.out _).trans (((cell_far (p := ⟨gb368, _, none⟩) NB343_368.out _).trans (((cell_far (p := ⟨gb368, _, none⟩) NB343_368.out _).trans (hHeld.2.2.1)))))))))), ((cell_far (p := ⟨gb368, _, none⟩) NB343_368.out _).trans (((cell_far (p := ⟨gb368, _, none⟩) NB343_368.out _).trans (((cell_far (p := ⟨gb368, _, none⟩) NB343_368.out _).trans (((cell_far (p := ⟨gb368, _, none⟩) NB343_368.out _).trans (((cell_far (p := ⟨gb368, _, none⟩) NB343_368.out _).trans (hHeld.2.2.2))))))))))⟩ (fun hHeld => ?_); clear hK K
  refine done_ (by kernel_rfl) ?_
  try go_wp2_with (first | ((with_reducible refine gate_callee (f := 95) rfl ?_); refine gl_ (some 33) Try.func95 #[.pointer (some ⟨g, 0, none⟩), .int .i64 3] rfl q_0 ?_; (with_reducible refine (spec_l01Once.calls g s0_0 t356 t357 3 false t370 t371 w0 _ ?side1 ?side2 A9.out).mono ?_); (case side1 => exact q_154); (case side2 => exact q_81); rintro e w97 ⟨rfl, hi, hb, hk⟩; refine ⟨_, rfl, ?_⟩; replace BK336 := kB BK336 hk z13_30 NB336_0; replace BK343 := kB BK343 hk z13_31 NB343_0; replace HO352 := mk0 (Kd.R_mono (Kd.R_keep (IsS152.apart (show IsS152 w0 _ g s0_0 t356 t357 from q_154) (by (with_reducible repeat (first | apply Kd.R_alloc | apply Kd.R_drewN | apply Kd.R_drew)); exact (Kd.R_mono (R_f5 (Kd.R_types HO352.out BK368.out (by decide)) (fun _ hk => hk.2)) (fun _ h_ => h_.1))) (by decide)) hk (fun _ h => h.2)) (fun _ h => h.1)); replace HO355 := mk0 (Kd.R_mono (Kd.R_keep (IsS152.apart (show IsS152 w0 _ g s0_0 t356 t357 from q_154) (by (with_reducible repeat (first | apply Kd.R_alloc | apply Kd.R_drewN | apply Kd.R_drew)); exact (Kd.R_mono (R_f5 (Kd.R_types HO355.out BK368.out (by decide)) (fun _ hk => hk.2)) (fun _ h_ => h_.1))) (by decide)) hk (fun _ h => h.2)) (fun _ h => h.1)); replace HO360 := mk0 (Kd.S_mono (Kd.S_keep (IsS152.apartS (show IsS152 w0 _ g s0_0 t356 t357 from q_154) (by (with_reducible repeat (first | apply Kd.S_alloc | apply Kd.S_drewN | apply Kd.S_drew)); exact (Kd.S_mono (S_f5 (Kd.S_types HO360.out BK368.out (by decide)) (fun _ hk => hk.2)) (fun _ h_ => h_.1))) (by decide)) hk (fun _ h => h.2)) (fun _ h => h.1)); replace HO367 := mk0 (Kd.R_mono (Kd.R_keep (IsS152.apart (show IsS152 w0 _ g s0_0 t356 t357 from q_154) (by (with_reducible repeat (first | apply Kd.R_alloc | apply Kd.R_drewN | apply Kd.R_drew)); exact (Kd.R_mono (R_f5 (Kd.R_types HO367.out BK368.out (by decide)) (fun _ hk => hk.2)) (fun _ h_ => h_.1))) (by decide)) hk (fun _ h => h.2)) (fun _ h => h.1)); replace BK368 := mk0 (KeepBut.blk hk (g' := gb368) (o := .cells #[.int .i64 t361, .int .i64 t362, .int .i64 t363, .int .i64 t364, .slice Ao95 t365.length co95] 65 (0, 0)) z13_40 NB368_0.out (by simp)); replace HK := mk0 (KeepBut.trans z13_10 hk (.inl rfl)); replace HB := mk0 (hb); replace HI0 := mk0 (hi); clear hb hk hi; have hnb98 := NB368_336.out; have hnc98 := NB336_368.out; have hnb99 := NB368_343.out; have hnc99 := NB343_368.out; have hnb100 := NB368_0.out; have hnc100 := NB0_368.out; obtain ⟨_, _, _, _, _, _, _, _, _, _⟩ := be_5 BK368.out; have hnb102 := NB336_0.out; have hnc102 := NB0_336.out; obtain ⟨_, _, _, _, _, _, _, _, _, _⟩ := be_5 BK336.out))
  refine bodyPost_ret (results_cell_row rfl _ _ gb336 65 #[.int .i64 t361, .int .i64 t362, .int .i64 t363, .int .i64 t364, .slice Ao95 t365.length co95] (0, 0) _ rfl z13_41 Try.underlying65 rfl (by kernel_rfl)) rfl ?_
  exact ⟨_, (by first | rfl | (simp [errW_none, errW_some] <;> rfl) | (simp [*, errW_none, errW_some] <;> rfl)), (by (with_reducible repeat (first | apply Kd.R_alloc | apply Kd.R_drewN | apply Kd.R_drew)); exact Kd.R_mono (R_f5 (Kd.R_types HO367.out BK336.out (by decide)) (fun _ hk => hk.2)) (fun _ hk => trivial)), q_154, q_81, z13_10⟩
 subst c10; rw [if_pos rfl] at H
 have H' := mk0 H
 clear H; go_enter Try.func82, Try.ntmps82
 try go_wp2_with (first | ((with_reducible refine gate_dst (N := 2) rfl ?_); refine boxz (cs := #[.int .i64 0, .int .i64 0, .int .i64 0, .int .i64 0, .slice none 0 0]) (t := 65) rfl ?_; intro gb336 hg w11 hbox hb; replace HB := bS q_86 hb; have BK336 := mk0 (hbox); have GW336 := mk0 ((by rw [hg]; exact (keep_size (w := w) (g := g) (row := none) q_171) : w.heap.size ≤ gb336)); have GE336 := mk0 ((Nat.le_trans HW0.out (by rw [hg]; exact (keep_size (w := w) (g := g) (row := none) q_171) : w.heap.size ≤ gb336) : w0.heap.size ≤ gb336)); replace HK := mk0 (KeepBut.trans q_171 (KeepBut.of_below hb g none) (.inl rfl)); have NB0_336 := mk0 ((by rw [hg]; exact Nat.ne_of_lt (IsS152.lt (show IsS152 w0 _ g s0_0 s0_1 s0_2 from q_159)) : g ≠ gb336)); have NB336_0 := mk0 ((by rw [hg]; exact Nat.ne_of_gt (IsS152.lt (show IsS152 w0 _ g s0_0 s0_1 s0_2 from q_159)) : gb336 ≠ g)); replace HI0 := mk0 (IsS152.below q_159 hb); clear hb hbox hg) | ((with_reducible refine gate_callee (f := 94) rfl ?_); refine gl_ (some 7) Try.func94 #[.pointer (some ⟨g, 0, none⟩), .int .i64 8] rfl q_0 ?_; (with_reducible refine (spec_l01Below.calls g s0_0 s0_1 s0_2 8 t337 t338 t339 w0 _ ?side1 ?side2 A2.out).mono ?_); (case side1 => exact q_156); (case side2 => exact q_83); rintro e w12 ⟨rfl, hi, hb, hk⟩; refine ⟨_, rfl, ?_⟩; replace BK336 := kB BK336 hk (pkb BK336) NB336_0; replace HK := mk0 (KeepBut.trans z13_17 hk (.inl rfl)); replace HB := mk0 (hb); replace HI0 := mk0 (hi); clear hb hk hi) | ((with_reducible refine gate_callee (f := 94) rfl ?_); refine gl_ (some 10) Try.func94 #[.pointer (some ⟨g, 0, none⟩), .int .i64 8] rfl q_0 ?_; (with_reducible refine (spec_l01Below.calls g s0_0 t338 t339 8 t340 t341 t342 w0 _ ?side1 ?side2 A3.out).mono ?_); (case side1 => exact q_156); (case side2 => exact q_83); rintro e w13 ⟨rfl, hi, hb, hk⟩; refine ⟨_, rfl, ?_⟩; replace BK336 := kB BK336 hk (pkb BK336) NB336_0; replace HK := mk0 (KeepBut.trans z13_17 hk (.inl rfl)); replace HB := mk0 (hb); replace HI0 := mk0 (hi); clear hb hk hi) | ((with_reducible refine gate_dst (N := 3) rfl ?_); refine boxz (cs := #[.int .i64 0, .int .i64 0, .int .i64 0, .int .i64 0]) (t := 63) rfl ?_; intro gb343 hg w14 hbox hb; replace HB := bS q_83 hb; have BK343 := mk0 (hbox); have GW343 := mk0 ((by rw [hg]; exact (keep_size (w := w) (g := g) (row := none) z13_17) : w.heap.size ≤ gb343)); have GE343 := mk0 ((Nat.le_trans HW0.out (by rw [hg]; exact (keep_size (w := w) (g := g) (row := none) z13_17) : w.heap.size ≤ gb343) : w0.heap.size ≤ gb343)); replace HK := mk0 (KeepBut.trans z13_17 (KeepBut.of_below hb g none) (.inl rfl)); have NB336_343 := mk0 (nb_lt hg (blk_ltB BK336 (pkb BK336))); have NB343_336 := mk0 (nb_gt hg (blk_ltB BK336 (pkb BK336))); replace BK336 := bB BK336 hb; have NB0_343 := mk0 ((by rw [hg]; exact Nat.ne_of_lt (IsS152.lt (show IsS152 w0 _ g s0_0 t341 t342 from q_156)) : g ≠ gb343)); have NB343_0 := mk0 ((by rw [hg]; exact Nat.ne_of_gt (IsS152.lt (show IsS152 w0 _ g s0_0 t341 t342 from q_156)) : gb343 ≠ g)); replace HI0 := mk0 (IsS152.below q_156 hb); clear hb hbox hg; have hnb15 := NB343_336.out; have hnc15 := NB336_343.out; have hnb16 := NB343_0.out; have hnc16 := NB0_343.out; obtain ⟨_, _, _, _, _, _, _, _⟩ := be_4 BK343.out))
 obtain ⟨w18, hw_⟩ : ∃ w_ : World, w_ = ((((w14.setCell ⟨gb343, 0, none⟩ (.int .i64 (wrap64 (t337 - 2)))).setCell ⟨gb343, 1, none⟩ (.int .i64 (wrap64 (t340 - 2)))).setCell ⟨gb343, 2, none⟩ (.int .i64 0)).setCell ⟨gb343, 3, none⟩ (.int .i64 0)) := ⟨_, rfl⟩
 have n0_ : Aside0 (w18.heap[gb336]? = some (.cells #[.int .i64 0, .int .i64 0, .int .i64 0, .int .i64 0, .slice none 0 0] 65 (0, 0))) := ⟨q_189⟩
 have n1_ : Aside0 (w18.heap[gb343]? = some (.cells #[.int .i64 (wrap64 (t337 - 2)), .int .i64 (wrap64 (t340 - 2)), .int .i64 0, .int .i64 0] 63 (0, 0))) := ⟨z13_23⟩
 have n2_ : Aside0 (IsS152 w0 w18 g s0_0 t341 t342) := ⟨(by rw [hw_]; exact q_155)⟩
 have n3_ : Aside0 (KeepBut w w18 g none) := ⟨(by rw [hw_]; exact z13_11)⟩
 have n4_ : Aside0 (Below w0.heap.size w0 w18) := ⟨(by rw [hw_]; exact q_82)⟩
 (try clear BK336); (try clear BK343); (try clear HI0); (try clear HK); (try clear HB); rw [← hw_]; clear hw_; have BK336 := n0_; have BK343 := n1_; have HI0 := n2_; have HK := n3_; have HB := n4_; clear n0_ n1_ n2_ n3_ n4_; replace BK336 := mk0 (blk_drew BK336.out); replace BK343 := mk0 (blk_drew BK343.out); replace HI0 := mk0 (IsS152.drew HI0.out); replace HK := mk0 (keep_drew HK.out); replace HB := mk0 (below_drew1 HB.out)
 refine start_ (n := 8) (S := fun w' => w'.cell? ⟨gb343, 0, none⟩ = some (.int .i64 (wrap64 (t337 - 2))) ∧ w'.cell? ⟨gb343, 1, none⟩ = some (.int .i64 (wrap64 (t340 - 2))) ∧ w'.cell? ⟨gb343, 2, none⟩ = some (.int .i64 0) ∧ w'.cell? ⟨gb343, 3, none⟩ = some (.int .i64 0)) (ds := [7]) y13_0 (by kernel_rfl) rfl rfl ⟨(blk_cell BK343.out 0).trans rfl, (blk_cell BK343.out 1).trans rfl, (blk_cell BK343.out 2).trans rfl, (blk_cell BK343.out 3).trans rfl⟩ (fun hHeld => ?_); refine with_tabW spec_l11Mask.tab2 spec_l11Mask.bits2 (fun HT_ HW_ => ?_)
 generalize w18.drew = w19 at BK336 BK343 HI0 HK HB hHeld ⊢
 refine pzx (i := 0) (N := 13) y13_1 HT_ ?_; refine pzx (i := 3) (N := 16) y13_2 HT_ ?_
 refine take_ (i := 1) (N := some 14) (v := ?_) (a' := ?_) y13_5 rfl rfl (take_ofW HT_.out HW_.out (by kernel_rfl)) (fun _ _ _ h => h) (Or.inl ⟨by rfl, ?_⟩) hHeld ?_ ?_
 rotate_left
 ·rintro w' ⟨s0, s1, s2, s3⟩
  go_simp; with_reducible rfl
 rotate_left
 ·exact x13_put
 refine pzx (i := 2) (N := 15) y13_6 HT_ ?_
 refine one_ (i := 4) (N := some 17) y13_7 rfl rfl (one_of HT_.out (by kernel_rfl)) (by decide) (fun K hK => ?_)
 refine goes_ Try.func94 (by kernel_rfl) rfl #[.pointer (some ⟨g, 0, none⟩), .int .i64 6] (by rfl) rfl rfl q_0 ?_
 with_reducible refine (spec_l01Below.calls g s0_0 t341 t342 6 t344 t345 t346 w0 _ ?side1 ?side2 A4.out).mono ?_
 (case side1 => exact q_155)
 (case side2 => exact q_82)
 rintro e w20 ⟨rfl, hi, hb, hk⟩
 refine ⟨_, rfl, ?_⟩
 replace BK336 := kB BK336 hk (pkb BK336) NB336_0; replace BK343 := kB BK343 hk (pkb BK343) NB343_0; replace HK := mk0 (KeepBut.trans z13_11 hk (.inl rfl)); replace HB := mk0 (hb); replace HI0 := mk0 (hi); (try clear hb); (try clear hb2); (try clear hk); (try clear hi); refine hK.out _ _ ⟨(blk_cell BK343.out 0).trans rfl, (blk_cell BK343.out 1).trans rfl, (blk_cell BK343.out 2).trans rfl, (blk_cell BK343.out 3).trans rfl⟩ (fun hHeld => ?_); clear hK K
 refine norm_ (a' := ?_) ?_ ?_
 rotate_left
 ·show Act.put _ (some 17) _ = _
  simp only [Act.put, List.setIfInBounds_toArray, List.set_cons_zero, List.set_cons_succ, i64_w, i32_w]
  rfl
 refine pzx (i := 5) (N := 18) y13_8 HT_ ?_; refine pzx (i := 6) (N := 19) y13_9 HT_ ?_
 refine last_ (i := 7) (N := none) y13_10 rfl rfl (one_of HT_.out (by kernel_rfl)) (by decide) (fun K hK => ?_)
 have hs21 : w20.cell? ⟨gb343, 2, none⟩ = some (.int .i64 0) := (blk_cell BK343.out 2).trans rfl
 have hfs21 := blk_frozen BK343.out 2; have hns21_0 := NB336_343.out; have hms21_0 := NB343_336.out
 refine skip_ (w1 := ?_) ?hwx ?hN ?_ ?_; (case hwx => rfl); (case hN => rfl)
 rotate_left
 ·go_simp
  rfl
 refine hK.out _ _ ?_; clear hK K
 refine done_ (done_of HT_.out (by kernel_rfl)) ?_
 try go_wp2
 obtain ⟨w22, hw_⟩ : ∃ w_ : World, w_ = (w20.setCell ⟨gb343, 2, none⟩ (.int .i64 (wrap64 ((wrap64 ((wrap64 (t337 - 2)) + 1)) + t344)))) := ⟨_, rfl⟩
 have n0_ : Aside0 (w22.heap[gb336]? = some (.cells #[.int .i64 0, .int .i64 0, .int .i64 0, .int .i64 0, .slice none 0 0] 65 (0, 0))) := ⟨q_189⟩
 have n1_ : Aside0 (w22.heap[gb343]? = some (.cells #[.int .i64 (wrap64 (t337 - 2)), .int .i64 (wrap64 (t340 - 2)), .int .i64 (wrap64 ((wrap64 ((wrap64 (t337 - 2)) + 1)) + t344)), .int .i64 0] 63 (0, 0))) := ⟨z13_38⟩
 have n2_ : Aside0 (IsS152 w0 w22 g s0_0 t345 t346) := ⟨(by rw [hw_]; exact q_155)⟩
 have n3_ : Aside0 (KeepBut w w22 g none) := ⟨(by rw [hw_]; exact z13_11)⟩
 have n4_ : Aside0 (Below w0.heap.size w0 w22) := ⟨(by rw [hw_]; exact q_82)⟩
 (try clear BK336); (try clear BK343); (try clear HI0); (try clear HK); (try clear HB); rw [← hw_]; clear hw_; have BK336 := n0_; have BK343 := n1_; have HI0 := n2_; have HK := n3_; have HB := n4_; clear n0_ n1_ n2_ n3_ n4_; replace BK336 := mk0 (blk_drew BK336.out); replace BK343 := mk0 (blk_drew BK343.out); replace HI0 := mk0 (IsS152.drew HI0.out); replace HK := mk0 (keep_drew HK.out); replace HB := mk0 (below_drew1 HB.out)
 refine start_ (n := 8) (S := fun w' => w'.cell? ⟨gb343, 0, none⟩ = some (.int .i64 (wrap64 (t337 - 2))) ∧ w'.cell? ⟨gb343, 1, none⟩ = some (.int .i64 (wrap64 (t340 - 2))) ∧ w'.cell? ⟨gb343, 2, none⟩ = some (.int .i64 (wrap64 ((wrap64 ((wrap64 (t337 - 2)) + 1)) + t344))) ∧ w'.cell? ⟨gb343, 3, none⟩ = some (.int .i64 0)) (ds := [7]) y13_0 (by kernel_rfl) rfl rfl ⟨(blk_cell BK343.out 0).trans rfl, (blk_cell BK343.out 1).trans rfl, (blk_cell BK343.out 2).trans rfl, (blk_cell BK343.out 3).trans rfl⟩ (fun hHeld => ?_); refine with_tabW spec_l11Mask.tab3 spec_l11Mask.bits3 (fun HT_ HW_ => ?_)
 generalize w22.drew = w23 at BK336 BK343 HI0 HK HB hHeld ⊢
 refine pzx (i := 0) (N := 20) y13_1 HT_ ?_; refine pzx (i := 3) (N := 23) y13_2 HT_ ?_
 refine take_ (i := 1) (N := some 21) (v := ?_) (a' := ?_) y13_5 rfl rfl (take_ofW HT_.out HW_.out (by kernel_rfl)) (fun _ _ _ h => h) (Or.inl ⟨by rfl, ?_⟩) hHeld ?_ ?_
 rotate_left
 ·rintro w' ⟨s0, s1, s2, s3⟩
  go_simp; with_reducible rfl
 rotate_left
 ·exact x13_put
 refine pzx (i := 2) (N := 22) y13_6 HT_ ?_
 refine one_ (i := 4) (N := some 24) y13_7 rfl rfl (one_of HT_.out (by kernel_rfl)) (by decide) (fun K hK => ?_)
 refine goes_ Try.func94 (by kernel_rfl) rfl #[.pointer (some ⟨g, 0, none⟩), .int .i64 6] (by rfl) rfl rfl q_0 ?_
 with_reducible refine (spec_l01Below.calls g s0_0 t345 t346 6 t347 t348 t349 w0 _ ?side1 ?side2 A5.out).mono ?_
 (case side1 => exact q_155)
 (case side2 => exact q_82)
 rintro e w24 ⟨rfl, hi, hb, hk⟩
 refine ⟨_, rfl, ?_⟩
 replace BK336 := kB BK336 hk (pkb BK336) NB336_0; replace BK343 := kB BK343 hk (pkb BK343) NB343_0; replace HK := mk0 (KeepBut.trans z13_11 hk (.inl rfl)); replace HB := mk0 (hb); replace HI0 := mk0 (hi); (try clear hb); (try clear hb2); (try clear hk); (try clear hi); refine hK.out _ _ ⟨(blk_cell BK343.out 0).trans rfl, (blk_cell BK343.out 1).trans rfl, (blk_cell BK343.out 2).trans rfl, (blk_cell BK343.out 3).trans rfl⟩ (fun hHeld => ?_); clear hK K
 refine norm_ (a' := ?_) ?_ ?_
 rotate_left
 ·show Act.put _ (some 24) _ = _
  simp only [Act.put, List.setIfInBounds_toArray, List.set_cons_zero, List.set_cons_succ, i64_w, i32_w]
  rfl
 refine pzx (i := 5) (N := 25) y13_8 HT_ ?_; refine pzx (i := 6) (N := 26) y13_9 HT_ ?_
 refine last_ (i := 7) (N := none) y13_10 rfl rfl (one_of HT_.out (by kernel_rfl)) (by decide) (fun K hK => ?_)
 have hs25 : w24.cell? ⟨gb343, 3, none⟩ = some (.int .i64 0) := (blk_cell BK343.out 3).trans rfl
 have hfs25 := blk_frozen BK343.out 3; have hns25_0 := NB336_343.out; have hms25_0 := NB343_336.out
 refine skip_ (w1 := ?_) ?hwx ?hN ?_ ?_; (case hwx => rfl); (case hN => rfl)
 rotate_left
 ·go_simp
  rfl
 refine hK.out _ _ ?_; clear hK K
 refine done_ (done_of HT_.out (by kernel_rfl)) ?_
 try go_wp2
 obtain ⟨w26, hw_⟩ : ∃ w_ : World, w_ = (w24.setCell ⟨gb343, 3, none⟩ (.int .i64 (wrap64 ((wrap64 ((wrap64 (t340 - 2)) + 1)) + t347)))) := ⟨_, rfl⟩
 have n0_ : Aside0 (w26.heap[gb336]? = some (.cells #[.int .i64 0, .int .i64 0, .int .i64 0, .int .i64 0, .slice none 0 0] 65 (0, 0))) := ⟨q_189⟩
 have n1_ : Aside0 (w26.heap[gb343]? = some (.cells #[.int .i64 (wrap64 (t337 - 2)), .int .i64 (wrap64 (t340 - 2)), .int .i64 (wrap64 ((wrap64 ((wrap64 (t337 - 2)) + 1)) + t344)), .int .i64 (wrap64 ((wrap64 ((wrap64 (t340 - 2)) + 1)) + t347))] 63 (0, 0))) := ⟨z13_37⟩
 have n2_ : Aside0 (IsS152 w0 w26 g s0_0 t348 t349) := ⟨(by rw [hw_]; exact q_155)⟩
 have n3_ : Aside0 (KeepBut w w26 g none) := ⟨(by rw [hw_]; exact z13_11)⟩
 have n4_ : Aside0 (Below w0.heap.size w0 w26) := ⟨(by rw [hw_]; exact q_82)⟩
 (try clear BK336); (try clear BK343); (try clear HI0); (try clear HK); (try clear HB); rw [← hw_]; clear hw_; have BK336 := n0_; have BK343 := n1_; have HI0 := n2_; have HK := n3_; have HB := n4_; clear n0_ n1_ n2_ n3_ n4_; replace BK336 := mk0 (blk_drew BK336.out); replace BK343 := mk0 (blk_drew BK343.out); replace HI0 := mk0 (IsS152.drew HI0.out); replace HK := mk0 (keep_drew HK.out); replace HB := mk0 (below_drew1 HB.out)
 refine start_ (n := 7) (S := fun w' => w'.cell? ⟨gb343, 0, none⟩ = some (.int .i64 (wrap64 (t337 - 2))) ∧ w'.cell? ⟨gb343, 1, none⟩ = some (.int .i64 (wrap64 (t340 - 2))) ∧ w'.cell? ⟨gb343, 2, none⟩ = some (.int .i64 (wrap64 ((wrap64 ((wrap64 (t337 - 2)) + 1)) + t344))) ∧ w'.cell? ⟨gb343, 3, none⟩ = some (.int .i64 (wrap64 ((wrap64 ((wrap64 (t340 - 2)) + 1)) + t347)))) (ds := []) #[false, false, false, false, false, false, false] (by kernel_rfl) rfl rfl ⟨(blk_cell BK343.out 0).trans rfl, (blk_cell BK343.out 1).trans rfl, (blk_cell BK343.out 2).trans rfl, (blk_cell BK343.out 3).trans rfl⟩ (fun hHeld => ?_)
 generalize w26.drew = w27 at BK336 BK343 HI0 HK HB hHeld ⊢
 refine pure_ (i := 0) (N := some 27) (v := ?_) (a' := ?_) (bA 7 1) rfl rfl (by kernel_rfl) (fun _ _ _ h => h) (Or.inl ⟨by rfl, ?_⟩) ?_ ?_; rotate_left
 ·intro w'
  go_simp; with_reducible rfl
 rotate_left
 ·exact x13_put
 refine take_ (i := 3) (N := some 30) (v := ?_) (a' := ?_) (bA 7 9) rfl rfl (by kernel_rfl) (fun _ _ _ h => h) (Or.inl ⟨by rfl, ?_⟩) hHeld ?_ ?_
 rotate_left
 ·rintro w' ⟨s0, s1, s2, s3⟩
  go_simp; with_reducible rfl
 rotate_left
 ·exact x13_put
 refine join_ (σ := Value × Value × Value × Value × Nat) 1 #[true, true, true, true, true, true, false] (fun s_ => [(28, .agg #[s_.1, s_.2.1]), (29, s_.2.2.1), (31, .agg #[.int .i64 t361, .int .i64 t362, .int .i64 t363, .int .i64 t364, s_.2.2.2.1]), (4, .pointer (some ⟨s_.2.2.2.2, 0, none⟩))]) (fun s_ w' => (w'.cell? ⟨gb343, 0, none⟩ = some (.int .i64 (wrap64 (t337 - 2))) ∧ w'.cell? ⟨gb343, 1, none⟩ = some (.int .i64 (wrap64 (t340 - 2))) ∧ w'.cell? ⟨gb343, 2, none⟩ = some (.int .i64 (wrap64 ((wrap64 ((wrap64 (t337 - 2)) + 1)) + t344))) ∧ w'.cell? ⟨gb343, 3, none⟩ = some (.int .i64 (wrap64 ((wrap64 ((wrap64 (t340 - 2)) + 1)) + t347)))) ∧ (Kd.R (Kd.int .i64) 3 w' w.heap.size (fun k_ => some k_ ≠ (s_.2.2.2.1 : Value).ownBlock) s_.1 t350) ∧ (Kd.R k52 52 w' w.heap.size (fun _ => True) s_.2.1 t353) ∧ (Kd.S (Kd.slice 52 k52) 29 w' w.heap.size (fun k_ => some k_ ≠ (s_.2.1 : Value).ownBlock) s_.2.2.1 t358) ∧ (Kd.R (Kd.int .i64) 3 w' w.heap.size (fun k_ => some k_ ≠ (s_.1 : Value).ownBlock) s_.2.2.2.1 t365) ∧ (w'.heap[gb336]? = some (.cells #[.int .i64 0, .int .i64 0, .int .i64 0, .int .i64 0, .slice none 0 0] 65 (0, 0))) ∧ (w'.heap[gb343]? = some (.cells #[.int .i64 (wrap64 (t337 - 2)), .int .i64 (wrap64 (t340 - 2)), .int .i64 (wrap64 ((wrap64 ((wrap64 (t337 - 2)) + 1)) + t344)), .int .i64 (wrap64 ((wrap64 ((wrap64 (t340 - 2)) + 1)) + t347))] 63 (0, 0))) ∧ (w'.heap[s_.2.2.2.2]? = some (.cells #[.int .i64 0, .int .i64 0, .int .i64 0, .int .i64 0, .slice none 0 0] 65 (0, 0))) ∧ (w.heap.size ≤ s_.2.2.2.2) ∧ (w0.heap.size ≤ s_.2.2.2.2) ∧ (g ≠ s_.2.2.2.2) ∧ (s_.2.2.2.2 ≠ g) ∧ (gb336 ≠ s_.2.2.2.2) ∧ (s_.2.2.2.2 ≠ gb336) ∧ (gb343 ≠ s_.2.2.2.2) ∧ (s_.2.2.2.2 ≠ gb343) ∧ (IsS152 w0 w' g s0_0 t356 t357) ∧ (KeepBut w w' g none) ∧ (Below w0.heap.size w0 w')) ?_ ?_
 rotate_left
 ·intro hCont
  refine two_ (i := 1) (j := 5) (Ni := some 28) (Nj := some 4) (bA 7 11) (bA 7 41) rfl rfl rfl rfl (by kernel_rfl) (by decide) (by decide) (fun K hK => ?_) (fun K hK => ?_)
  rotate_left
  ·skip
   refine box_step ?hg (N := 4) ?hd (cs := #[.int .i64 0, .int .i64 0, .int .i64 0, .int .i64 0, .slice none 0 0]) (t := 65) ?hr ?_; (case hd => rfl); (case hg => rfl); (case hr => first | (go_simp; done) | (go_simp; rfl))
   intro gb368 hg w28 hbox hb; replace HB := bS q_82 hb; have BK368 := mk0 (hbox)
   have GW368 := mk0 ((by rw [hg]; exact (keep_size (w := w) (g := g) (row := none) z13_11) : w.heap.size ≤ gb368))
   have GE368 := mk0 ((Nat.le_trans HW0.out (by rw [hg]; exact (keep_size (w := w) (g := g) (row := none) z13_11) : w.heap.size ≤ gb368) : w0.heap.size ≤ gb368))
   replace HK := mk0 (KeepBut.trans z13_11 (KeepBut.of_below hb g none) (.inl rfl)); have NB336_368 := mk0 (nb_lt hg (blk_ltB BK336 (pkb BK336))); have NB368_336 := mk0 (nb_gt hg (blk_ltB BK336 (pkb BK336))); replace BK336 := bB BK336 hb; have NB343_368 := mk0 (nb_lt hg (blk_ltB BK343 (pkb BK343))); have NB368_343 := mk0 (nb_gt hg (blk_ltB BK343 (pkb BK343))); replace BK343 := bB BK343 hb
   have NB0_368 := mk0 ((by rw [hg]; exact Nat.ne_of_lt (IsS152.lt (show IsS152 w0 _ g s0_0 t348 t349 from q_155)) : g ≠ gb368))
   have NB368_0 := mk0 ((by rw [hg]; exact Nat.ne_of_gt (IsS152.lt (show IsS152 w0 _ g s0_0 t348 t349 from q_155)) : gb368 ≠ g))
   replace HI0 := mk0 (IsS152.below q_155 hb); clear hb hbox hg; refine hK.out _ _ ⟨(blk_cell BK343.out 0).trans rfl, (blk_cell BK343.out 1).trans rfl, (blk_cell BK343.out 2).trans rfl, (blk_cell BK343.out 3).trans rfl⟩ (fun hHeld => ?_); clear hK K
   refine norm_ (a' := ?_) ?_ ?_
   rotate_left
   ·show Act.put _ (some 4) _ = _
    simp only [Act.put, List.setIfInBounds_toArray, List.set_cons_zero, List.set_cons_succ, i64_w, i32_w]
    rfl
   refine one_ (i := 1) (N := some 28) (bA 7 43) rfl rfl (by kernel_rfl) (by decide) (fun K hK => ?_)
   refine goes_ Try.func131 (by kernel_rfl) rfl #[.pointer (some ⟨g, 0, none⟩)] (by rfl) rfl rfl q_0 ?_
   with_reducible refine (spec_l06Path.calls k g s0_0 t348 t349 t350 t353 t356 t357 w0 _ ?side1 ?side2 A6.out).mono ?_
   (case side1 => exact q_154)
   (case side2 => exact q_81)
   rintro e w29 ⟨v351, v354, rfl, ho0, ho1, hi, hb, hk⟩
   refine ⟨_, rfl, ?_⟩
   replace BK336 := kB BK336 hk (pkb BK336) NB336_0; replace BK343 := kB BK343 hk (pkb BK343) NB343_0; replace BK368 := kB BK368 hk (pkb BK368) NB368_0; have HO352 := mk0 (Kd.R_lower ho0 (keep_size (w := w) (g := g) (row := none) z13_10)); have HO355 := mk0 (Kd.R_lower ho1 (keep_size (w := w) (g := g) (row := none) z13_10)); replace HK := mk0 (KeepBut.trans z13_10 hk (.inl rfl)); replace HB := mk0 (hb); replace HI0 := mk0 (hi); (try clear hb); (try clear hb2); (try clear hk); (try clear hi); (try clear ho0); (try clear ho1); obtain ⟨Ao30, co30, eo30⟩ := Kd.R_slice HO352.out
   (first | subst eo30 | (injection eo30 with f1_ f2_ f3_; have f4_ := f1_.symm; have f5_ := f3_.symm; clear f1_ f2_ f3_; subst f4_; subst f5_))
   obtain ⟨Ao31, co31, eo31⟩ := Kd.R_slice HO355.out
   (first | subst eo31 | (injection eo31 with f1_ f2_ f3_; have f4_ := f1_.symm; have f5_ := f3_.symm; clear f1_ f2_ f3_; subst f4_; subst f5_))
   refine hK.out _ _ ⟨(blk_cell BK343.out 0).trans rfl, (blk_cell BK343.out 1).trans rfl, (blk_cell BK343.out 2).trans rfl, (blk_cell BK343.out 3).trans rfl⟩ (fun hHeld => ?_); clear hK K
   refine norm_ (a' := ?_) ?_ ?_
   rotate_left
   ·show Act.put _ (some 28) _ = _
    simp only [Act.put, List.setIfInBounds_toArray, List.set_cons_zero, List.set_cons_succ, i64_w, i32_w]
    rfl
   refine one_ (i := 2) (N := some 29) (bA 7 47) rfl rfl (by kernel_rfl) (by decide) (fun K hK => ?_)
   refine goes_ Try.func11 (by kernel_rfl) rfl #[.agg #[.slice Ao30 t350.length co30, .slice Ao31 t353.length co31]] (by rfl) rfl rfl q_0 ?_
   with_reducible refine (spec_FlatOf.calls k _ _ t350 _ _ t353 t358 _ ?side1 ?side2 ?side3 ?side4 A7.out).mono ?_
   (case side1 => exact z13_27)
   (case side2 => exact (Kd.R_reads' HO352.out).2.1)
   (case side3 => exact z13_28)
   (case side4 => exact (Kd.R_reads' HO355.out).2.1)
   rintro e w32 ⟨v359, rfl, ho0, hb⟩
   refine ⟨_, rfl, ?_⟩
   replace HO352 := bR HO352 hb; have HO360 := mk0 (Kd.S_lower (Kd.S_new' ho0 (Kd.R_lt (pkR HO355))) (keep_size (w := w) (g := g) (row := none) z13_10)); replace HO355 := bR HO355 hb; replace BK336 := bB BK336 hb; replace BK343 := bB BK343 hb; replace BK368 := bB BK368 hb; replace HK := mk0 (KeepBut.trans z13_10 (KeepBut.of_below hb g none) (.inl rfl)); replace HB := bS q_81 hb; replace HI0 := mk0 (IsS152.below q_154 hb); (try clear hb); (try clear hb2); (try clear hk); (try clear hi); (try clear ho0); obtain ⟨Ao33, co33, eo33⟩ := Kd.S_slice HO360.out
   (first | subst eo33 | (injection eo33 with f1_ f2_ f3_; have f4_ := f1_.symm; have f5_ := f3_.symm; clear f1_ f2_ f3_; subst f4_; subst f5_))
   refine hK.out _ _ ⟨(blk_cell BK343.out 0).trans rfl, (blk_cell BK343.out 1).trans rfl, (blk_cell BK343.out 2).trans rfl, (blk_cell BK343.out 3).trans rfl⟩ (fun hHeld => ?_); clear hK K
   refine norm_ (a' := ?_) ?_ ?_
   rotate_left
   ·show Act.put _ (some 29) _ = _
    simp only [Act.put, List.setIfInBounds_toArray, List.set_cons_zero, List.set_cons_succ, i64_w, i32_w]
    rfl
   refine one_ (i := 4) (N := some 31) (bA 7 63) rfl rfl (by kernel_rfl) (by decide) (fun K hK => ?_)
   refine goes_ Try.func33 (by kernel_rfl) rfl #[.slice Ao33 t358.length co33, .bool false, .agg #[.int .i64 (wrap64 (t337 - 2)), .int .i64 (wrap64 (t340 - 2)), .int .i64 (wrap64 ((wrap64 ((wrap64 (t337 - 2)) + 1)) + t344)), .int .i64 (wrap64 ((wrap64 ((wrap64 (t340 - 2)) + 1)) + t347))]] (by rfl) rfl rfl q_0 ?_
   with_reducible refine (spec_MaskOf.calls k _ _ t358 false (wrap64 (t337 - 2)) (wrap64 (t340 - 2)) (wrap64 ((wrap64 ((wrap64 (t337 - 2)) + 1)) + t344)) (wrap64 ((wrap64 ((wrap64 (t340 - 2)) + 1)) + t347)) t361 t362 t363 t364 t365 _ ?side1 ?side2 A8.out).mono ?_
   (case side1 => exact z13_18)
   (case side2 => exact (Kd.S_reads' HO360.out).2.1)
   rintro e w34 ⟨v366, rfl, ho0, hb⟩
   refine ⟨_, rfl, ?_⟩
   replace HO355 := bR HO355 hb; replace HO360 := bSS HO360 hb; have HO367 := mk0 (Kd.R_lower (Kd.R_new' ho0 (Kd.R_lt (pkR HO352))) (keep_size (w := w) (g := g) (row := none) z13_10)); replace HO352 := mk0 (Kd.R_elder' (pkR HO352) (Kd.R_base ho0) hb); replace BK336 := bB BK336 hb; replace BK343 := bB BK343 hb; replace BK368 := bB BK368 hb; replace HK := mk0 (KeepBut.trans z13_10 (KeepBut.of_below hb g none) (.inl rfl)); replace HB := bS q_81 hb; replace HI0 := mk0 (IsS152.below q_154 hb); (try clear hb); (try clear hb2); (try clear hk); (try clear hi); (try clear ho0); refine hK.out _ _ ⟨(blk_cell BK343.out 0).trans rfl, (blk_cell BK343.out 1).trans rfl, (blk_cell BK343.out 2).trans rfl, (blk_cell BK343.out 3).trans rfl⟩ (fun hHeld => ?_); clear hK K
   refine norm_ (a' := ?_) ?_ ?_
   rotate_left
   ·show Act.put _ (some 31) _ = _
    simp only [Act.put, List.setIfInBounds_toArray, List.set_cons_zero, List.set_cons_succ, i64_w, i32_w]
    rfl
   exact norm_ z13_33 (hCont (.slice Ao30 t350.length co30, .slice Ao31 t353.length co31, .slice Ao33 t358.length co33, v366, gb368) _ ⟨hHeld, z13_24, (pkR HO355), z13_25, z13_26, (pkb BK336), (pkb BK343), (pkb BK368), GW368.out, GE368.out, NB0_368.out, NB368_0.out, NB336_368.out, NB368_336.out, NB343_368.out, NB368_343.out, q_154, z13_10, q_81⟩)
  skip
  refine goes_ Try.func131 (by kernel_rfl) rfl #[.pointer (some ⟨g, 0, none⟩)] (by rfl) rfl rfl q_0 ?_
  with_reducible refine (spec_l06Path.calls k g s0_0 t348 t349 t350 t353 t356 t357 w0 _ ?side1 ?side2 A6.out).mono ?_
  (case side1 => exact q_155)
  (case side2 => exact q_82)
  rintro e w28 ⟨v351, v354, rfl, ho0, ho1, hi, hb, hk⟩
  refine ⟨_, rfl, ?_⟩
  replace BK336 := kB BK336 hk (pkb BK336) NB336_0; replace BK343 := kB BK343 hk (pkb BK343) NB343_0; have HO352 := mk0 (Kd.R_lower ho0 (keep_size (w := w) (g := g) (row := none) z13_11)); have HO355 := mk0 (Kd.R_lower ho1 (keep_size (w := w) (g := g) (row := none) z13_11)); replace HK := mk0 (KeepBut.trans z13_11 hk (.inl rfl)); replace HB := mk0 (hb); replace HI0 := mk0 (hi); (try clear hb); (try clear hb2); (try clear hk); (try clear hi); (try clear ho0); (try clear ho1); obtain ⟨Ao29, co29, eo29⟩ := Kd.R_slice HO352.out
  (first | subst eo29 | (injection eo29 with f1_ f2_ f3_; have f4_ := f1_.symm; have f5_ := f3_.symm; clear f1_ f2_ f3_; subst f4_; subst f5_))
  obtain ⟨Ao30, co30, eo30⟩ := Kd.R_slice HO355.out
  (first | subst eo30 | (injection eo30 with f1_ f2_ f3_; have f4_ := f1_.symm; have f5_ := f3_.symm; clear f1_ f2_ f3_; subst f4_; subst f5_))
  refine hK.out _ _ ⟨(blk_cell BK343.out 0).trans rfl, (blk_cell BK343.out 1).trans rfl, (blk_cell BK343.out 2).trans rfl, (blk_cell BK343.out 3).trans rfl⟩ (fun hHeld => ?_); clear hK K
  refine norm_ (a' := ?_) ?_ ?_
  rotate_left
  ·show Act.put _ (some 28) _ = _
   simp only [Act.put, List.setIfInBounds_toArray, List.set_cons_zero, List.set_cons_succ, i64_w, i32_w]
   rfl
  refine two_ (i := 2) (j := 5) (Ni := some 29) (Nj := some 4) (bA 7 15) (bA 7 43) rfl rfl rfl rfl (by kernel_rfl) (by decide) (by decide) (fun K hK => ?_) (fun K hK => ?_)
  rotate_left
  ·skip
   refine box_step ?hg (N := 4) ?hd (cs := #[.int .i64 0, .int .i64 0, .int .i64 0, .int .i64 0, .slice none 0 0]) (t := 65) ?hr ?_; (case hd => rfl); (case hg => rfl); (case hr => first | (go_simp; done) | (go_simp; rfl))
   intro gb368 hg w29 hbox hb; replace HO352 := bR HO352 hb; replace HO355 := bR HO355 hb; replace HB := bS q_82 hb; have BK368 := mk0 (hbox)
   have GW368 := mk0 ((by rw [hg]; exact (keep_size (w := w) (g := g) (row := none) z13_11) : w.heap.size ≤ gb368))
   have GE368 := mk0 ((Nat.le_trans HW0.out (by rw [hg]; exact (keep_size (w := w) (g := g) (row := none) z13_11) : w.heap.size ≤ gb368) : w0.heap.size ≤ gb368))
   replace HK := mk0 (KeepBut.trans z13_11 (KeepBut.of_below hb g none) (.inl rfl)); have NB336_368 := mk0 (nb_lt hg (blk_ltB BK336 (pkb BK336))); have NB368_336 := mk0 (nb_gt hg (blk_ltB BK336 (pkb BK336))); replace BK336 := bB BK336 hb; have NB343_368 := mk0 (nb_lt hg (blk_ltB BK343 (pkb BK343))); have NB368_343 := mk0 (nb_gt hg (blk_ltB BK343 (pkb BK343))); replace BK343 := bB BK343 hb
   have NB0_368 := mk0 ((by rw [hg]; exact Nat.ne_of_lt (IsS152.lt (show IsS152 w0 _ g s0_0 t356 t357 from q_155)) : g ≠ gb368))
   have NB368_0 := mk0 ((by rw [hg]; exact Nat.ne_of_gt (IsS152.lt (show IsS152 w0 _ g s0_0 t356 t357 from q_155)) : gb368 ≠ g))
   replace HI0 := mk0 (IsS152.below q_155 hb); clear hb hbox hg; obtain ⟨Ao30, co30, eo30⟩ := Kd.R_slice HO352.out
   (first | subst eo30 | (injection eo30 with f1_ f2_ f3_; have f4_ := f1_.symm; have f5_ := f3_.symm; clear f1_ f2_ f3_; subst f4_; subst f5_))
   obtain ⟨Ao31, co31, eo31⟩ := Kd.R_slice HO355.out
   (first | subst eo31 | (injection eo31 with f1_ f2_ f3_; have f4_ := f1_.symm; have f5_ := f3_.symm; clear f1_ f2_ f3_; subst f4_; subst f5_))
   refine hK.out _ _ ⟨(blk_cell BK343.out 0).trans rfl, (blk_cell BK343.out 1).trans rfl, (blk_cell BK343.out 2).trans rfl, (blk_cell BK343.out 3).trans rfl⟩ (fun hHeld => ?_); clear hK K
   refine norm_ (a' := ?_) ?_ ?_
   rotate_left
   ·show Act.put _ (some 4) _ = _
    simp only [Act.put, List.setIfInBounds_toArray, List.set_cons_zero, List.set_cons_succ, i64_w, i32_w]
    rfl
   refine one_ (i := 2) (N := some 29) (bA 7 47) rfl rfl (by kernel_rfl) (by decide) (fun K hK => ?_)
   refine goes_ Try.func11 (by kernel_rfl) rfl #[.agg #[.slice Ao30 t350.length co30, .slice Ao31 t353.length co31]] (by rfl) rfl rfl q_0 ?_
   with_reducible refine (spec_FlatOf.calls k _ _ t350 _ _ t353 t358 _ ?side1 ?side2 ?side3 ?side4 A7.out).mono ?_
   (case side1 => exact z13_27)
   (case side2 => exact (Kd.R_reads' HO352.out).2.1)
   (case side3 => exact z13_28)
   (case side4 => exact (Kd.R_reads' HO355.out).2.1)
   rintro e w32 ⟨v359, rfl, ho0, hb⟩
   refine ⟨_, rfl, ?_⟩
   replace HO352 := bR HO352 hb; have HO360 := mk0 (Kd.S_lower (Kd.S_new' ho0 (Kd.R_lt (pkR HO355))) (keep_size (w := w) (g := g) (row := none) z13_10)); replace HO355 := bR HO355 hb; replace BK336 := bB BK336 hb; replace BK343 := bB BK343 hb; replace BK368 := bB BK368 hb; replace HK := mk0 (KeepBut.trans z13_10 (KeepBut.of_below hb g none) (.inl rfl)); replace HB := bS q_81 hb; replace HI0 := mk0 (IsS152.below q_154 hb); (try clear hb); (try clear hb2); (try clear hk); (try clear hi); (try clear ho0); obtain ⟨Ao33, co33, eo33⟩ := Kd.S_slice HO360.out
   (first | subst eo33 | (injection eo33 with f1_ f2_ f3_; have f4_ := f1_.symm; have f5_ := f3_.symm; clear f1_ f2_ f3_; subst f4_; subst f5_))
   refine hK.out _ _ ⟨(blk_cell BK343.out 0).trans rfl, (blk_cell BK343.out 1).trans rfl, (blk_cell BK343.out 2).trans rfl, (blk_cell BK343.out 3).trans rfl⟩ (fun hHeld => ?_); clear hK K
   refine norm_ (a' := ?_) ?_ ?_
   rotate_left
   ·show Act.put _ (some 29) _ = _
    simp only [Act.put, List.setIfInBounds_toArray, List.set_cons_zero, List.set_cons_succ, i64_w, i32_w]
    rfl
   refine one_ (i := 4) (N := some 31) (bA 7 63) rfl rfl (by kernel_rfl) (by decide) (fun K hK => ?_)
   refine goes_ Try.func33 (by kernel_rfl) rfl #[.slice Ao33 t358.length co33, .bool false, .agg #[.int .i64 (wrap64 (t337 - 2)), .int .i64 (wrap64 (t340 - 2)), .int .i64 (wrap64 ((wrap64 ((wrap64 (t337 - 2)) + 1)) + t344)), .int .i64 (wrap64 ((wrap64 ((wrap64 (t340 - 2)) + 1)) + t347))]] (by rfl) rfl rfl q_0 ?_
   with_reducible refine (spec_MaskOf.calls k _ _ t358 false (wrap64 (t337 - 2)) (wrap64 (t340 - 2)) (wrap64 ((wrap64 ((wrap64 (t337 - 2)) + 1)) + t344)) (wrap64 ((wrap64 ((wrap64 (t340 - 2)) + 1)) + t347)) t361 t362 t363 t364 t365 _ ?side1 ?side2 A8.out).mono ?_
   (case side1 => exact z13_18)
   (case side2 => exact (Kd.S_reads' HO360.out).2.1)
   rintro e w34 ⟨v366, rfl, ho0, hb⟩
   refine ⟨_, rfl, ?_⟩
   replace HO355 := bR HO355 hb; replace HO360 := bSS HO360 hb; have HO367 := mk0 (Kd.R_lower (Kd.R_new' ho0 (Kd.R_lt (pkR HO352))) (keep_size (w := w) (g := g) (row := none) z13_10)); replace HO352 := mk0 (Kd.R_elder' (pkR HO352) (Kd.R_base ho0) hb); replace BK336 := bB BK336 hb; replace BK343 := bB BK343 hb; replace BK368 := bB BK368 hb; replace HK := mk0 (KeepBut.trans z13_10 (KeepBut.of_below hb g none) (.inl rfl)); replace HB := bS q_81 hb; replace HI0 := mk0 (IsS152.below q_154 hb); (try clear hb); (try clear hb2); (try clear hk); (try clear hi); (try clear ho0); refine hK.out _ _ ⟨(blk_cell BK343.out 0).trans rfl, (blk_cell BK343.out 1).trans rfl, (blk_cell BK343.out 2).trans rfl, (blk_cell BK343.out 3).trans rfl⟩ (fun hHeld => ?_); clear hK K
   refine norm_ (a' := ?_) ?_ ?_
   rotate_left
   ·show Act.put _ (some 31) _ = _
    simp only [Act.put, List.setIfInBounds_toArray, List.set_cons_zero, List.set_cons_succ, i64_w, i32_w]
    rfl
   exact norm_ z13_33 (hCont (.slice Ao30 t350.length co30, .slice Ao31 t353.length co31, .slice Ao33 t358.length co33, v366, gb368) _ ⟨hHeld, z13_24, (pkR HO355), z13_25, z13_26, (pkb BK336), (pkb BK343), (pkb BK368), GW368.out, GE368.out, NB0_368.out, NB368_0.out, NB336_368.out, NB368_336.out, NB343_368.out, NB368_343.out, q_154, z13_10, q_81⟩)
  skip
  refine goes_ Try.func11 (by kernel_rfl) rfl #[.agg #[.slice Ao29 t350.length co29, .slice Ao30 t353.length co30]] (by rfl) rfl rfl q_0 ?_
  with_reducible refine (spec_FlatOf.calls k _ _ t350 _ _ t353 t358 _ ?side1 ?side2 ?side3 ?side4 A7.out).mono ?_
  (case side1 => exact z13_27)
  (case side2 => exact (Kd.R_reads' HO352.out).2.1)
  (case side3 => exact z13_28)
  (case side4 => exact (Kd.R_reads' HO355.out).2.1)
  rintro e w31 ⟨v359, rfl, ho0, hb⟩
  refine ⟨_, rfl, ?_⟩
  replace HO352 := bR HO352 hb; have HO360 := mk0 (Kd.S_lower (Kd.S_new' ho0 (Kd.R_lt (pkR HO355))) (keep_size (w := w) (g := g) (row := none) z13_11)); replace HO355 := bR HO355 hb; replace BK336 := bB BK336 hb; replace BK343 := bB BK343 hb; replace HK := mk0 (KeepBut.trans z13_11 (KeepBut.of_below hb g none) (.inl rfl)); replace HB := bS q_82 hb; replace HI0 := mk0 (IsS152.below q_155 hb); (try clear hb); (try clear hb2); (try clear hk); (try clear hi); (try clear ho0); obtain ⟨Ao32, co32, eo32⟩ := Kd.S_slice HO360.out
  (first | subst eo32 | (injection eo32 with f1_ f2_ f3_; have f4_ := f1_.symm; have f5_ := f3_.symm; clear f1_ f2_ f3_; subst f4_; subst f5_))
  refine hK.out _ _ ⟨(blk_cell BK343.out 0).trans rfl, (blk_cell BK343.out 1).trans rfl, (blk_cell BK343.out 2).trans rfl, (blk_cell BK343.out 3).trans rfl⟩ (fun hHeld => ?_); clear hK K
  refine norm_ (a' := ?_) ?_ ?_
  rotate_left
  ·show Act.put _ (some 29) _ = _
   simp only [Act.put, List.setIfInBounds_toArray, List.set_cons_zero, List.set_cons_succ, i64_w, i32_w]
   rfl
  refine two_ (i := 4) (j := 5) (Ni := some 31) (Nj := some 4) (bA 7 31) (bA 7 47) rfl rfl rfl rfl (by kernel_rfl) (by decide) (by decide) (fun K hK => ?_) (fun K hK => ?_)
  ·skip
   refine goes_ Try.func33 (by kernel_rfl) rfl #[.slice Ao32 t358.length co32, .bool false, .agg #[.int .i64 (wrap64 (t337 - 2)), .int .i64 (wrap64 (t340 - 2)), .int .i64 (wrap64 ((wrap64 ((wrap64 (t337 - 2)) + 1)) + t344)), .int .i64 (wrap64 ((wrap64 ((wrap64 (t340 - 2)) + 1)) + t347))]] (by rfl) rfl rfl q_0 ?_
   with_reducible refine (spec_MaskOf.calls k _ _ t358 false (wrap64 (t337 - 2)) (wrap64 (t340 - 2)) (wrap64 ((wrap64 ((wrap64 (t337 - 2)) + 1)) + t344)) (wrap64 ((wrap64 ((wrap64 (t340 - 2)) + 1)) + t347)) t361 t362 t363 t364 t365 _ ?side1 ?side2 A8.out).mono ?_
   (case side1 => exact z13_18)
   (case side2 => exact (Kd.S_reads' HO360.out).2.1)
   rintro e w33 ⟨v366, rfl, ho0, hb⟩
   refine ⟨_, rfl, ?_⟩
   replace HO355 := bR HO355 hb; replace HO360 := bSS HO360 hb; have HO367 := mk0 (Kd.R_lower (Kd.R_new' ho0 (Kd.R_lt (pkR HO352))) (keep_size (w := w) (g := g) (row := none) z13_11)); replace HO352 := mk0 (Kd.R_elder' (pkR HO352) (Kd.R_base ho0) hb); replace BK336 := bB BK336 hb; replace BK343 := bB BK343 hb; replace HK := mk0 (KeepBut.trans z13_11 (KeepBut.of_below hb g none) (.inl rfl)); replace HB := bS q_82 hb; replace HI0 := mk0 (IsS152.below q_155 hb); (try clear hb); (try clear hb2); (try clear hk); (try clear hi); (try clear ho0); refine hK.out _ _ ⟨(blk_cell BK343.out 0).trans rfl, (blk_cell BK343.out 1).trans rfl, (blk_cell BK343.out 2).trans rfl, (blk_cell BK343.out 3).trans rfl⟩ (fun hHeld => ?_); clear hK K
   refine norm_ (a' := ?_) ?_ ?_
   rotate_left
   ·show Act.put _ (some 31) _ = _
    simp only [Act.put, List.setIfInBounds_toArray, List.set_cons_zero, List.set_cons_succ, i64_w, i32_w]
    rfl
   refine one_ (i := 5) (N := some 4) (bA 7 63) rfl rfl (by kernel_rfl) (by decide) (fun K hK => ?_)
   refine box_step ?hg (N := 4) ?hd (cs := #[.int .i64 0, .int .i64 0, .int .i64 0, .int .i64 0, .slice none 0 0]) (t := 65) ?hr ?_; (case hd => rfl); (case hg => rfl); (case hr => first | (go_simp; done) | (go_simp; rfl))
   intro gb368 hg w34 hbox hb; replace HO352 := bR HO352 hb; replace HO355 := bR HO355 hb; replace HO360 := bSS HO360 hb; replace HO367 := bR HO367 hb; replace HB := bS q_82 hb; have BK368 := mk0 (hbox)
   have GW368 := mk0 ((by rw [hg]; exact (keep_size (w := w) (g := g) (row := none) z13_11) : w.heap.size ≤ gb368))
   have GE368 := mk0 ((Nat.le_trans HW0.out (by rw [hg]; exact (keep_size (w := w) (g := g) (row := none) z13_11) : w.heap.size ≤ gb368) : w0.heap.size ≤ gb368))
   replace HK := mk0 (KeepBut.trans z13_11 (KeepBut.of_below hb g none) (.inl rfl)); have NB336_368 := mk0 (nb_lt hg (blk_ltB BK336 (pkb BK336))); have NB368_336 := mk0 (nb_gt hg (blk_ltB BK336 (pkb BK336))); replace BK336 := bB BK336 hb; have NB343_368 := mk0 (nb_lt hg (blk_ltB BK343 (pkb BK343))); have NB368_343 := mk0 (nb_gt hg (blk_ltB BK343 (pkb BK343))); replace BK343 := bB BK343 hb
   have NB0_368 := mk0 ((by rw [hg]; exact Nat.ne_of_lt (IsS152.lt (show IsS152 w0 _ g s0_0 t356 t357 from q_155)) : g ≠ gb368))
   have NB368_0 := mk0 ((by rw [hg]; exact Nat.ne_of_gt (IsS152.lt (show IsS152 w0 _ g s0_0 t356 t357 from q_155)) : gb368 ≠ g))
   replace HI0 := mk0 (IsS152.below q_155 hb); clear hb hbox hg; refine hK.out _ _ ⟨(blk_cell BK343.out 0).trans rfl, (blk_cell BK343.out 1).trans rfl, (blk_cell BK343.out 2).trans rfl, (blk_cell BK343.out 3).trans rfl⟩ (fun hHeld => ?_); clear hK K
   refine norm_ (a' := ?_) ?_ ?_
   rotate_left
   ·show Act.put _ (some 4) _ = _
    simp only [Act.put, List.setIfInBounds_toArray, List.set_cons_zero, List.set_cons_succ, i64_w, i32_w]
    rfl
   exact norm_ z13_33 (hCont (.slice Ao29 t350.length co29, .slice Ao30 t353.length co30, .slice Ao32 t358.length co32, v366, gb368) _ ⟨hHeld, z13_24, (pkR HO355), z13_25, z13_26, (pkb BK336), (pkb BK343), (pkb BK368), GW368.out, GE368.out, NB0_368.out, NB368_0.out, NB336_368.out, NB368_336.out, NB343_368.out, NB368_343.out, q_154, z13_10, q_81⟩)
  skip
  refine box_step ?hg (N := 4) ?hd (cs := #[.int .i64 0, .int .i64 0, .int .i64 0, .int .i64 0, .slice none 0 0]) (t := 65) ?hr ?_; (case hd => rfl); (case hg => rfl); (case hr => first | (go_simp; done) | (go_simp; rfl))
  intro gb368 hg w32 hbox hb; replace HO352 := bR HO352 hb; replace HO355 := bR HO355 hb; replace HO360 := bSS HO360 hb; replace HB := bS q_82 hb; have BK368 := mk0 (hbox)
  have GW368 := mk0 ((by rw [hg]; exact (keep_size (w := w) (g := g) (row := none) z13_11) : w.heap.size ≤ gb368))
  have GE368 := mk0 ((Nat.le_trans HW0.out (by rw [hg]; exact (keep_size (w := w) (g := g) (row := none) z13_11) : w.heap.size ≤ gb368) : w0.heap.size ≤ gb368))
  replace HK := mk0 (KeepBut.trans z13_11 (KeepBut.of_below hb g none) (.inl rfl)); have NB336_368 := mk0 (nb_lt hg (blk_ltB BK336 (pkb BK336))); have NB368_336 := mk0 (nb_gt hg (blk_ltB BK336 (pkb BK336))); replace BK336 := bB BK336 hb; have NB343_368 := mk0 (nb_lt hg (blk_ltB BK343 (pkb BK343))); have NB368_343 := mk0 (nb_gt hg (blk_ltB BK343 (pkb BK343))); replace BK343 := bB BK343 hb
  have NB0_368 := mk0 ((by rw [hg]; exact Nat.ne_of_lt (IsS152.lt (show IsS152 w0 _ g s0_0 t356 t357 from q_155)) : g ≠ gb368))
  have NB368_0 := mk0 ((by rw [hg]; exact Nat.ne_of_gt (IsS152.lt (show IsS152 w0 _ g s0_0 t356 t357 from q_155)) : gb368 ≠ g))
  replace HI0 := mk0 (IsS152.below q_155 hb); clear hb hbox hg; obtain ⟨Ao33, co33, eo33⟩ := Kd.S_slice HO360.out
  (first | subst eo33 | (injection eo33 with f1_ f2_ f3_; have f4_ := f1_.symm; have f5_ := f3_.symm; clear f1_ f2_ f3_; subst f4_; subst f5_))
  refine hK.out _ _ ⟨(blk_cell BK343.out 0).trans rfl, (blk_cell BK343.out 1).trans rfl, (blk_cell BK343.out 2).trans rfl, (blk_cell BK343.out 3).trans rfl⟩ (fun hHeld => ?_); clear hK K
  refine norm_ (a' := ?_) ?_ ?_
  rotate_left
  ·show Act.put _ (some 4) _ = _
   simp only [Act.put, List.setIfInBounds_toArray, List.set_cons_zero, List.set_cons_succ, i64_w, i32_w]
   rfl
  refine one_ (i := 4) (N := some 31) (bA 7 63) rfl rfl (by kernel_rfl) (by decide) (fun K hK => ?_)
  refine goes_ Try.func33 (by kernel_rfl) rfl #[.slice Ao33 t358.length co33, .bool false, .agg #[.int .i64 (wrap64 (t337 - 2)), .int .i64 (wrap64 (t340 - 2)), .int .i64 (wrap64 ((wrap64 ((wrap64 (t337 - 2)) + 1)) + t344)), .int .i64 (wrap64 ((wrap64 ((wrap64 (t340 - 2)) + 1)) + t347))]] (by rfl) rfl rfl q_0 ?_
  with_reducible refine (spec_MaskOf.calls k _ _ t358 false (wrap64 (t337 - 2)) (wrap64 (t340 - 2)) (wrap64 ((wrap64 ((wrap64 (t337 - 2)) + 1)) + t344)) (wrap64 ((wrap64 ((wrap64 (t340 - 2)) + 1)) + t347)) t361 t362 t363 t364 t365 _ ?side1 ?side2 A8.out).mono ?_
  (case side1 => exact z13_18)
  (case side2 => exact (Kd.S_reads' HO360.out).2.1)
  rintro e w34 ⟨v366, rfl, ho0, hb⟩
  refine ⟨_, rfl, ?_⟩
  replace HO355 := bR HO355 hb; replace HO360 := bSS HO360 hb; have HO367 := mk0 (Kd.R_lower (Kd.R_new' ho0 (Kd.R_lt (pkR HO352))) (keep_size (w := w) (g := g) (row := none) z13_10)); replace HO352 := mk0 (Kd.R_elder' (pkR HO352) (Kd.R_base ho0) hb); replace BK336 := bB BK336 hb; replace BK343 := bB BK343 hb; replace BK368 := bB BK368 hb; replace HK := mk0 (KeepBut.trans z13_10 (KeepBut.of_below hb g none) (.inl rfl)); replace HB := bS q_81 hb; replace HI0 := mk0 (IsS152.below q_154 hb); (try clear hb); (try clear hb2); (try clear hk); (try clear hi); (try clear ho0); refine hK.out _ _ ⟨(blk_cell BK343.out 0).trans rfl, (blk_cell BK343.out 1).trans rfl, (blk_cell BK343.out 2).trans rfl, (blk_cell BK343.out 3).trans rfl⟩ (fun hHeld => ?_); clear hK K
  refine norm_ (a' := ?_) ?_ ?_
  rotate_left
  ·show Act.put _ (some 31) _ = _
   simp only [Act.put, List.setIfInBounds_toArray, List.set_cons_zero, List.set_cons_succ, i64_w, i32_w]
   rfl
  exact norm_ z13_33 (hCont (.slice Ao29 t350.length co29, .slice Ao30 t353.length co30, .slice Ao33 t358.length co33, v366, gb368) _ ⟨hHeld, z13_24, (pkR HO355), z13_25, z13_26, (pkb BK336), (pkb BK343), (pkb BK368), GW368.out, GE368.out, NB0_368.out, NB368_0.out, NB336_368.out, NB368_336.out, NB343_368.out, NB368_343.out, q_154, z13_10, q_81⟩)
 rintro ⟨v351, v354, v359, v366, gb368⟩ w35 ⟨hS_, h0_, h1_, h2_, h3_, h4_, h5_, h6_, h7_, h8_, h9_, h10_, h11_, h12_, h13_, h14_, h15_, h16_, h17_⟩
 have n0_ : Aside0 (Kd.R (Kd.int .i64) 3 w35 w.heap.size (fun k_ => some k_ ≠ (v366 : Value).ownBlock) v351 t350) := ⟨h0_⟩
 have n1_ : Aside0 (Kd.R k52 52 w35 w.heap.size (fun _ => True) v354 t353) := ⟨h1_⟩
 have n2_ : Aside0 (Kd.S (Kd.slice 52 k52) 29 w35 w.heap.size (fun k_ => some k_ ≠ (v354 : Value).ownBlock) v359 t358) := ⟨h2_⟩
 have n3_ : Aside0 (Kd.R (Kd.int .i64) 3 w35 w.heap.size (fun k_ => some k_ ≠ (v351 : Value).ownBlock) v366 t365) := ⟨h3_⟩
 have n4_ : Aside0 (w35.heap[gb336]? = some (.cells #[.int .i64 0, .int .i64 0, .int .i64 0, .int .i64 0, .slice none 0 0] 65 (0, 0))) := ⟨h4_⟩
 have n5_ : Aside0 (w35.heap[gb343]? = some (.cells #[.int .i64 (wrap64 (t337 - 2)), .int .i64 (wrap64 (t340 - 2)), .int .i64 (wrap64 ((wrap64 ((wrap64 (t337 - 2)) + 1)) + t344)), .int .i64 (wrap64 ((wrap64 ((wrap64 (t340 - 2)) + 1)) + t347))] 63 (0, 0))) := ⟨h5_⟩
 have n6_ : Aside0 (w35.heap[gb368]? = some (.cells #[.int .i64 0, .int .i64 0, .int .i64 0, .int .i64 0, .slice none 0 0] 65 (0, 0))) := ⟨h6_⟩
 have n7_ : Aside0 (w.heap.size ≤ gb368) := ⟨h7_⟩
 have n8_ : Aside0 (w0.heap.size ≤ gb368) := ⟨h8_⟩
 have n9_ : Aside0 (g ≠ gb368) := ⟨h9_⟩
 have n10_ : Aside0 (gb368 ≠ g) := ⟨h10_⟩
 have n11_ : Aside0 (gb336 ≠ gb368) := ⟨h11_⟩
 have n12_ : Aside0 (gb368 ≠ gb336) := ⟨h12_⟩
 have n13_ : Aside0 (gb343 ≠ gb368) := ⟨h13_⟩
 have n14_ : Aside0 (gb368 ≠ gb343) := ⟨h14_⟩
 have n15_ : Aside0 (IsS152 w0 w35 g s0_0 t356 t357) := ⟨h15_⟩
 have n16_ : Aside0 (KeepBut w w35 g none) := ⟨h16_⟩
 have n17_ : Aside0 (Below w0.heap.size w0 w35) := ⟨h17_⟩
 clear BK336 BK343 HI0 HK HB h0_ h1_ h2_ h3_ h4_ h5_ h6_ h7_ h8_ h9_ h10_ h11_ h12_ h13_ h14_ h15_ h16_ h17_; have HO352 := n0_; have HO355 := n1_; have HO360 := n2_; have HO367 := n3_; have BK336 := n4_; have BK343 := n5_; have BK368 := n6_; have GW368 := n7_; have GE368 := n8_; have NB0_368 := n9_; have NB368_0 := n10_; have NB336_368 := n11_; have NB368_336 := n12_; have NB343_368 := n13_; have NB368_343 := n14_; have HI0 := n15_; have HK := n16_; have HB := n17_; clear n0_ n1_ n2_ n3_ n4_ n5_ n6_ n7_ n8_ n9_ n10_ n11_ n12_ n13_ n14_ n15_ n16_ n17_
 have hHeld : w35.cell? ⟨gb343, 0, none⟩ = some (.int .i64 (wrap64 (t337 - 2))) ∧ w35.cell? ⟨gb343, 1, none⟩ = some (.int .i64 (wrap64 (t340 - 2))) ∧ w35.cell? ⟨gb343, 2, none⟩ = some (.int .i64 (wrap64 ((wrap64 ((wrap64 (t337 - 2)) + 1)) + t344))) ∧ w35.cell? ⟨gb343, 3, none⟩ = some (.int .i64 (wrap64 ((wrap64 ((wrap64 (t340 - 2)) + 1)) + t347))) := hS_
 obtain ⟨Ao40, co40, eo40⟩ := Kd.R_slice HO367.out
 (first | subst eo40 | (injection eo40 with f1_ f2_ f3_; have f4_ := f1_.symm; have f5_ := f3_.symm; clear f1_ f2_ f3_; subst f4_; subst f5_))
 refine norm_ (a' := ?_) ?_ ?_
 rotate_left
 ·simp only [putAll, Act.put, List.setIfInBounds_toArray, List.set_cons_zero, List.set_cons_succ]
  rfl
 refine one_ (i := 6) (N := none) (bA 7 127) rfl rfl (by kernel_rfl) (by decide) (fun K hK => ?_)
 have hs36 : w35.cell? ⟨gb368, 0, none⟩ = some (.int .i64 0) := (blk_cell BK368.out 0).trans rfl
 have hfs36 := blk_frozen BK368.out 0; have hns36_0 := NB336_368.out; have hns36_1 := NB343_368.out; have hms36_0 := NB368_336.out; have hms36_1 := NB368_343.out
 have hs37 : w35.cell? ⟨gb368, 1, none⟩ = some (.int .i64 0) := (blk_cell BK368.out 1).trans rfl
 have hfs37 := blk_frozen BK368.out 1; have hns37_0 := NB336_368.out; have hns37_1 := NB343_368.out; have hms37_0 := NB368_336.out; have hms37_1 := NB368_343.out
 have hs38 : w35.cell? ⟨gb368, 2, none⟩ = some (.int .i64 0) := (blk_cell BK368.out 2).trans rfl
 have hfs38 := blk_frozen BK368.out 2; have hns38_0 := NB336_368.out; have hns38_1 := NB343_368.out; have hms38_0 := NB368_336.out; have hms38_1 := NB368_343.out
 have hs39 : w35.cell? ⟨gb368, 3, none⟩ = some (.int .i64 0) := (blk_cell BK368.out 3).trans rfl
 have hfs39 := blk_frozen BK368.out 3; have hns39_0 := NB336_368.out; have hns39_1 := NB343_368.out; have hms39_0 := NB368_336.out; have hms39_1 := NB368_343.out
 have hs41 : w35.cell? ⟨gb368, 4, none⟩ = some (.slice none 0 0) := (blk_cell BK368.out 4).trans rfl
 have hfs41 := blk_frozen BK368.out 4; have hns41_0 := NB336_368.out; have hns41_1 := NB343_368.out; have hms41_0 := NB368_336.out; have hms41_1 := NB368_343.out
 refine skip_ (w1 := ?_) ?hwx ?hN ?_ ?_; (case hwx => rfl); (case hN => rfl)
 rotate_left
 ·go_simp
  rfl
 refine hK.out _ _ ⟨((cell_far (p := ⟨gb368, _, none⟩) NB343_368.out _).trans (((cell_far (p := ⟨gb368, _, none⟩) NB343_368.out _).trans (((cell_far (p := ⟨gb368, _, none⟩) NB343_368.out _).trans (((cell_far (p := ⟨gb368, _, none⟩) NB343_368.out _).trans (((cell_far (p := ⟨gb368, _, none⟩) NB343_368.out _).trans (hHeld.1)))))))))), ((cell_far (p := ⟨gb368, _, none⟩) NB343_368.out _).trans (((cell_far (p := ⟨gb368, _, none⟩) NB343_368.out _).trans (((cell_far (p := ⟨gb368, _, none⟩) NB343_368.out _).trans (((cell_far (p := ⟨gb368, _, none⟩) NB343_368.out _).trans (((cell_far (p := ⟨gb368, _, none⟩) NB343_368.out _).trans (hHeld.2.1)))))))))), ((cell_far (p := ⟨gb368, _, none⟩) NB343_368.out _).trans (((cell_far (p := ⟨gb368, _, none⟩) NB343_368.out _).trans (((cell_far (p := ⟨gb368, _, none⟩) NB343_368.out _).trans (((cell_far (p := ⟨gb368, _, none⟩) NB343_368.out _).trans (((cell_far (p := ⟨gb368, _, none⟩) NB343_368.out _).trans (hHeld.2.2.1)))))))))), ((cell_far (p := ⟨gb368, _, none⟩) NB343_368.out _).trans (((cell_far (p := ⟨gb368, _, none⟩) NB343_368.out _).trans (((cell_far (p := ⟨gb368, _, none⟩) NB343_368.out _).trans (((cell_far (p := ⟨gb368, _, none⟩) NB343_368.out _).trans (((cell_far (p := ⟨gb368, _, none⟩) NB343_368.out _).trans (hHeld.2.2.2))))))))))⟩ (fun hHeld => ?_); clear hK K
 refine done_ (by kernel_rfl) ?_
 try go_wp2_with (first | ((with_reducible refine gate_callee (f := 95) rfl ?_); refine gl_ (some 33) Try.func95 #[.pointer (some ⟨g, 0, none⟩), .int .i64 3] rfl q_0 ?_; (with_reducible refine (spec_l01Once.calls g s0_0 t356 t357 3 true t370 t371 w0 _ ?side1 ?side2 A9.out).mono ?_); (case side1 => exact q_154); (case side2 => exact q_81); rintro e w42 ⟨rfl, hi, hb, hk⟩; refine ⟨_, rfl, ?_⟩; replace BK336 := kB BK336 hk z13_30 NB336_0; replace BK343 := kB BK343 hk z13_31 NB343_0; replace HO352 := mk0 (Kd.R_mono (Kd.R_keep (IsS152.apart (show IsS152 w0 _ g s0_0 t356 t357 from q_154) (by (with_reducible repeat (first | apply Kd.R_alloc | apply Kd.R_drewN | apply Kd.R_drew)); exact (Kd.R_mono (R_f5 (Kd.R_types HO352.out BK368.out (by decide)) (fun _ hk => hk.2)) (fun _ h_ => h_.1))) (by decide)) hk (fun _ h => h.2)) (fun _ h => h.1)); replace HO355 := mk0 (Kd.R_mono (Kd.R_keep (IsS152.apart (show IsS152 w0 _ g s0_0 t356 t357 from q_154) (by (with_reducible repeat (first | apply Kd.R_alloc | apply Kd.R_drewN | apply Kd.R_drew)); exact (Kd.R_mono (R_f5 (Kd.R_types HO355.out BK368.out (by decide)) (fun _ hk => hk.2)) (fun _ h_ => h_.1))) (by decide)) hk (fun _ h => h.2)) (fun _ h => h.1)); replace HO360 := mk0 (Kd.S_mono (Kd.S_keep (IsS152.apartS (show IsS152 w0 _ g s0_0 t356 t357 from q_154) (by (with_reducible repeat (first | apply Kd.S_alloc | apply Kd.S_drewN | apply Kd.S_drew)); exact (Kd.S_mono (S_f5 (Kd.S_types HO360.out BK368.out (by decide)) (fun _ hk => hk.2)) (fun _ h_ => h_.1))) (by decide)) hk (fun _ h => h.2)) (fun _ h => h.1)); replace HO367 := mk0 (Kd.R_mono (Kd.R_keep (IsS152.apart (show IsS152 w0 _ g s0_0 t356 t357 from q_154) (by (with_reducible repeat (first | apply Kd.R_alloc | apply Kd.R_drewN | apply Kd.R_drew)); exact (Kd.R_mono (R_f5 (Kd.R_types HO367.out BK368.out (by decide)) (fun _ hk => hk.2)) (fun _ h_ => h_.1))) (by decide)) hk (fun _ h => h.2)) (fun _ h => h.1)); replace BK368 := mk0 (KeepBut.blk hk (g' := gb368) (o := .cells #[.int .i64 t361, .int .i64 t362, .int .i64 t363, .int .i64 t364, .slice Ao40 t365.length co40] 65 (0, 0)) z13_40 NB368_0.out (by simp)); replace HK := mk0 (KeepBut.trans z13_10 hk (.inl rfl)); replace HB := mk0 (hb); replace HI0 := mk0 (hi); clear hb hk hi))
 go_loopg [5] k (fun kq v5 w' => ∃ (x5_1 : Int) (x1001_1 : Int) (x1002_1 : Int) (x369004_1 : List Int) (u369004 : Value), v5 = .int .i64 x5_1 ∧ Aside0 (spec_l11Mask.l0 kq x5_1 s0_0 x1001_1 x1002_1 t361 t362 t363 t364 x369004_1 = some (r1, r2, r3, r4, r5, r6, r7)) ∧ Aside0 (kq ≤ k) ∧ Aside0 (Kd.R (Kd.int .i64) 3 w' w.heap.size (fun _ => True) u369004 x369004_1) ∧ Aside0 (w'.heap[gb336]? = some (.cells #[.int .i64 0, .int .i64 0, .int .i64 0, .int .i64 0, (.slice none 0 0)] 65 (0, 0))) ∧ Aside0 (w'.heap[gb343]? = some (.cells #[.int .i64 (wrap64 (t337 - 2)), .int .i64 (wrap64 (t340 - 2)), .int .i64 (wrap64 ((wrap64 ((wrap64 (t337 - 2)) + 1)) + t344)), .int .i64 (wrap64 ((wrap64 ((wrap64 (t340 - 2)) + 1)) + t347))] 63 (0, 0))) ∧ Aside0 (w'.heap[gb368]? = some (.cells #[.int .i64 t361, .int .i64 t362, .int .i64 t363, .int .i64 t364, u369004] 65 (0, 0))) ∧ Aside0 (IsS152 w0 w' g s0_0 x1001_1 x1002_1) ∧ Aside0 (KeepBut w w' g none) ∧ Aside0 (Below w0.heap.size w0 w'))
 case atStart => exact ⟨(0), (t370), (t371), (t365), (.slice Ao40 t365.length co40), rs0, H', ⟨Nat.le_refl _⟩, ⟨(by (with_reducible repeat (first | apply Kd.R_alloc | apply Kd.R_drewN | apply Kd.R_drew)); exact Kd.R_mono HO367.out (fun _ hk => trivial))⟩, ⟨pkb BK336⟩, ⟨pkb BK343⟩, ⟨pkb BK368⟩, ⟨q_154⟩, ⟨z13_10⟩, ⟨q_81⟩⟩
 case round =>
  clear H'; obtain ⟨x5_1, x1001_1, x1002_1, x369004_1, u369004, rfl, HA, HK1, HO_369004, BK336, BK343, BK368, HI0, HK, HB⟩ := hrel
  cases gk with
  | zero => exact absurd HA.out (by simp [spec_l11Mask.l0])
  | succ k1 =>
   have H := HA.out; clear HA; simp only [spec_l11Mask.l0] at H
   by_cases c43 : x5_1 < (x369004_1.length : Int)
   rotate_left
   ·rw [if_neg c43] at H; have c43b0 := decide_eq_false c43; clear c43; simp only [Option.some.injEq, Prod.mk.injEq] at H; obtain ⟨rfl, rfl, rfl, rfl, rfl, rfl, rfl⟩ := H; have hnb58 := NB368_336.out; have hnc58 := NB336_368.out; have hnb59 := NB368_343.out; have hnc59 := NB343_368.out; have hnb60 := NB368_0.out; have hnc60 := NB0_368.out; obtain ⟨_, _, _, _, _, _, _, _, _, _⟩ := be_5 BK368.out; obtain ⟨Ao62, co62, eo62⟩ := Kd.R_slice HO_369004.out; subst eo62; have hnb63 := NB336_343.out; have hnc63 := NB343_336.out; have hnb64 := NB336_0.out; have hnc64 := NB0_336.out; obtain ⟨_, _, _, _, _, _, _, _, _, _⟩ := be_5 BK336.out
    go_wp2
    refine bodyPost_ret (results_cell_row rfl _ _ gb336 65 #[.int .i64 t361, .int .i64 t362, .int .i64 t363, .int .i64 t364, .slice Ao62 x369004_1.length co62] (0, 0) _ rfl z13_41 Try.underlying65 rfl (by kernel_rfl)) rfl ?_
    exact ⟨_, (by first | rfl | (simp [errW_none, errW_some] <;> rfl) | (simp [*, errW_none, errW_some] <;> rfl)), (by (with_reducible repeat (first | apply Kd.R_alloc | apply Kd.R_drewN | apply Kd.R_drew)); exact Kd.R_mono (R_f5 (Kd.R_types HO_369004.out BK336.out (by decide)) (fun _ hk => hk.2)) (fun _ hk => trivial)), q_154, q_81, z13_10⟩
   rw [if_pos c43] at H; have c43b0 := decide_eq_true c43; clear c43
   obtain ⟨y372, hy_⟩ : ∃ y_ : List Int, y_ = (([0, 0, 15, 15, 3, 8] : List Int)) := ⟨_, rfl⟩
   replace H : ((spec_l01PickInt.f s0_0 x1001_1 x1002_1 y372).bind fun bt375 => (if 0 ≤ x5_1 then (spec_l11Mask.l0 k1 (wrap64 (x5_1 + 1)) s0_0 bt375.2.1 bt375.2.2 t361 t362 t363 t364 (x369004_1.set (x5_1 : Int).toNat bt375.1)) else (none))) = some (r1, r2, r3, r4, r5, r6, r7) := q_69
   have Ny372 := mk0 hy_; clear hy_
   obtain ⟨⟨t375, t376, t377⟩, A44, H⟩ := bnd H
   try dsimp only at H
   by_cases c45 : 0 ≤ x5_1
   rotate_left
   ·rw [if_neg c45] at H
    exact absurd H (by simp)
   rw [if_pos c45] at H; have c45b0 := decide_eq_true c45; clear c45
   obtain ⟨y378, hy_⟩ : ∃ y_ : List Int, y_ = (x369004_1.set (x5_1 : Int).toNat t375) := ⟨_, rfl⟩
   replace H : (spec_l11Mask.l0 k1 (wrap64 (x5_1 + 1)) s0_0 t376 t377 t361 t362 t363 t364 y378) = some (r1, r2, r3, r4, r5, r6, r7) := q_69
   have Ny378 := mk0 hy_; clear hy_
   have H' := mk0 H
   clear H; have hnb47 := NB368_336.out; have hnc47 := NB336_368.out; have hnb48 := NB368_343.out; have hnc48 := NB343_368.out; have hnb49 := NB368_0.out; have hnc49 := NB0_368.out; obtain ⟨_, _, _, _, _, _, _, _, _, _⟩ := be_5 BK368.out; obtain ⟨Ao51, co51, eo51⟩ := Kd.R_slice HO_369004.out; subst eo51
   try go_wp2
   replace HO_369004 := mk0 (Kd.R_drew HO_369004.out); replace BK336 := mk0 (blk_drew BK336.out); replace BK343 := mk0 (blk_drew BK343.out); replace BK368 := mk0 (blk_drew BK368.out); replace HI0 := mk0 (IsS152.drew HI0.out); replace HK := mk0 (keep_drew HK.out); replace HB := mk0 (below_drew1 HB.out)
   refine start_ (n := 8) (S := fun w' => w'.cell? ⟨gb368, 0, none⟩ = some (.int .i64 t361) ∧ w'.cell? ⟨gb368, 1, none⟩ = some (.int .i64 t362) ∧ w'.cell? ⟨gb368, 2, none⟩ = some (.int .i64 t363) ∧ w'.cell? ⟨gb368, 3, none⟩ = some (.int .i64 t364) ∧ w'.cell? ⟨gb368, 4, none⟩ = some (.slice Ao51 x369004_1.length co51)) (ds := [7]) y13_0 (by kernel_rfl) rfl rfl ⟨(blk_cell BK368.out 0).trans rfl, (blk_cell BK368.out 1).trans rfl, (blk_cell BK368.out 2).trans rfl, (blk_cell BK368.out 3).trans rfl, (blk_cell BK368.out 4).trans rfl⟩ (fun hHeld => ?_); refine with_tabW spec_l11Mask.tab9 spec_l11Mask.bits9 (fun HT_ HW_ => ?_)
   generalize wr.drew = w52 at HO_369004 BK336 BK343 BK368 HI0 HK HB hHeld ⊢
   refine pzx (i := 0) (N := 41) y13_1 HT_ ?_; refine pzx (i := 2) (N := 43) (bA 8 5) HT_ ?_; refine pzx (i := 3) (N := 44) (bA 8 13) HT_ ?_
   refine take_ (i := 1) (N := some 42) (v := ?_) (a' := ?_) y13_6 rfl rfl (take_ofW HT_.out HW_.out (by kernel_rfl)) (fun _ _ _ h => h) (Or.inl ⟨by rfl, ?_⟩) hHeld ?_ ?_
   rotate_left
   ·rintro w' ⟨s0, s1, s2, s3, s4⟩
    go_simp; with_reducible rfl
   rotate_left
   ·exact x13_put
   refine one_ (i := 4) (N := some 45) y13_7 rfl rfl (one_of HT_.out (by kernel_rfl)) (by decide) (fun K hK => ?_)
   refine Kd.R_lit_step (Kd.int .i64) _ 3 ?hg (N := 45) ?hd (xs := ([0, 0, 15, 15, 3, 8] : List Int)) (inner := [.int .i64 0, .int .i64 0, .int .i64 15, .int .i64 15, .int .i64 3, .int .i64 8]) (ok := fun _ => True) (okp := fun _ => True) ?hr ?hp (fun _ hk => hk) trivial (Below.refl _ _) (Nat.le_refl _) (by simp) ?_; (case hd => rfl); (case hg => rfl); (case hr => first | (go_simp; done) | (go_simp; rfl)); (case hp => exact (Reps.one (show Kd.M (Kd.int .i64) _ _ _ 0 [.int .i64 0] from rfl) (Reps.one (show Kd.M (Kd.int .i64) _ _ _ 0 [.int .i64 0] from rfl) (Reps.one (show Kd.M (Kd.int .i64) _ _ _ 15 [.int .i64 15] from rfl) (Reps.one (show Kd.M (Kd.int .i64) _ _ _ 15 [.int .i64 15] from rfl) (Reps.one (show Kd.M (Kd.int .i64) _ _ _ 3 [.int .i64 3] from rfl) (Reps.one (show Kd.M (Kd.int .i64) _ _ _ 8 [.int .i64 8] from rfl) (Reps.none _ _))))))))
   intro v373 w53 ho54 hb hg_ hnew_; clear hg_ hnew_
   (first | rw [← Ny372.out] at ho54 | (simp only [Int.reduceToNat] at ho54; rw [← Ny372.out] at ho54))
   have HO374 := mk0 (Kd.R_lower (Kd.R_new' ho54 (Kd.R_lt (pkR HO_369004))) (keep_size (w := w) (g := g) (row := none) z13_10)); replace HO_369004 := mk0 (Kd.R_elder' (pkR HO_369004) (Kd.R_base ho54) hb); replace BK336 := bB BK336 hb; replace BK343 := bB BK343 hb; replace BK368 := bB BK368 hb; replace HK := mk0 (KeepBut.trans z13_10 (KeepBut.of_below hb g none) (.inl rfl)); replace HB := bS q_81 hb; replace HI0 := mk0 (IsS152.below q_154 hb); clear hb ho54; obtain ⟨Ao55, co55, eo55⟩ := Kd.R_slice HO374.out
   (first | subst eo55 | (injection eo55 with f1_ f2_ f3_; have f4_ := f1_.symm; have f5_ := f3_.symm; clear f1_ f2_ f3_; subst f4_; subst f5_))
   refine hK.out _ _ ⟨(blk_cell BK368.out 0).trans rfl, (blk_cell BK368.out 1).trans rfl, (blk_cell BK368.out 2).trans rfl, (blk_cell BK368.out 3).trans rfl, (blk_cell BK368.out 4).trans rfl⟩ (fun hHeld => ?_); clear hK K
   refine norm_ (a' := ?_) ?_ ?_
   rotate_left
   ·show Act.put _ (some 45) _ = _
    simp only [Act.put, List.setIfInBounds_toArray, List.set_cons_zero, List.set_cons_succ, i64_w, i32_w]
    rfl
   refine one_ (i := 5) (N := some 46) y13_8 rfl rfl (one_of HT_.out (by kernel_rfl)) (by decide) (fun K hK => ?_)
   refine goes_ Try.func113 (by kernel_rfl) rfl #[.pointer (some ⟨g, 0, none⟩), .slice Ao55 y372.length co55] (by rfl) rfl rfl q_0 ?_
   with_reducible refine (spec_l01PickInt.calls g s0_0 x1001_1 x1002_1 _ _ y372 t375 t376 t377 w0 _ ?side1 ?side2 ?side3 ?side4 ?side5 A44.out).mono ?_
   (case side1 => exact q_154)
   (case side2 => exact q_81)
   (case side3 => repeat (first | exact (Kd.R_reads' HO374.out).2.2 | (with_reducible refine Kd.C_alloc ?_ _) | (with_reducible refine Kd.C_drewN ?_ _) | (with_reducible refine Kd.C_drew ?_)))
   (case side4 => exact (Kd.R_reads' HO374.out).2.1)
   (case side5 => exact far_slice (IsS152.own_ne HI0.out HO374.out (by decide)))
   rintro e w56 ⟨rfl, hi, hb, hk⟩
   refine ⟨_, rfl, ?_⟩
   replace HO_369004 := mk0 (Kd.R_mono (Kd.R_keep (IsS152.apart (show IsS152 w0 _ g s0_0 x1001_1 x1002_1 from q_154) (pkR HO_369004) (by decide)) hk (fun _ h => h.2)) (fun _ h => h.1))
   replace BK336 := kB BK336 hk (pkb BK336) NB336_0; replace BK343 := kB BK343 hk (pkb BK343) NB343_0; replace BK368 := kB BK368 hk (pkb BK368) NB368_0
   replace HO374 := mk0 (Kd.R_mono (Kd.R_keep (IsS152.apart (show IsS152 w0 _ g s0_0 x1001_1 x1002_1 from q_154) (pkR HO374) (by decide)) hk (fun _ h => h.2)) (fun _ h => h.1))
   replace HK := mk0 (KeepBut.trans z13_10 hk (.inl rfl)); replace HB := mk0 (hb); replace HI0 := mk0 (hi); (try clear hb); (try clear hb2); (try clear hk); (try clear hi)
   have p46 : 0 ≤ (x5_1 : Int) := of_decide_eq_true (by first | (with_reducible assumption) | assumption)
   have q46 : (x5_1 : Int) < ((x369004_1.length : Int) : Int) := of_decide_eq_true (by first | (with_reducible assumption) | assumption)
   obtain ⟨go46, co46, eo46, gb46, gl46, cl46, HG46⟩ := Kd.R_form HO_369004.out (by omega)
   (first | cases eo46 | (injection eo46 with ea_ en_ ec_; (first | subst ea_ | (injection ea_ with ea_; subst ea_)); subst ec_; clear en_))
   have GB46 := mk0 gb46; have GG46 := mk0 HG46; clear gb46 gl46 HG46; obtain ⟨hx46_0, hf46_0⟩ := Kd.R_celln 0 HO_369004.out (x5_1 : Int) p46 q46; replace p46 := eq_true p46; replace q46 := eq_true q46
   have HN0_go46 := mk0 (show g ≠ go46 from by have h_ := IsS152.own_ne HI0.out HO_369004.out (by decide); intro e_; exact h_ (by rw [e_]; rfl))
   have HP57 := Kd.R_putn HO_369004.out (x5_1 : Int) t375; rw [← Ny378.out] at HP57; have HQ57 := mk0 HP57; clear HP57; refine hK.out _ _ ⟨(blk_cell BK368.out 0).trans rfl, (blk_cell BK368.out 1).trans rfl, (blk_cell BK368.out 2).trans rfl, (blk_cell BK368.out 3).trans rfl, (blk_cell BK368.out 4).trans rfl⟩ (fun hHeld => ?_); clear hK K
   refine norm_ (a' := ?_) ?_ ?_
   rotate_left
   ·show Act.put _ (some 46) _ = _
    simp only [Act.put, List.setIfInBounds_toArray, List.set_cons_zero, List.set_cons_succ, i64_w, i32_w]
    rfl
   refine pzx (i := 6) (N := 47) y13_9 HT_ ?_
   refine last_ (i := 7) (N := none) y13_10 rfl rfl (one_of HT_.out (by kernel_rfl)) (by decide) (fun K hK => ?_)
   refine skip_ (w1 := ?_) ?hwx ?hN ?_ ?_; (case hwx => rfl); (case hN => rfl)
   rotate_left
   ·go_simp
    rfl
   refine hK.out _ _ ?_; clear hK K
   refine done_ (done_of HT_.out (by kernel_rfl)) ?_
   try go_wp2
   go_roundg k1
   case measure => have := HK1.out; omega
   case rel => exact ⟨(wrap64 (x5_1 + 1)), (t376), (t377), (y378), (.slice (some ⟨go46, 0, none⟩) x369004_1.length co51), rs0, H', ⟨(by have := HK1.out; omega)⟩, ⟨(by (with_reducible repeat (first | apply Kd.R_alloc | apply Kd.R_drewN | apply Kd.R_drew)); exact Kd.R_mono HQ57.out (fun _ hk => trivial))⟩, ⟨(by (with_reducible repeat (first | refine blk_drewN ?_ _ | refine blk_drew ?_ | refine blk_alloc ?_ _)); refine blk_far ?_ (by have h_ := Kd.R_ne HO_369004.out BK336.out (by decide); intro e_; exact h_ (by rw [e_]; rfl)) _; (with_reducible repeat (first | refine blk_drewN ?_ _ | refine blk_drew ?_ | refine blk_alloc ?_ _)); exact BK336.out)⟩, ⟨(by (with_reducible repeat (first | refine blk_drewN ?_ _ | refine blk_drew ?_ | refine blk_alloc ?_ _)); refine blk_far ?_ (by have h_ := Kd.R_ne HO_369004.out BK343.out (by decide); intro e_; exact h_ (by rw [e_]; rfl)) _; (with_reducible repeat (first | refine blk_drewN ?_ _ | refine blk_drew ?_ | refine blk_alloc ?_ _)); exact BK343.out)⟩, ⟨(by (with_reducible repeat (first | refine blk_drewN ?_ _ | refine blk_drew ?_ | refine blk_alloc ?_ _)); refine blk_far ?_ (by have h_ := Kd.R_ne HO_369004.out BK368.out (by decide); intro e_; exact h_ (by rw [e_]; rfl)) _; (with_reducible repeat (first | refine blk_drewN ?_ _ | refine blk_drew ?_ | refine blk_alloc ?_ _)); exact BK368.out)⟩, ⟨(by repeat (first | (with_reducible first | exact HI0.out | apply IsS152.alloc | apply IsS152.drewN | apply IsS152.drew | apply IsS152.set_1 | apply IsS152.set_2 | refine IsS152.far ?_ HN0_go46.out _ | apply IsS152.farB NB0_336.out | apply IsS152.farB NB0_343.out | apply IsS152.farB NB0_368.out) | exact HI0.out))⟩, ⟨(by repeat (first | (with_reducible first | exact HK.out | apply KeepBut.set_ | apply keep_drewN | apply keep_drew | apply keep_alloc | refine keep_far ?_ GB46.out _ | refine keep_far ?_ GW336.out _ | refine keep_far ?_ GW343.out _ | refine keep_far ?_ GW368.out _) | exact HK.out))⟩, ⟨(by repeat (first | (with_reducible first | exact HB.out | apply below_alloc | apply pw_below_drewN | apply below_drew1 | refine below_set ?_ (Nat.le_trans HL.out GB46.out) | refine below_set ?_ (IsS152.ge HI0.out) | refine below_set ?_ GE336.out | refine below_set ?_ GE343.out | refine below_set ?_ GE368.out) | exact HB.out))⟩⟩

end Go.Proofs.Ytghbenapnhcllaa.MFnMasks
