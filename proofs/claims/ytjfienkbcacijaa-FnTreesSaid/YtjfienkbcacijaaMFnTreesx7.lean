/- Functions of the program as Lean functions, and the proof that a call comes to just these: machine text of this session's own program (myprint.py). -/
import Derived.Test.YtjfienkbcacijaaMFnTreesx0
import Derived.Test.YtjfienkbcacijaaMFnTreesx5
import Derived.Test.YtjfienkbcacijaaMFnTreesx6
namespace Go.Proofs.Ytjfienkbcacijaa.MFnTrees
open Go.RowKit Go.Proofs.YtjfienkbcacijaaW.PrintWords Go.Proofs.YtjfienkbcacijaaW.PrintLast Go.Proofs.YtjfienkbcacijaaW.PrintMore
attribute [local go_sem] max2_int min2_int max_two min_two max_three min_three max_four min_four   -- for this text's walks alone
set_option linter.unusedVariables false
set_option linter.unusedSimpArgs false

theorem x7_put {P : Prop} (h : P := by simp only [Act.put, List.setIfInBounds_toArray, List.set_cons_zero, List.set_cons_succ, i64_w, i32_w]; rfl) : P := h
theorem z7_1 {P : Prop} (h : P := by repeat (first | (with_reducible first | exact HK.out | apply KeepBut.set_ | apply keep_drewN | apply keep_drew | apply keep_alloc | refine keep_far ?_ Yl.out _ | refine keep_far ?_ YP.out _) | exact HK.out)) : P := h
theorem z7_4 {P : Prop} (h : P := by repeat (first | (with_reducible first | exact HK.out | apply KeepBut.set_ | apply keep_drewN | apply keep_drew | apply keep_alloc | refine keep_far ?_ Yl.out _) | exact HK.out)) : P := h
theorem z7_12 {P : Prop} (h : P := by apply blk_fin; (focus ((with_reducible repeat (first | apply blk_putQ | refine blk_drewN ?_ _ | refine blk_drew ?_ | refine blk_alloc ?_ _)); exact XF.out)); first | (simp only [List.setIfInBounds_toArray, List.set_cons_zero, List.set_cons_succ]; done) | rfl) : P := h
theorem z7_13 {P : Prop} (h : P := by apply blk_fin; (focus ((with_reducible repeat (first | apply blk_putQ | refine blk_drewN ?_ _ | refine blk_drew ?_ | refine blk_alloc ?_ _)); exact XG.out)); first | (simp only [List.setIfInBounds_toArray, List.set_cons_zero, List.set_cons_succ]; done) | rfl) : P := h
theorem z7_16 {P : Prop} (h : P := by (with_reducible repeat (first | refine blk_drewN ?_ _ | refine blk_drew ?_ | refine blk_alloc ?_ _ | refine blk_far ?_ XM.out _)); exact XF.out) : P := h
theorem z7_21 {P : Prop} (h : P := by (with_reducible repeat (first | apply Kd.R_alloc | apply Kd.R_drewN | apply Kd.R_drew)); exact Kd.R_mono XD.out (fun _ hk => trivial)) : P := h
/-! ### spec_l06Path: function 110 -/
mutual
def spec_l06Path.l0 : Nat → Int → List Int → Int → Int → List Int → List (S29) → Option (List Int × (List (S29)) × Int × Int)
 | 0, _, _, _, _, _, _ => none
 | k + 1, x6, XW, X0, X1, XJ, XK => (spec_l01Below.f XW X0 X1 6).bind fun X5 => (if x6 < (wrap64 (1 + X5.1)) then ((spec_l01PickInt.f XW X5.2.1 X5.2.2 (([2, 2, 2, 3, 4, 5, 1] : List Int))).bind fun XX => (if x6 = 0 then (spec_l06Path.j1 k x6 XX.1 true XW XX.2.1 XX.2.2 XJ XK) else (if 0 ≤ (wrap64 (x6 - 1)) then (if (wrap64 (x6 - 1)) < (XJ.length : Int) then (spec_l06Path.j1 k x6 XX.1 ((rd XJ (wrap64 (x6 - 1))) == 5) XW XX.2.1 XX.2.2 XJ XK) else (none)) else (none)))) else (some (XJ, XK, X5.2.1, X5.2.2)))
def spec_l06Path.j1 : Nat → Int → Int → Bool → List Int → Int → Int → List Int → List (S29) → Option (List Int × (List (S29)) × Int × Int)
 | 0, _, _, _, _, _, _, _, _ => none
 | k + 1, x6, x7, x50, XW, X0, X1, XJ, XK => if x50 = true then (spec_l06Path.j2 k x6 1 XW X0 X1 XJ XK) else (spec_l06Path.j2 k x6 x7 XW X0 X1 XJ XK)
def spec_l06Path.j2 : Nat → Int → Int → List Int → Int → Int → List Int → List (S29) → Option (List Int × (List (S29)) × Int × Int)
 | 0, _, _, _, _, _, _, _ => none
 | k + 1, x6, x7, XW, X0, X1, XJ, XK => (spec_NeedOf.f x7).bind fun Ym => (if (wrap64 ((XK.length : Int) + Ym)) > 24 then (some (XJ, XK, X0, X1)) else (if XJ.length < 17592186044416 then (spec_l06Path.l1 k x6 x7 0 XW X0 X1 (XJ ++ [x7]) XK) else (none)))
def spec_l06Path.l1 : Nat → Int → Int → Int → List Int → Int → Int → List Int → List (S29) → Option (List Int × (List (S29)) × Int × Int)
 | 0, _, _, _, _, _, _, _, _ => none
 | k + 1, x6, x7, x8, XW, X0, X1, XJ, XK => (spec_NeedOf.f x7).bind fun Yn => (if x8 < Yn then ((spec_l04Point.f XW X0 X1).bind fun Yb => (if XK.length < 8796093022208 then (spec_l06Path.l1 k x6 x7 (wrap64 (x8 + 1)) XW Yb.2.2.1 Yb.2.2.2 XJ (XK ++ [(⟨Yb.1, Yb.2.1⟩ : S29)])) else (none))) else (spec_l06Path.l0 k (wrap64 (x6 + 1)) XW X0 X1 XJ XK))
end
def spec_l06Path.f (k : Nat) (s0_0 : List Int) (s0_1 : Int) (s0_2 : Int) : Option (List Int × (List (S29)) × Int × Int) := (spec_l01Once.f s0_0 s0_1 s0_2 2).bind fun X6 => (if X6.1 = true then ((spec_l01Below.f s0_0 X6.2.1 X6.2.2 2400).bind fun Yc => ((spec_l01Below.f s0_0 Yc.2.1 Yc.2.2 2400).bind fun Yd => ((spec_l01Below.f s0_0 Yd.2.1 Yd.2.2 1500).bind fun Yo => ((spec_l01Below.f s0_0 Yo.2.1 Yo.2.2 1500).bind fun Yp => ((spec_RectPath.f Yc.1 Yd.1 (wrap64 ((wrap64 (Yc.1 + 1)) + Yo.1)) (wrap64 ((wrap64 (Yd.1 + 1)) + Yp.1))).bind fun Yx => (some (Yx.1, Yx.2, Yp.2.1, Yp.2.2))))))) else (spec_l06Path.l0 k 0 s0_0 X6.2.1 X6.2.2 ([] : List Int) ([] : List (S29))))
theorem spec_l06Path.mono_l : ∀ k, (∀ y0 y1 y2 y3 y4 y5, LeO (spec_l06Path.l0 k y0 y1 y2 y3 y4 y5) (spec_l06Path.l0 (k + 1) y0 y1 y2 y3 y4 y5)) ∧ (∀ y0 y1 y2 y3 y4 y5 y6 y7, LeO (spec_l06Path.j1 k y0 y1 y2 y3 y4 y5 y6 y7) (spec_l06Path.j1 (k + 1) y0 y1 y2 y3 y4 y5 y6 y7)) ∧ (∀ y0 y1 y2 y3 y4 y5 y6, LeO (spec_l06Path.j2 k y0 y1 y2 y3 y4 y5 y6) (spec_l06Path.j2 (k + 1) y0 y1 y2 y3 y4 y5 y6)) ∧ (∀ y0 y1 y2 y3 y4 y5 y6 y7, LeO (spec_l06Path.l1 k y0 y1 y2 y3 y4 y5 y6 y7) (spec_l06Path.l1 (k + 1) y0 y1 y2 y3 y4 y5 y6 y7))
 | 0 => ⟨fun _ _ _ _ _ _ r h => by simp [spec_l06Path.l0] at h, fun _ _ _ _ _ _ _ _ r h => by simp [spec_l06Path.j1] at h, fun _ _ _ _ _ _ _ r h => by simp [spec_l06Path.j2] at h, fun _ _ _ _ _ _ _ _ r h => by simp [spec_l06Path.l1] at h⟩
 | k + 1 => by
  obtain ⟨ih0, ih1, ih2, ih3⟩ := spec_l06Path.mono_l k
  refine ⟨?_, ?_, ?_, ?_⟩
  ·intro y0 y1 y2 y3 y4 y5
   unfold spec_l06Path.l0
   with_reducible repeat' first | apply ih0 | apply ih1 | apply ih2 | apply ih3 | exact LeO.refl _ | exact LeO.none _ | refine LeO.ite ?_ ?_ | refine LeO.bind ?_ (fun _ => ?_)
  ·intro y0 y1 y2 y3 y4 y5 y6 y7
   unfold spec_l06Path.j1
   with_reducible repeat' first | apply ih0 | apply ih1 | apply ih2 | apply ih3 | exact LeO.refl _ | exact LeO.none _ | refine LeO.ite ?_ ?_ | refine LeO.bind ?_ (fun _ => ?_)
  ·intro y0 y1 y2 y3 y4 y5 y6
   unfold spec_l06Path.j2
   with_reducible repeat' first | apply ih0 | apply ih1 | apply ih2 | apply ih3 | exact LeO.refl _ | exact LeO.none _ | refine LeO.ite ?_ ?_ | refine LeO.bind ?_ (fun _ => ?_)
  ·intro y0 y1 y2 y3 y4 y5 y6 y7
   unfold spec_l06Path.l1
   with_reducible repeat' first | apply ih0 | apply ih1 | apply ih2 | apply ih3 | exact LeO.refl _ | exact LeO.none _ | refine LeO.ite ?_ ?_ | refine LeO.bind ?_ (fun _ => ?_)
theorem spec_l06Path.mono : ∀ a0 a1 a2 k, LeO (spec_l06Path.f k a0 a1 a2) (spec_l06Path.f (k + 1) a0 a1 a2) := by
 intro a0 a1 a2 k; obtain ⟨ih0, ih1, ih2, ih3⟩ := spec_l06Path.mono_l k
 unfold spec_l06Path.f
 with_reducible repeat' first | apply ih0 | apply ih1 | apply ih2 | apply ih3 | exact LeO.refl _ | exact LeO.none _ | refine LeO.ite ?_ ?_ | refine LeO.bind ?_ (fun _ => ?_)
def spec_l06Path.T18 : Bool × List (List Nat × List Nat) := (true, [([], []), ([0], [0]), ([], []), ([2], [2]), ([3], [3]), ([1, 4, 3], [1, 4]), ([0, 1, 2, 3, 4, 5], []), ([6, 5, 5, 0, 1, 2, 3, 4, 5], [5, 6])])
def spec_l06Path.B18 : List Nat := [0, 1, 0, 4, 12, 31, 63, 127]
theorem spec_l06Path.tab18 : rtab .any (opsOf Try.f110 18) = spec_l06Path.T18 := by kernel_rfl
theorem spec_l06Path.bits18 : waitsOk spec_l06Path.T18.2 spec_l06Path.B18 = true := by kernel_rfl
set_option maxHeartbeats 8000000 in
set_option maxRecDepth 100000 in
theorem spec_l06Path.calls (k : Nat) (g : Nat) (s0_0 : List Int) (s0_1 : Int) (s0_2 : Int) (r1 : List Int) (r2 : List (S29)) (r3 : Int) (r4 : Int) (w0 w : World) (hI : IsS104 w0 w g s0_0 s0_1 s0_2) (hB : Below w0.heap.size w0 w) (h : spec_l06Path.f k s0_0 s0_1 s0_2 = some (r1, r2, r3, r4)) :
  Calls Try.prog 110 #[.pointer (some ⟨g, 0, none⟩)] w fun e w' => ∃ v0_ v1_ : Value, e = .returned (.agg #[v0_, v1_]) ∧ Kd.R (Kd.int .i64) 3 w' w.heap.size (fun _ => True) v0_ r1 ∧ Kd.R k29 29 w' w.heap.size (fun _ => True) v1_ r2 ∧ IsS104 w0 w' g s0_0 r3 r4 ∧ Below w0.heap.size w0 w' ∧ KeepBut w w' g none := by
 have hu63 := Try.underlying63; have hu143 := Try.underlying143; have HI0 := mk0 hI; have HK := mk0 (KeepBut.refl w g none); have HL := mk0 hB.size; clear hI; have HW0 := mk0 hB.size; have HB := mk0 hB; clear hB
 have H := h; unfold spec_l06Path.f at H
 clear h
 obtain ⟨⟨Y8, Ye, Yf⟩, A2, H⟩ := bnd H
 try dsimp only at H
 by_cases c3 : Y8 = true
 ·subst c3; rw [if_pos rfl] at H
  obtain ⟨⟨Yq, YQ, YR⟩, A4, H⟩ := bnd H
  try dsimp only at H
  obtain ⟨⟨Yr, YS, YT⟩, A5, H⟩ := bnd H
  try dsimp only at H
  obtain ⟨⟨YD, YU, YV⟩, A6, H⟩ := bnd H
  try dsimp only at H
  obtain ⟨⟨YE, Y9, Za⟩, A7, H⟩ := bnd H
  try dsimp only at H
  obtain ⟨⟨YW, YX⟩, A8, H⟩ := bnd H
  try dsimp only at H
  simp only [Option.some.injEq, Prod.mk.injEq] at H; obtain ⟨rfl, rfl, rfl, rfl⟩ := H
  go_enter Try.func110, Try.ntmps110
  go_wp2_with (first | ((with_reducible refine gate_dst (N := 2) rfl ?_); refine boxz (cs := #[.slice none 0 0, .slice none 0 0]) (t := 63) rfl ?_; intro XO hg w9 hbox hb; replace HB := bS q_129 hb; have XF := mk0 (hbox); have Yl := mk0 ((by rw [hg]; exact (keep_size (w := w) (g := g) (row := none) q_191) : w.heap.size ≤ XO)); have Xw := mk0 ((Nat.le_trans HW0.out (by rw [hg]; exact (keep_size (w := w) (g := g) (row := none) q_191) : w.heap.size ≤ XO) : w0.heap.size ≤ XO)); replace HK := mk0 (KeepBut.trans q_191 (KeepBut.of_below hb g none) (.inl rfl)); have Xo := mk0 ((by rw [hg]; exact Nat.ne_of_lt (IsS104.lt (show IsS104 w0 _ g s0_0 s0_1 s0_2 from q_177)) : g ≠ XO)); have XL := mk0 ((by rw [hg]; exact Nat.ne_of_gt (IsS104.lt (show IsS104 w0 _ g s0_0 s0_1 s0_2 from q_177)) : XO ≠ g)); replace HI0 := mk0 (IsS104.below q_177 hb); clear hb hbox hg) | ((with_reducible refine gate_callee (f := 92) rfl ?_); refine gl_ (some 10) Try.func92 #[.pointer (some ⟨g, 0, none⟩), .int .i64 2] rfl q_1 ?_; (with_reducible refine (spec_l01Once.calls g s0_0 s0_1 s0_2 2 true Ye Yf w0 _ ?side1 ?side2 A2.out).mono ?_); (case side1 => exact q_168); (case side2 => exact q_121); rintro e w10 ⟨rfl, hi, hb, hk⟩; refine ⟨_, rfl, ?_⟩; replace XF := kB XF hk (pkb XF) XL; replace HK := mk0 (KeepBut.trans z7_4 hk (.inl rfl)); replace HB := mk0 (hb); replace HI0 := mk0 (hi); clear hb hk hi) | ((with_reducible refine gate_callee (f := 47) rfl ?_); refine gl_ (some 12) Try.func47 #[.pointer (some ⟨g, 0, none⟩), .int .i64 2400] rfl q_1 ?_; (with_reducible refine (spec_l01Below.calls g s0_0 Ye Yf 2400 Yq YQ YR w0 _ ?side1 ?side2 A4.out).mono ?_); (case side1 => exact q_168); (case side2 => exact q_121); rintro e w11 ⟨rfl, hi, hb, hk⟩; refine ⟨_, rfl, ?_⟩; replace XF := kB XF hk (pkb XF) XL; replace HK := mk0 (KeepBut.trans z7_4 hk (.inl rfl)); replace HB := mk0 (hb); replace HI0 := mk0 (hi); clear hb hk hi) | ((with_reducible refine gate_callee (f := 47) rfl ?_); refine gl_ (some 14) Try.func47 #[.pointer (some ⟨g, 0, none⟩), .int .i64 2400] rfl q_1 ?_; (with_reducible refine (spec_l01Below.calls g s0_0 YQ YR 2400 Yr YS YT w0 _ ?side1 ?side2 A5.out).mono ?_); (case side1 => exact q_168); (case side2 => exact q_121); rintro e w12 ⟨rfl, hi, hb, hk⟩; refine ⟨_, rfl, ?_⟩; replace XF := kB XF hk (pkb XF) XL; replace HK := mk0 (KeepBut.trans z7_4 hk (.inl rfl)); replace HB := mk0 (hb); replace HI0 := mk0 (hi); clear hb hk hi) | ((with_reducible refine gate_callee (f := 47) rfl ?_); refine gl_ (some 20) Try.func47 #[.pointer (some ⟨g, 0, none⟩), .int .i64 1500] rfl q_1 ?_; (with_reducible refine (spec_l01Below.calls g s0_0 YS YT 1500 YD YU YV w0 _ ?side1 ?side2 A6.out).mono ?_); (case side1 => exact q_168); (case side2 => exact q_121); rintro e w13 ⟨rfl, hi, hb, hk⟩; refine ⟨_, rfl, ?_⟩; replace XF := kB XF hk (pkb XF) XL; replace HK := mk0 (KeepBut.trans z7_4 hk (.inl rfl)); replace HB := mk0 (hb); replace HI0 := mk0 (hi); clear hb hk hi) | ((with_reducible refine gate_callee (f := 47) rfl ?_); refine gl_ (some 25) Try.func47 #[.pointer (some ⟨g, 0, none⟩), .int .i64 1500] rfl q_1 ?_; (with_reducible refine (spec_l01Below.calls g s0_0 YU YV 1500 YE Y9 Za w0 _ ?side1 ?side2 A7.out).mono ?_); (case side1 => exact q_168); (case side2 => exact q_121); rintro e w14 ⟨rfl, hi, hb, hk⟩; refine ⟨_, rfl, ?_⟩; replace XF := kB XF hk (pkb XF) XL; replace HK := mk0 (KeepBut.trans z7_4 hk (.inl rfl)); replace HB := mk0 (hb); replace HI0 := mk0 (hi); clear hb hk hi) | ((with_reducible refine gate_callee (f := 116) rfl ?_); refine gl_ (some 28) Try.func116 #[.agg #[.int .i64 Yq, .int .i64 Yr, .int .i64 (wrap64 ((wrap64 (Yq + 1)) + YD)), .int .i64 (wrap64 ((wrap64 (Yr + 1)) + YE))]] rfl q_1 ?_; (with_reducible refine (spec_RectPath.calls Yq Yr (wrap64 ((wrap64 (Yq + 1)) + YD)) (wrap64 ((wrap64 (Yr + 1)) + YE)) YW YX _ A8.out).mono ?_); rintro e w15 ⟨v242, v245, rfl, ho0, ho1, hb⟩; refine ⟨_, rfl, ?_⟩; have Yy := mk0 (Kd.R_lower ho0 (keep_size (w := w) (g := g) (row := none) z7_4)); have Yz := mk0 (Kd.R_lower ho1 (keep_size (w := w) (g := g) (row := none) z7_4)); replace XF := bB XF hb; replace HK := mk0 (KeepBut.trans z7_4 (KeepBut.of_below hb g none) (.inl rfl)); replace HB := bS q_121 hb; replace HI0 := mk0 (IsS104.below q_168 hb); clear hb ho0 ho1; (try clear hk); (try clear hi); obtain ⟨Zb, Zc, Zd⟩ := Kd.R_slice Yy.out; subst Zd; have Zv := XL.out; have Zw := Xo.out; refine bc_2 XF.out ?_; intros; obtain ⟨Ze, Zf, Zg⟩ := Kd.R_slice Yz.out; subst Zg))
  refine bodyPost_ret (results_cell_row rfl _ _ XO 63 #[.slice Zb YW.length Zc, .slice Ze YX.length Zf] (0, 0) _ rfl z7_12 Try.underlying63 rfl (by kernel_rfl)) rfl ?_
  exact ⟨_, _, q_94, (by (with_reducible repeat (first | apply Kd.R_alloc | apply Kd.R_drewN | apply Kd.R_drew)); exact Kd.R_mono (R_f2 (Kd.R_types Yy.out XF.out (by decide)) (fun _ hk => hk.2)) (fun _ hk => trivial)), (by (with_reducible repeat (first | apply Kd.R_alloc | apply Kd.R_drewN | apply Kd.R_drew)); exact Kd.R_mono (R_f2 (Kd.R_types Yz.out XF.out (by decide)) (fun _ hk => hk.2)) (fun _ hk => trivial)), q_168, q_121, z7_4⟩
 replace c3 := Bool.eq_false_iff.mpr c3; subst c3; rw [if_neg (show ¬ (false = true) by decide)] at H
 have H' := mk0 H
 clear H; go_enter Try.func110, Try.ntmps110
 go_wp2_with (first | ((with_reducible refine gate_dst (N := 2) rfl ?_); refine boxz (cs := #[.slice none 0 0, .slice none 0 0]) (t := 63) rfl ?_; intro XO hg w20 hbox hb; replace HB := bS q_129 hb; have XF := mk0 (hbox); have Yl := mk0 ((by rw [hg]; exact (keep_size (w := w) (g := g) (row := none) q_191) : w.heap.size ≤ XO)); have Xw := mk0 ((Nat.le_trans HW0.out (by rw [hg]; exact (keep_size (w := w) (g := g) (row := none) q_191) : w.heap.size ≤ XO) : w0.heap.size ≤ XO)); replace HK := mk0 (KeepBut.trans q_191 (KeepBut.of_below hb g none) (.inl rfl)); have Xo := mk0 ((by rw [hg]; exact Nat.ne_of_lt (IsS104.lt (show IsS104 w0 _ g s0_0 s0_1 s0_2 from q_177)) : g ≠ XO)); have XL := mk0 ((by rw [hg]; exact Nat.ne_of_gt (IsS104.lt (show IsS104 w0 _ g s0_0 s0_1 s0_2 from q_177)) : XO ≠ g)); replace HI0 := mk0 (IsS104.below q_177 hb); clear hb hbox hg) | ((with_reducible refine gate_callee (f := 92) rfl ?_); refine gl_ (some 10) Try.func92 #[.pointer (some ⟨g, 0, none⟩), .int .i64 2] rfl q_1 ?_; (with_reducible refine (spec_l01Once.calls g s0_0 s0_1 s0_2 2 false Ye Yf w0 _ ?side1 ?side2 A2.out).mono ?_); (case side1 => exact q_168); (case side2 => exact q_121); rintro e w21 ⟨rfl, hi, hb, hk⟩; refine ⟨_, rfl, ?_⟩; replace XF := kB XF hk (pkb XF) XL; replace HK := mk0 (KeepBut.trans z7_4 hk (.inl rfl)); replace HB := mk0 (hb); replace HI0 := mk0 (hi); clear hb hk hi) | ((with_reducible refine gate_dst (N := 5) rfl ?_); refine boxz (cs := #[.slice none 0 0, .slice none 0 0]) (t := 63) rfl ?_; intro XN hg w22 hbox hb; replace HB := bS q_121 hb; have XG := mk0 (hbox); have YP := mk0 ((by rw [hg]; exact (keep_size (w := w) (g := g) (row := none) z7_4) : w.heap.size ≤ XN)); have XC := mk0 ((Nat.le_trans HW0.out (by rw [hg]; exact (keep_size (w := w) (g := g) (row := none) z7_4) : w.heap.size ≤ XN) : w0.heap.size ≤ XN)); replace HK := mk0 (KeepBut.trans z7_4 (KeepBut.of_below hb g none) (.inl rfl)); have XM := mk0 (nb_lt hg (blk_ltB XF (pkb XF))); have XV := mk0 (nb_gt hg (blk_ltB XF (pkb XF))); replace XF := bB XF hb; have Xp := mk0 ((by rw [hg]; exact Nat.ne_of_lt (IsS104.lt (show IsS104 w0 _ g s0_0 Ye Yf from q_168)) : g ≠ XN)); have XR := mk0 ((by rw [hg]; exact Nat.ne_of_gt (IsS104.lt (show IsS104 w0 _ g s0_0 Ye Yf from q_168)) : XN ≠ g)); replace HI0 := mk0 (IsS104.below q_168 hb); clear hb hbox hg; have Zx := XV.out; have Zy := XM.out; have Zz := XR.out; have ZA := Xp.out; refine bc_2 XG.out ?_; intros))
 go_loopg [6] k (fun kq v6 w' => ∃ (XS : Int) (XT : Int) (XU : Int) (XH : List Int) (XI : List (S29)) (u248000 : Value) (u248001 : Value), v6 = .int .i64 XS ∧ Aside0 (spec_l06Path.l0 kq XS s0_0 XT XU XH XI = some (r1, r2, r3, r4)) ∧ Aside0 (kq ≤ k) ∧ Aside0 (Kd.R (Kd.int .i64) 3 w' w.heap.size (fun _ => True) u248000 XH) ∧ Aside0 (Kd.R k29 29 w' w.heap.size (fun _ => True) u248001 XI) ∧ Aside0 (w'.heap[XO]? = some (.cells #[(.slice none 0 0), (.slice none 0 0)] 63 (0, 0))) ∧ Aside0 (w'.heap[XN]? = some (.cells #[u248000, u248001] 63 (0, 0))) ∧ Aside0 (IsS104 w0 w' g s0_0 XT XU) ∧ Aside0 (KeepBut w w' g none) ∧ Aside0 (Below w0.heap.size w0 w'))
 case atStart => exact ⟨(0), (Ye), (Yf), (([] : List Int)), (([] : List (S29))), (.slice none 0 0), (.slice none 0 0), rs0, H', ⟨Nat.le_refl _⟩, ⟨q_89⟩, ⟨q_89⟩, ⟨(by (with_reducible repeat (first | refine blk_drewN ?_ _ | refine blk_drew ?_ | refine blk_alloc ?_ _ | refine blk_far ?_ XM.out _)); exact XF.out)⟩, ⟨z7_13⟩, ⟨q_167⟩, ⟨z7_1⟩, ⟨q_120⟩⟩
 case round =>
  clear H'
  try clear c3
  obtain ⟨XS, XT, XU, XH, XI, u248000, u248001, rfl, HA, HK1, XD, XE, XF, XG, HI0, HK, HB⟩ := hrel
  cases gk with
  | zero => exact absurd HA.out (by simp [spec_l06Path.l0])
  | succ k1 =>
   have H := HA.out; clear HA; simp only [spec_l06Path.l0] at H
   obtain ⟨⟨YF, X9, Ya⟩, A26, H⟩ := bnd H
   try dsimp only at H
   by_cases c27 : XS < (wrap64 (1 + YF))
   rotate_left
   ·rw [if_neg c27] at H; have c27b0 := decide_eq_false c27; clear c27; simp only [Option.some.injEq, Prod.mk.injEq] at H; obtain ⟨rfl, rfl, rfl, rfl⟩ := H
    go_wp2_with (first | ((with_reducible refine gate_callee (f := 47) rfl ?_); refine gl_ (some 32) Try.func47 #[.pointer (some ⟨g, 0, none⟩), .int .i64 6] rfl q_1 ?_; (with_reducible refine (spec_l01Below.calls g s0_0 XT XU 6 YF X9 Ya w0 _ ?side1 ?side2 A26.out).mono ?_); (case side1 => exact q_167); (case side2 => exact q_120); rintro e w77 ⟨rfl, hi, hb, hk⟩; refine ⟨_, rfl, ?_⟩; replace XD := mk0 (Kd.R_mono (Kd.R_keep (IsS104.apart (show IsS104 w0 _ g s0_0 XT XU from q_167) (pkR XD) (by decide)) hk (fun _ h => h.2)) (fun _ h => h.1)); replace XE := mk0 (Kd.R_mono (Kd.R_keep (IsS104.apart (show IsS104 w0 _ g s0_0 XT XU from q_167) (pkR XE) (by decide)) hk (fun _ h => h.2)) (fun _ h => h.1)); replace XF := kB XF hk (pkb XF) XL; replace XG := kB XG hk (pkb XG) XR; replace HK := mk0 (KeepBut.trans z7_1 hk (.inl rfl)); replace HB := mk0 (hb); replace HI0 := mk0 (hi); clear hb hk hi; have ZB := XV.out; have ZC := XM.out; have ZD := XR.out; have ZE := Xp.out; refine bc_2 XG.out ?_; intros; obtain ⟨Zh, Zi, Zj⟩ := Kd.R_slice XD.out; subst Zj; have ZF := XL.out; have ZG := Xo.out; refine bc_2 XF.out ?_; intros; obtain ⟨Zk, Zl, Zm⟩ := Kd.R_slice XE.out; subst Zm))
    refine bodyPost_ret (results_cell_row rfl _ _ XO 63 #[.slice Zh XH.length Zi, .slice Zk XI.length Zl] (0, 0) _ rfl z7_12 Try.underlying63 rfl (by kernel_rfl)) rfl ?_
    exact ⟨_, _, q_94, (by (with_reducible repeat (first | apply Kd.R_alloc | apply Kd.R_drewN | apply Kd.R_drew)); exact Kd.R_mono (R_f2 (Kd.R_types XD.out XF.out (by decide)) (fun _ hk => hk.2)) (fun _ hk => trivial)), (by (with_reducible repeat (first | apply Kd.R_alloc | apply Kd.R_drewN | apply Kd.R_drew)); exact Kd.R_mono (R_f2 (Kd.R_types XE.out XF.out (by decide)) (fun _ hk => hk.2)) (fun _ hk => trivial)), q_167, q_120, z7_1⟩
   rw [if_pos c27] at H; have c27b0 := decide_eq_true c27; clear c27
   obtain ⟨YG, hy_⟩ : ∃ y_ : List Int, y_ = (([2, 2, 2, 3, 4, 5, 1] : List Int)) := ⟨_, rfl⟩
   replace H : ((spec_l01PickInt.f s0_0 X9 Ya YG).bind fun XX => (if XS = 0 then (spec_l06Path.j1 k1 XS XX.1 true s0_0 XX.2.1 XX.2.2 XH XI) else (if 0 ≤ (wrap64 (XS - 1)) then (if (wrap64 (XS - 1)) < (XH.length : Int) then (spec_l06Path.j1 k1 XS XX.1 ((rd XH (wrap64 (XS - 1))) == 5) s0_0 XX.2.1 XX.2.2 XH XI) else (none)) else (none)))) = some (r1, r2, r3, r4) := q_88
   have YA := mk0 hy_; clear hy_
   obtain ⟨⟨Yv, X7, X8⟩, A28, H⟩ := bnd H
   try dsimp only at H
   have YH := mk0 H; clear H
   go_upto_region 10 with (first | ((with_reducible refine gate_callee (f := 47) rfl ?_); refine gl_ (some 32) Try.func47 #[.pointer (some ⟨g, 0, none⟩), .int .i64 6] rfl q_1 ?_; (with_reducible refine (spec_l01Below.calls g s0_0 XT XU 6 YF X9 Ya w0 _ ?side1 ?side2 A26.out).mono ?_); (case side1 => exact q_167); (case side2 => exact q_120); rintro e w30 ⟨rfl, hi, hb, hk⟩; refine ⟨_, rfl, ?_⟩; replace XD := mk0 (Kd.R_mono (Kd.R_keep (IsS104.apart (show IsS104 w0 _ g s0_0 XT XU from q_167) (pkR XD) (by decide)) hk (fun _ h => h.2)) (fun _ h => h.1)); replace XE := mk0 (Kd.R_mono (Kd.R_keep (IsS104.apart (show IsS104 w0 _ g s0_0 XT XU from q_167) (pkR XE) (by decide)) hk (fun _ h => h.2)) (fun _ h => h.1)); replace XF := kB XF hk (pkb XF) XL; replace XG := kB XG hk (pkb XG) XR; replace HK := mk0 (KeepBut.trans z7_1 hk (.inl rfl)); replace HB := mk0 (hb); replace HI0 := mk0 (hi); clear hb hk hi) | ((with_reducible refine gate_dst (N := 38) rfl ?_); refine Kd.R_lit (Kd.int .i64) _ 3 ?hg (N := 38) ?hd (xs := ([2, 2, 2, 3, 4, 5, 1] : List Int)) (inner := [.int .i64 2, .int .i64 2, .int .i64 2, .int .i64 3, .int .i64 4, .int .i64 5, .int .i64 1]) (ok := fun _ => True) (okp := fun _ => True) ?hr ?hp (fun _ hk => hk) trivial (Below.refl _ _) (Nat.le_refl _) (by simp) ?_; (case hd => rfl); (case hg => rfl); (case hr => first | (go_simp; done) | (go_simp; rfl)); (case hp => exact (Reps.one (show Kd.M (Kd.int .i64) _ _ _ 2 [.int .i64 2] from rfl) (Reps.one (show Kd.M (Kd.int .i64) _ _ _ 2 [.int .i64 2] from rfl) (Reps.one (show Kd.M (Kd.int .i64) _ _ _ 2 [.int .i64 2] from rfl) (Reps.one (show Kd.M (Kd.int .i64) _ _ _ 3 [.int .i64 3] from rfl) (Reps.one (show Kd.M (Kd.int .i64) _ _ _ 4 [.int .i64 4] from rfl) (Reps.one (show Kd.M (Kd.int .i64) _ _ _ 5 [.int .i64 5] from rfl) (Reps.one (show Kd.M (Kd.int .i64) _ _ _ 1 [.int .i64 1] from rfl) (Reps.none _ _))))))))); intro v252 w31 Yg hb hg_ hnew_; clear hg_ hnew_; (first | rw [← YA.out] at Yg | (simp only [Int.reduceToNat] at Yg; rw [← YA.out] at Yg)); replace XE := bR XE hb; have X3 := mk0 (Kd.R_lower (Kd.R_new' Yg (Kd.R_lt (pkR XD))) (keep_size (w := w) (g := g) (row := none) z7_1)); replace XD := mk0 (Kd.R_elder' (pkR XD) (Kd.R_base Yg) hb); replace XF := bB XF hb; replace XG := bB XG hb; replace HK := mk0 (KeepBut.trans z7_1 (KeepBut.of_below hb g none) (.inl rfl)); replace HB := bS q_120 hb; replace HI0 := mk0 (IsS104.below q_167 hb); clear hb Yg; obtain ⟨Zn, Zo, Zp⟩ := Kd.R_slice X3.out; subst Zp) | ((with_reducible refine gate_callee (f := 108) rfl ?_); refine gl_ (some 39) Try.func108 #[.pointer (some ⟨g, 0, none⟩), .slice Zn YG.length Zo] rfl q_1 ?_; (with_reducible refine (spec_l01PickInt.calls g s0_0 X9 Ya _ _ YG Yv X7 X8 w0 _ ?side1 ?side2 ?side3 ?side4 ?side5 A28.out).mono ?_); (case side1 => exact q_167); (case side2 => exact q_120); (case side3 => repeat (first | exact (Kd.R_reads' X3.out).2.2 | (with_reducible refine Kd.C_alloc ?_ _) | (with_reducible refine Kd.C_drewN ?_ _) | (with_reducible refine Kd.C_drew ?_))); (case side4 => exact (Kd.R_reads' X3.out).2.1); (case side5 => exact far_slice (IsS104.own_ne HI0.out X3.out (by decide))); rintro e w34 ⟨rfl, hi, hb, hk⟩; refine ⟨_, rfl, ?_⟩; replace XD := mk0 (Kd.R_mono (Kd.R_keep (IsS104.apart (show IsS104 w0 _ g s0_0 X9 Ya from q_167) (pkR XD) (by decide)) hk (fun _ h => h.2)) (fun _ h => h.1)); replace XE := mk0 (Kd.R_mono (Kd.R_keep (IsS104.apart (show IsS104 w0 _ g s0_0 X9 Ya from q_167) (pkR XE) (by decide)) hk (fun _ h => h.2)) (fun _ h => h.1)); replace XF := kB XF hk (pkb XF) XL; replace XG := kB XG hk (pkb XG) XR; replace X3 := mk0 (Kd.R_mono (Kd.R_keep (IsS104.apart (show IsS104 w0 _ g s0_0 X9 Ya from q_167) (pkR X3) (by decide)) hk (fun _ h => h.2)) (fun _ h => h.1)); replace HK := mk0 (KeepBut.trans z7_1 hk (.inl rfl)); replace HB := mk0 (hb); replace HI0 := mk0 (hi); clear hb hk hi))
   (try simp only [Act.put, List.setIfInBounds_toArray, List.set_cons_zero, List.set_cons_succ])
   go_cut [50] (fun v50 wc => ∃ (kq : Nat) (X4 : Bool), v50 = .bool X4 ∧ Aside0 (spec_l06Path.j1 kq XS Yv X4 s0_0 X7 X8 XH XI = some (r1, r2, r3, r4)) ∧ Aside0 (kq ≤ k1) ∧ Aside0 (Kd.R (Kd.int .i64) 3 wc w.heap.size (fun _ => True) u248000 XH) ∧ Aside0 (Kd.R k29 29 wc w.heap.size (fun _ => True) u248001 XI) ∧ Aside0 (wc.heap[XO]? = some (.cells #[(.slice none 0 0), (.slice none 0 0)] 63 (0, 0))) ∧ Aside0 (wc.heap[XN]? = some (.cells #[u248000, u248001] 63 (0, 0))) ∧ Aside0 (IsS104 w0 wc g s0_0 X7 X8) ∧ Aside0 (KeepBut w wc g none) ∧ Aside0 (Below w0.heap.size w0 wc))
   case first =>
    have H := YH.out; clear YH
    by_cases c35 : XS = 0
    ·rw [if_pos c35] at H
     have c35b0 : (XS == 0) = true := beq_iff_eq.mpr c35
     have c35b1 : (XS != 0) = false := bne_eq_false_iff_eq.mpr c35
     clear c35
     (first | rw [c35b0] | (simp only [i64_w, i32_w]; rw [c35b0]) | skip)
     have H' := mk0 H
     clear H
     go_wp2
     go_meet
     case rel => exact ⟨_, (true), rs0, H', ⟨(by have := HK1.out; first | omega | exact Nat.le_refl _)⟩, ⟨z7_21⟩, ⟨pkR XE⟩, ⟨pkb XF⟩, ⟨pkb XG⟩, ⟨q_167⟩, ⟨z7_1⟩, ⟨q_120⟩⟩
    rw [if_neg c35] at H
    have c35b0 : (XS == 0) = false := beq_eq_false_iff_ne.mpr c35
    have c35b1 : (XS != 0) = true := bne_iff_ne.mpr c35
    (first | rw [c35b0] | (simp only [i64_w, i32_w]; rw [c35b0]) | skip)
    obtain ⟨ji36, hji36⟩ : ∃ j_ : Int, (wrap64 (XS - 1)) = j_ := ⟨_, rfl⟩
    replace H : (if 0 ≤ (ji36) then (if (ji36) < (XH.length : Int) then (spec_l06Path.j1 k1 XS Yv ((rd XH (ji36)) == 5) s0_0 X7 X8 XH XI) else (none)) else (none)) = some (r1, r2, r3, r4) := by first | (rw [hji36] at H; exact H) | (simp only [hji36] at H ⊢; exact H)
    have hji36w : (IntKind.i64.wrap (XS - 1)) = ji36 := (i64_w _).trans hji36
    by_cases c37 : 0 ≤ (ji36)
    rotate_left
    ·rw [if_neg c37] at H
     exact absurd H (by simp)
    rw [if_pos c37] at H; have c37b0 := decide_eq_true c37; clear c37
    by_cases c38 : (ji36) < (XH.length : Int)
    rotate_left
    ·rw [if_neg c38] at H
     exact absurd H (by simp)
    rw [if_pos c38] at H; have c38b0 := decide_eq_true c38; clear c38
    have H' := mk0 H
    clear H; have ZH := XV.out; have ZI := XM.out; have ZJ := XR.out; have ZK := Xp.out; refine bc_2 XG.out ?_; intros; obtain ⟨ZW, ZX, Zq⟩ := Kd.R_slice XD.out; subst Zq
    have YI : 0 ≤ ((ji36) : Int) := of_decide_eq_true (by first | (with_reducible assumption) | assumption)
    have YJ : (ji36) < (XH.length : Int) := of_decide_eq_true (by first | (with_reducible assumption) | assumption)
    obtain ⟨ZL, e257, Y7⟩ := Kd.at_int (Kd.R_reads' XD.out).2.2 (ji36) YI YJ
    cases e257
    replace YI := eq_true YI; replace YJ := eq_true YJ
    go_wp2
    go_meet
    case rel => exact ⟨_, (((rd XH (ji36)) == 5)), (by first | rfl | (simp; done) | (simp only [← hji36] <;> (first | rfl | simp)) | (simp [*]; done)), H', ⟨(by have := HK1.out; first | omega | exact Nat.le_refl _)⟩, ⟨z7_21⟩, ⟨pkR XE⟩, ⟨pkb XF⟩, ⟨pkb XG⟩, ⟨q_167⟩, ⟨z7_1⟩, ⟨q_120⟩⟩
   case rest =>
    clear YH; try clear c1
    (try clear c27b0); obtain ⟨kq, X4, rfl, HA, Yh, XD, XE, XF, XG, HI0, HK, HB⟩ := hcut
    cases kq with
    | zero => exact absurd HA.out (by simp [spec_l06Path.j1])
    | succ kj28 =>
     have H := HA.out; clear HA; simp only [spec_l06Path.j1] at H; have YK := mk0 H; clear H
     go_upto_if 50 with (fail)
     go_cut [7] (fun v7 wc => ∃ (kq : Nat) (XQ : Int), v7 = .int .i64 XQ ∧ Aside0 (spec_l06Path.j2 kq XS XQ s0_0 X7 X8 XH XI = some (r1, r2, r3, r4)) ∧ Aside0 (kq ≤ kj28) ∧ Aside0 (Kd.R (Kd.int .i64) 3 wc w.heap.size (fun _ => True) u248000 XH) ∧ Aside0 (Kd.R k29 29 wc w.heap.size (fun _ => True) u248001 XI) ∧ Aside0 (wc.heap[XO]? = some (.cells #[(.slice none 0 0), (.slice none 0 0)] 63 (0, 0))) ∧ Aside0 (wc.heap[XN]? = some (.cells #[u248000, u248001] 63 (0, 0))) ∧ Aside0 (IsS104 w0 wc g s0_0 X7 X8) ∧ Aside0 (KeepBut w wc g none) ∧ Aside0 (Below w0.heap.size w0 wc))
     case first =>
      have H := YK.out; clear YK
      by_cases c44 : X4 = true
      ·subst c44; rw [if_pos rfl] at H
       have H' := mk0 H
       clear H
       go_wp2
       go_meet
       case rel => exact ⟨_, (1), rs0, H', ⟨(by have := HK1.out; have := Yh.out; first | omega | exact Nat.le_refl _)⟩, ⟨pkR XD⟩, ⟨pkR XE⟩, ⟨pkb XF⟩, ⟨pkb XG⟩, ⟨q_167⟩, ⟨z7_1⟩, ⟨q_120⟩⟩
      replace c44 := Bool.eq_false_iff.mpr c44; subst c44; rw [if_neg (show ¬ (false = true) by decide)] at H
      have H' := mk0 H
      clear H
      go_wp2
      go_meet
      case rel => exact ⟨_, (Yv), rs0, H', ⟨(by have := HK1.out; have := Yh.out; first | omega | exact Nat.le_refl _)⟩, ⟨pkR XD⟩, ⟨pkR XE⟩, ⟨pkb XF⟩, ⟨pkb XG⟩, ⟨q_167⟩, ⟨z7_1⟩, ⟨q_120⟩⟩
     case rest =>
      clear YK; try clear c1
      obtain ⟨kq, XQ, rfl, HA, Yw, XD, XE, XF, XG, HI0, HK, HB⟩ := hcut
      cases kq with
      | zero => exact absurd HA.out (by simp [spec_l06Path.j2])
      | succ kj42 =>
       have H := HA.out; clear HA; simp only [spec_l06Path.j2] at H; obtain ⟨Ym, A45, H⟩ := bnd H
       try dsimp only at H
       by_cases c46 : (wrap64 ((XI.length : Int) + Ym)) > 24
       ·rw [if_pos c46] at H; have c46b0 := decide_eq_true c46; clear c46; simp only [Option.some.injEq, Prod.mk.injEq] at H; obtain ⟨rfl, rfl, rfl, rfl⟩ := H
        try go_wp2
        replace XD := mk0 (Kd.R_drew XD.out); replace XE := mk0 (Kd.R_drew XE.out); replace XF := mk0 (blk_drew XF.out); replace XG := mk0 (blk_drew XG.out); replace HI0 := mk0 (IsS104.drew HI0.out); replace HK := mk0 (keep_drew HK.out); replace HB := mk0 (below_drew1 HB.out); obtain ⟨YY, YZ, Y0⟩ := Kd.R_slice XE.out
        (first | subst Y0 | (injection Y0 with f1_ f2_ f3_; have f4_ := f1_.symm; have f5_ := f3_.symm; clear f1_ f2_ f3_; subst f4_; subst f5_))
        refine start_ (n := 7) (S := fun w' => w'.cell? ⟨XN, 0, none⟩ = some (u248000) ∧ w'.cell? ⟨XN, 1, none⟩ = some (.slice YY XI.length YZ)) (ds := []) #[false, false, false, false, false, false, false] (by kernel_rfl) rfl rfl ⟨(blk_cell XG.out 0).trans rfl, (blk_cell XG.out 1).trans rfl⟩ (fun hHeld => ?_)
        generalize wc.drew = w47 at XD XE XF XG HI0 HK HB hHeld ⊢
        refine pure_ (i := 0) (N := some 51) (v := ?_) (a' := ?_) (bA 7 1) rfl rfl (by kernel_rfl) (fun _ _ _ h => h) (Or.inl ⟨by rfl, ?_⟩) ?_ ?_; rotate_left
        ·intro w'
         go_simp; with_reducible rfl
        rotate_left
        ·exact x7_put
        refine pure_ (i := 3) (N := some 54) (v := ?_) (a' := ?_) (bA 7 9) rfl rfl (by kernel_rfl) (fun _ _ _ h => h) (Or.inl ⟨by rfl, ?_⟩) ?_ ?_; rotate_left
        ·intro w'
         go_simp; with_reducible rfl
        rotate_left
        ·exact x7_put
        refine take_ (i := 1) (N := some 52) (v := ?_) (a' := ?_) (bA 7 11) rfl rfl (by kernel_rfl) (fun _ _ _ h => h) (Or.inl ⟨by rfl, ?_⟩) hHeld ?_ ?_
        rotate_left
        ·rintro w' ⟨s0, s1⟩
         go_simp; with_reducible rfl
        rotate_left
        ·exact x7_put
        refine pure_ (i := 2) (N := some 53) (v := ?_) (a' := ?_) (bA 7 15) rfl rfl (by kernel_rfl) (fun _ _ _ h => h) (Or.inl ⟨by rfl, ?_⟩) ?_ ?_; rotate_left
        ·intro w'
         go_simp; with_reducible rfl
        rotate_left
        ·exact x7_put
        refine one_ (i := 4) (N := some 55) (bA 7 31) rfl rfl (by kernel_rfl) (by decide) (fun K hK => ?_)
        refine goes_ Try.func117 (by kernel_rfl) rfl #[.int .i64 XQ] (by rfl) rfl rfl q_1 ?_
        with_reducible refine (spec_NeedOf.calls XQ Ym _ A45.out).mono ?_
        rintro e w49 ⟨rfl, hb⟩
        refine ⟨_, rfl, ?_⟩
        replace XD := bR XD hb; replace XE := bR XE hb; replace XF := bB XF hb; replace XG := bB XG hb; replace HK := mk0 (KeepBut.trans z7_1 (KeepBut.of_below hb g none) (.inl rfl)); replace HB := bS q_120 hb; replace HI0 := mk0 (IsS104.below q_167 hb); (try clear hb); (try clear hb2); (try clear hk); (try clear hi); refine hK.out _ _ ⟨(blk_cell XG.out 0).trans rfl, (blk_cell XG.out 1).trans rfl⟩ (fun hHeld => ?_); clear hK K
        refine norm_ (a' := ?_) ?_ ?_
        rotate_left
        ·show Act.put _ (some 55) _ = _
         simp only [Act.put, List.setIfInBounds_toArray, List.set_cons_zero, List.set_cons_succ, i64_w, i32_w]
         rfl
        refine pure_ (i := 5) (N := some 56) (v := ?_) (a' := ?_) (bA 7 63) rfl rfl (by kernel_rfl) (fun _ _ _ h => h) (Or.inl ⟨by rfl, ?_⟩) ?_ ?_; rotate_left
        ·intro w'
         go_simp; with_reducible rfl
        rotate_left
        ·exact x7_put
        refine pure_ (i := 6) (N := some 57) (v := ?_) (a' := ?_) (bA 7 127) rfl rfl (by kernel_rfl) (fun _ _ _ h => h) (Or.inl ⟨by rfl, ?_⟩) ?_ ?_; rotate_left
        ·intro w'
         go_simp; with_reducible rfl
        rotate_left
        ·exact x7_put
        refine done_ (by kernel_rfl) ?_
        have ZM := XV.out; have ZN := XM.out; have ZO := XR.out; have ZP := Xp.out; refine bc_2 XG.out ?_; intros; obtain ⟨Zr, Zs, Zt⟩ := Kd.R_slice XD.out; subst Zt; have ZQ := XL.out; have ZR := Xo.out; refine bc_2 XF.out ?_; intros
        try go_wp2
        refine bodyPost_ret (results_cell_row rfl _ _ XO 63 #[.slice Zr XH.length Zs, .slice YY XI.length YZ] (0, 0) _ rfl z7_12 Try.underlying63 rfl (by kernel_rfl)) rfl ?_
        exact ⟨_, _, q_94, (by (with_reducible repeat (first | apply Kd.R_alloc | apply Kd.R_drewN | apply Kd.R_drew)); exact Kd.R_mono (R_f2 (Kd.R_types XD.out XF.out (by decide)) (fun _ hk => hk.2)) (fun _ hk => trivial)), (by (with_reducible repeat (first | apply Kd.R_alloc | apply Kd.R_drewN | apply Kd.R_drew)); exact Kd.R_mono (R_f2 (Kd.R_types XE.out XF.out (by decide)) (fun _ hk => hk.2)) (fun _ hk => trivial)), q_167, q_120, z7_1⟩
       rw [if_neg c46] at H; have c46b0 := decide_eq_false c46; clear c46
       by_cases c56 : XH.length < 17592186044416
       rotate_left
       ·rw [if_neg c56] at H
        exact absurd H (by simp)
       rw [if_pos c56] at H; have LMc56 := mk0 c56; clear c56
       obtain ⟨X2, hy_⟩ : ∃ y_ : List Int, y_ = (XH ++ [XQ]) := ⟨_, rfl⟩
       replace H : (spec_l06Path.l1 kj42 XS XQ 0 s0_0 X7 X8 X2 XI) = some (r1, r2, r3, r4) := q_88
       have Y1 := mk0 hy_; clear hy_
       have H' := mk0 H
       clear H
       try go_wp2
       replace XD := mk0 (Kd.R_drew XD.out); replace XE := mk0 (Kd.R_drew XE.out); replace XF := mk0 (blk_drew XF.out); replace XG := mk0 (blk_drew XG.out); replace HI0 := mk0 (IsS104.drew HI0.out); replace HK := mk0 (keep_drew HK.out); replace HB := mk0 (below_drew1 HB.out); obtain ⟨Y2, Y3, Y4⟩ := Kd.R_slice XE.out
       (first | subst Y4 | (injection Y4 with f1_ f2_ f3_; have f4_ := f1_.symm; have f5_ := f3_.symm; clear f1_ f2_ f3_; subst f4_; subst f5_))
       refine start_ (n := 7) (S := fun w' => w'.cell? ⟨XN, 0, none⟩ = some (u248000) ∧ w'.cell? ⟨XN, 1, none⟩ = some (.slice Y2 XI.length Y3)) (ds := []) #[false, false, false, false, false, false, false] (by kernel_rfl) rfl rfl ⟨(blk_cell XG.out 0).trans rfl, (blk_cell XG.out 1).trans rfl⟩ (fun hHeld => ?_)
       generalize wc.drew = w57 at XD XE XF XG HI0 HK HB hHeld ⊢
       refine pure_ (i := 0) (N := some 51) (v := ?_) (a' := ?_) (bA 7 1) rfl rfl (by kernel_rfl) (fun _ _ _ h => h) (Or.inl ⟨by rfl, ?_⟩) ?_ ?_; rotate_left
       ·intro w'
        go_simp; with_reducible rfl
       rotate_left
       ·exact x7_put
       refine pure_ (i := 3) (N := some 54) (v := ?_) (a' := ?_) (bA 7 9) rfl rfl (by kernel_rfl) (fun _ _ _ h => h) (Or.inl ⟨by rfl, ?_⟩) ?_ ?_; rotate_left
       ·intro w'
        go_simp; with_reducible rfl
       rotate_left
       ·exact x7_put
       refine take_ (i := 1) (N := some 52) (v := ?_) (a' := ?_) (bA 7 11) rfl rfl (by kernel_rfl) (fun _ _ _ h => h) (Or.inl ⟨by rfl, ?_⟩) hHeld ?_ ?_
       rotate_left
       ·rintro w' ⟨s0, s1⟩
        go_simp; with_reducible rfl
       rotate_left
       ·exact x7_put
       refine pure_ (i := 2) (N := some 53) (v := ?_) (a' := ?_) (bA 7 15) rfl rfl (by kernel_rfl) (fun _ _ _ h => h) (Or.inl ⟨by rfl, ?_⟩) ?_ ?_; rotate_left
       ·intro w'
        go_simp; with_reducible rfl
       rotate_left
       ·exact x7_put
       refine one_ (i := 4) (N := some 55) (bA 7 31) rfl rfl (by kernel_rfl) (by decide) (fun K hK => ?_)
       refine goes_ Try.func117 (by kernel_rfl) rfl #[.int .i64 XQ] (by rfl) rfl rfl q_1 ?_
       with_reducible refine (spec_NeedOf.calls XQ Ym _ A45.out).mono ?_
       rintro e w59 ⟨rfl, hb⟩
       refine ⟨_, rfl, ?_⟩
       replace XD := bR XD hb; replace XE := bR XE hb; replace XF := bB XF hb; replace XG := bB XG hb; replace HK := mk0 (KeepBut.trans z7_1 (KeepBut.of_below hb g none) (.inl rfl)); replace HB := bS q_120 hb; replace HI0 := mk0 (IsS104.below q_167 hb); (try clear hb); (try clear hb2); (try clear hk); (try clear hi); refine hK.out _ _ ⟨(blk_cell XG.out 0).trans rfl, (blk_cell XG.out 1).trans rfl⟩ (fun hHeld => ?_); clear hK K
       refine norm_ (a' := ?_) ?_ ?_
       rotate_left
       ·show Act.put _ (some 55) _ = _
        simp only [Act.put, List.setIfInBounds_toArray, List.set_cons_zero, List.set_cons_succ, i64_w, i32_w]
        rfl
       refine pure_ (i := 5) (N := some 56) (v := ?_) (a' := ?_) (bA 7 63) rfl rfl (by kernel_rfl) (fun _ _ _ h => h) (Or.inl ⟨by rfl, ?_⟩) ?_ ?_; rotate_left
       ·intro w'
        go_simp; with_reducible rfl
       rotate_left
       ·exact x7_put
       refine pure_ (i := 6) (N := some 57) (v := ?_) (a' := ?_) (bA 7 127) rfl rfl (by kernel_rfl) (fun _ _ _ h => h) (Or.inl ⟨by rfl, ?_⟩) ?_ ?_; rotate_left
       ·intro w'
        go_simp; with_reducible rfl
       rotate_left
       ·exact x7_put
       refine done_ (by kernel_rfl) ?_
       have ZS := XV.out; have ZT := XM.out; have ZU := XR.out; have ZV := Xp.out; refine bc_2 XG.out ?_; intros
       try go_wp2_with (first | ((with_reducible refine gate_builtin (b := .append) (xs := #[.tmp 60, .tmp 62]) rfl ?_); at_builtin; refine Kd.R_append (Kd.int .i64) w.heap.size rfl (.tmp 60) (.tmp 62) 24 3 (.int .i64 0) 8 rfl Try.underlying24 info3 rfl (by decide) (by omega) u248000 XH XQ [.int .i64 XQ] (fun _ => True) (fun _ => False) rfl rfl ?aP (fun _ hk => hk.elim) ?aF ?aO (Below.refl _ _) ?aS ?aL ?_; (case aP => exact rfl); (case aF => exact (fun _ _ => trivial)); (case aO => exact (pkR XD)); (case aS => exact (keep_size (w := w) (g := g) (row := none) z7_1)); (case aL => have := LMc56.out; omega); intro v260 w63 ho hb hg hat; rw [← Y1.out] at ho; replace XE := mk0 (Kd.R_over' (pkR XE) (Kd.R_typed (pkR XD)) (by decide) hg); replace XF := mk0 (gB XF (pkb XF) hg (Kd.R_ne XD.out XF.out (by decide))); replace XG := mk0 (gB XG (pkb XG) hg (Kd.R_ne XD.out XG.out (by decide))); replace HB := mk0 (below_weaken q_120 HL.out hb); replace HI0 := mk0 (IsS104.grown q_167 hg (IsS104.own_ne HI0.out XD.out (by decide))); replace HK := mk0 (KeepBut.trans z7_1 (KeepBut.of_grown hg g) (Kd.R_base2 XD.out)); have YB := mk0 (ho); clear XD ho hb hg hat; obtain ⟨Yi, Yj, Zu⟩ := Kd.R_slice YB.out; subst Zu; refine bc_2 XG.out ?_; intros))
       go_loopg [8] kj42 (fun kq v8 w' => ∃ (Yk : Int) (XY : Int) (XZ : Int) (XP : List (S29)) (u248001 : Value), v8 = .int .i64 Yk ∧ Aside0 (spec_l06Path.l1 kq XS XQ Yk s0_0 XY XZ X2 XP = some (r1, r2, r3, r4)) ∧ Aside0 (kq ≤ kj42) ∧ Aside0 (Kd.R (Kd.int .i64) 3 w' w.heap.size (fun _ => True) (.slice Yi X2.length Yj) X2) ∧ Aside0 (Kd.R k29 29 w' w.heap.size (fun _ => True) u248001 XP) ∧ Aside0 (w'.heap[XO]? = some (.cells #[(.slice none 0 0), (.slice none 0 0)] 63 (0, 0))) ∧ Aside0 (w'.heap[XN]? = some (.cells #[(.slice Yi X2.length Yj), u248001] 63 (0, 0))) ∧ Aside0 (IsS104 w0 w' g s0_0 XY XZ) ∧ Aside0 (KeepBut w w' g none) ∧ Aside0 (Below w0.heap.size w0 w'))
       case atStart => exact ⟨(0), (X7), (X8), (XI), (.slice Y2 XI.length Y3), rs0, H', ⟨Nat.le_refl _⟩, ⟨(by (with_reducible repeat (first | apply Kd.R_alloc | apply Kd.R_drewN | apply Kd.R_drew)); exact Kd.R_mono (Kd.R_far (p := ⟨XN, 0, none⟩) (Kd.R_types YB.out XG.out (by decide)) (fun _ hk => hk.2) (.slice Yi X2.length Yj)) (fun _ hk => trivial))⟩, ⟨(by (with_reducible repeat (first | apply Kd.R_alloc | apply Kd.R_drewN | apply Kd.R_drew)); exact Kd.R_mono (Kd.R_far (p := ⟨XN, 0, none⟩) (Kd.R_types XE.out XG.out (by decide)) (fun _ hk => hk.2) (.slice Yi X2.length Yj)) (fun _ hk => trivial))⟩, ⟨z7_16⟩, ⟨z7_13⟩, ⟨q_167⟩, ⟨z7_1⟩, ⟨q_120⟩⟩
       case round =>
        clear H'; (try clear c46b0); obtain ⟨Yk, XY, XZ, XP, u248001, rfl, HA, HK4, XD, XE, XF, XG, HI0, HK, HB⟩ := hrel
        cases gk with
        | zero => exact absurd HA.out (by simp [spec_l06Path.l1])
        | succ k4 =>
         have H := HA.out; clear HA; simp only [spec_l06Path.l1] at H; obtain ⟨Yn, A66, H⟩ := bnd H
         try dsimp only at H
         by_cases c67 : Yk < Yn
         rotate_left
         ·rw [if_neg c67] at H; have c67b0 := decide_eq_false c67; clear c67
          have H' := mk0 H
          clear H
          go_wp2_with (first | ((with_reducible refine gate_callee (f := 117) rfl ?_); refine gl_ (some 67) Try.func117 #[.int .i64 XQ] rfl q_1 ?_; (with_reducible refine (spec_NeedOf.calls XQ Yn _ A66.out).mono ?_); rintro e w76 ⟨rfl, hb⟩; refine ⟨_, rfl, ?_⟩; replace XD := bR XD hb; replace XE := bR XE hb; replace XF := bB XF hb; replace XG := bB XG hb; replace HK := mk0 (KeepBut.trans z7_1 (KeepBut.of_below hb g none) (.inl rfl)); replace HB := bS q_120 hb; replace HI0 := mk0 (IsS104.below q_167 hb); clear hb))
          go_roundg k4
          case measure => have := HK1.out; have := Yh.out; have := Yw.out; have := HK4.out; omega
          case rel => exact ⟨(wrap64 (XS + 1)), (XY), (XZ), (X2), (XP), (.slice Yi X2.length Yj), (u248001), rs0, H', ⟨(by have := HK1.out; have := Yh.out; have := Yw.out; have := HK4.out; omega)⟩, ⟨pkR XD⟩, ⟨pkR XE⟩, ⟨pkb XF⟩, ⟨pkb XG⟩, ⟨q_167⟩, ⟨z7_1⟩, ⟨q_120⟩⟩
         rw [if_pos c67] at H; have c67b0 := decide_eq_true c67; clear c67
         obtain ⟨⟨Ys, Yt, YL, YM⟩, A68, H⟩ := bnd H
         try dsimp only at H
         by_cases c69 : XP.length < 8796093022208
         rotate_left
         ·rw [if_neg c69] at H
          exact absurd H (by simp)
         rw [if_pos c69] at H; have LMc69 := mk0 c69; clear c69
         obtain ⟨Yu, hy_⟩ : ∃ y_ : List (S29), y_ = (XP ++ [(⟨Ys, Yt⟩ : S29)]) := ⟨_, rfl⟩
         replace H : (spec_l06Path.l1 k4 XS XQ (wrap64 (Yk + 1)) s0_0 YL YM X2 Yu) = some (r1, r2, r3, r4) := q_88
         have Y5 := mk0 hy_; clear hy_
         have H' := mk0 H
         clear H
         try go_wp2_with (first | ((with_reducible refine gate_callee (f := 117) rfl ?_); refine gl_ (some 67) Try.func117 #[.int .i64 XQ] rfl q_1 ?_; (with_reducible refine (spec_NeedOf.calls XQ Yn _ A66.out).mono ?_); rintro e w70 ⟨rfl, hb⟩; refine ⟨_, rfl, ?_⟩; replace XD := bR XD hb; replace XE := bR XE hb; replace XF := bB XF hb; replace XG := bB XG hb; replace HK := mk0 (KeepBut.trans z7_1 (KeepBut.of_below hb g none) (.inl rfl)); replace HB := bS q_120 hb; replace HI0 := mk0 (IsS104.below q_167 hb); clear hb))
         replace XD := mk0 (Kd.R_drew XD.out); replace XE := mk0 (Kd.R_drew XE.out); replace XF := mk0 (blk_drew XF.out); replace XG := mk0 (blk_drew XG.out); replace HI0 := mk0 (IsS104.drew HI0.out); replace HK := mk0 (keep_drew HK.out); replace HB := mk0 (below_drew1 HB.out)
         refine start_ (n := 8) (S := fun w' => w'.cell? ⟨XN, 0, none⟩ = some (.slice Yi X2.length Yj) ∧ w'.cell? ⟨XN, 1, none⟩ = some (u248001)) (ds := [7]) #[false, false, false, false, false, false, false, false] (by kernel_rfl) rfl rfl ⟨(blk_cell XG.out 0).trans rfl, (blk_cell XG.out 1).trans rfl⟩ (fun hHeld => ?_); refine with_tabW spec_l06Path.tab18 spec_l06Path.bits18 (fun HT_ HW_ => ?_)
         generalize w70.drew = w71 at XD XE XF XG HI0 HK HB hHeld ⊢
         refine pzx (i := 0) (N := 71) (bA 8 1) HT_ ?_; refine pzx (i := 2) (N := 73) (bA 8 5) HT_ ?_
         refine take_ (i := 1) (N := some 72) (v := ?_) (a' := ?_) (bA 8 7) rfl rfl (take_ofW HT_.out HW_.out (by kernel_rfl)) (fun _ _ _ h => h) (Or.inl ⟨by rfl, ?_⟩) hHeld ?_ ?_
         rotate_left
         ·rintro w' ⟨s0, s1⟩
          go_simp; with_reducible rfl
         rotate_left
         ·exact x7_put
         refine one_ (i := 3) (N := some 74) (bA 8 15) rfl rfl (one_of HT_.out (by kernel_rfl)) (by decide) (fun K hK => ?_)
         refine goes_ Try.func54 (by kernel_rfl) rfl #[.pointer (some ⟨g, 0, none⟩)] (by rfl) rfl rfl q_1 ?_
         with_reducible refine (spec_l04Point.calls g s0_0 XY XZ Ys Yt YL YM w0 _ ?side1 ?side2 A68.out).mono ?_
         (case side1 => exact q_167)
         (case side2 => exact q_120)
         rintro e w72 ⟨rfl, hi, hb, hk⟩
         refine ⟨_, rfl, ?_⟩
         replace XD := mk0 (Kd.R_mono (Kd.R_keep (IsS104.apart (show IsS104 w0 _ g s0_0 XY XZ from q_167) (pkR XD) (by decide)) hk (fun _ h => h.2)) (fun _ h => h.1))
         replace XE := mk0 (Kd.R_mono (Kd.R_keep (IsS104.apart (show IsS104 w0 _ g s0_0 XY XZ from q_167) (pkR XE) (by decide)) hk (fun _ h => h.2)) (fun _ h => h.1))
         replace XF := kB XF hk (pkb XF) XL; replace XG := kB XG hk (pkb XG) XR; replace HK := mk0 (KeepBut.trans z7_1 hk (.inl rfl)); replace HB := mk0 (hb); replace HI0 := mk0 (hi); (try clear hb); (try clear hb2); (try clear hk); (try clear hi); refine hK.out _ _ ⟨(blk_cell XG.out 0).trans rfl, (blk_cell XG.out 1).trans rfl⟩ (fun hHeld => ?_); clear hK K
         refine norm_ (a' := ?_) ?_ ?_
         rotate_left
         ·show Act.put _ (some 74) _ = _
          simp only [Act.put, List.setIfInBounds_toArray, List.set_cons_zero, List.set_cons_succ, i64_w, i32_w]
          rfl
         refine one_ (i := 4) (N := some 75) (bA 8 31) rfl rfl (one_of HT_.out (by kernel_rfl)) (by decide) (fun K hK => ?_)
         refine value_ (w1 := ?_) (v := ?_) (by rfl) rfl ?_ ?_
         rotate_left 2
         ·go_simp
          constructor
          ·rfl
          rfl
         refine hK.out _ _ ⟨(blk_cell (blk_alloc XG.out _) 0).trans rfl, (blk_cell (blk_alloc XG.out _) 1).trans rfl⟩ (fun hHeld => ?_); clear hK K
         refine norm_ (a' := ?_) ?_ ?_
         rotate_left
         ·show Act.put _ (some 75) _ = _
          simp only [Act.put, List.setIfInBounds_toArray, List.set_cons_zero, List.set_cons_succ, i64_w, i32_w]
          rfl
         refine one_ (i := 5) (N := some 76) (bA 8 63) rfl rfl (one_of HT_.out (by kernel_rfl)) (by decide) (fun K hK => ?_)
         refine Kd.R_append_step k29 w.heap.size (by rfl) (.tmp 72) (.tmp 75) 30 29 (.agg #[(.int .i64 0), (.int .i64 0)]) 16 rfl Try.underlying30 info29 rfl (by decide) (by omega) u248001 XP (⟨Ys, Yt⟩ : S29) [.int .i64 Ys, .int .i64 Yt] (fun _ => True) (fun _ => False) rfl rfl ?aP (fun _ hk => hk.elim) ?aF ?aO (Below.refl _ _) ?aS ?aL ?_
         (case aP => exact k29_mkM _ _ _ (⟨Ys, Yt⟩ : S29))
         (case aF => exact (fun _ _ => trivial))
         (case aO => exact (pkR XE))
         (case aS => exact (keep_size (w := w) (g := g) (row := none) z7_1))
         (case aL => have := LMc69.out; omega)
         intro v268 w73 ho hb hg hat; rw [← Y5.out] at ho
         replace XD := mk0 (Kd.R_over' (pkR XD) (Kd.R_typed (pkR XE)) (by decide) hg)
         replace XF := mk0 (gB XF (pkb XF) hg (Kd.R_ne XE.out XF.out (by decide)))
         replace XG := mk0 (gB XG (pkb XG) hg (Kd.R_ne XE.out XG.out (by decide)))
         replace HB := mk0 (below_weaken q_120 HL.out hb)
         replace HI0 := mk0 (IsS104.grown q_167 hg (IsS104.own_ne HI0.out XE.out (by decide)))
         replace HK := mk0 (KeepBut.trans z7_1 (KeepBut.of_grown hg g) (Kd.R_base2 XE.out)); have YC := mk0 (ho); clear XE ho hb hg hat; obtain ⟨YN, YO, Y6⟩ := Kd.R_slice YC.out
         (first | subst Y6 | (injection Y6 with f1_ f2_ f3_; have f4_ := f1_.symm; have f5_ := f3_.symm; clear f1_ f2_ f3_; subst f4_; subst f5_))
         refine hK.out _ _ ⟨(blk_cell XG.out 0).trans rfl, (blk_cell XG.out 1).trans rfl⟩ (fun hHeld => ?_); clear hK K
         refine norm_ (a' := ?_) ?_ ?_
         rotate_left
         ·show Act.put _ (some 76) _ = _
          simp only [Act.put, List.setIfInBounds_toArray, List.set_cons_zero, List.set_cons_succ, i64_w, i32_w]
          rfl
         refine pzx (i := 6) (N := 77) (bA 8 127) HT_ ?_
         refine last_ (i := 7) (N := none) (bA 8 255) rfl rfl (one_of HT_.out (by kernel_rfl)) (by decide) (fun K hK => ?_)
         have hs75 : w73.cell? ⟨XN, 1, none⟩ = some (u248001) := (blk_cell XG.out 1).trans rfl
         have hfs75 := blk_frozen XG.out 1; have hns75_0 := XM.out; have hms75_0 := XV.out
         refine skip_ (w1 := ?_) ?hwx ?hN ?_ ?_; (case hwx => rfl); (case hN => rfl)
         rotate_left
         ·go_simp
          rfl
         refine hK.out _ _ ?_; clear hK K
         refine done_ (done_of HT_.out (by kernel_rfl)) ?_
         try go_wp2
         go_roundg k4
         case measure => have := HK1.out; have := Yh.out; have := Yw.out; have := HK4.out; omega
         case rel => exact ⟨(wrap64 (Yk + 1)), (YL), (YM), (Yu), (.slice YN Yu.length YO), rs0, H', ⟨(by have := HK1.out; have := Yh.out; have := Yw.out; have := HK4.out; omega)⟩, ⟨(by (with_reducible repeat (first | apply Kd.R_alloc | apply Kd.R_drewN | apply Kd.R_drew)); exact Kd.R_mono (Kd.R_far (p := ⟨XN, 1, none⟩) (Kd.R_types XD.out XG.out (by decide)) (fun _ hk => hk.2) (.slice YN Yu.length YO)) (fun _ hk => trivial))⟩, ⟨(by (with_reducible repeat (first | apply Kd.R_alloc | apply Kd.R_drewN | apply Kd.R_drew)); exact Kd.R_mono (Kd.R_far (p := ⟨XN, 1, none⟩) (Kd.R_types YC.out XG.out (by decide)) (fun _ hk => hk.2) (.slice YN Yu.length YO)) (fun _ hk => trivial))⟩, ⟨z7_16⟩, ⟨z7_13⟩, ⟨q_167⟩, ⟨z7_1⟩, ⟨q_120⟩⟩

end Go.Proofs.Ytjfienkbcacijaa.MFnTrees
