/- Functions of the program as Lean functions, and the proof that a call comes to just these: machine text of this session's own program (myprint.py). -/
import Derived.Test.YtghbenapnhcllaaMFnMaskOfx0
import Derived.Test.YtghbenapnhcllaaMFnMaskOfx1
import Derived.Test.YtghbenapnhcllaaMFnMaskOfx5
import Derived.Test.YtghbenapnhcllaaMFnMaskOfx6
import Derived.Test.YtghbenapnhcllaaMFnMaskOfx7
import Derived.Test.YtghbenapnhcllaaMFnMaskOfx8
namespace Go.Proofs.Ytghbenapnhcllaa.MFnMaskOf
open Go.RowKit Go.Proofs.YtghbenapnhcllaaW.PrintWords Go.Proofs.YtghbenapnhcllaaW.PrintLast Go.Proofs.YtghbenapnhcllaaW.PrintMore
attribute [local go_sem] max2_int min2_int max_two min_two max_three min_three max_four min_four   -- for this text's walks alone
set_option linter.unusedVariables false
set_option linter.unusedSimpArgs false

attribute [local go_sem high] eqA52
theorem x9_put {P : Prop} (h : P := by simp only [Act.put, List.setIfInBounds_toArray, List.set_cons_zero, List.set_cons_succ, i64_w, i32_w]; rfl) : P := h
theorem z9_1 {P : Prop} (h : P := by repeat (first | (with_reducible first | exact HB.out | apply below_alloc | apply pw_below_drewN | apply below_drew1 | refine below_set ?_ GE217.out) | exact HB.out)) : P := h
theorem z9_2 {P : Prop} (h : P := by (with_reducible repeat (first | refine blk_drewN ?_ _ | refine blk_drew ?_ | refine blk_alloc ?_ _)); exact BK217.out) : P := h
theorem z9_3 {P : Prop} (h : P := by (with_reducible repeat (first | apply Kd.R_alloc | apply Kd.R_drewN | apply Kd.R_drew)); exact HO_4.out) : P := h
theorem z9_4 {P : Prop} (h : P := by (try simp only [List.map_toArray, List.map_cons, List.map_nil]); first | done | rfl | (simp only [List.length_drop, List.length_take]; rfl)) : P := h
theorem z9_5 {P : Prop} (h : P := by (with_reducible repeat (first | apply Kd.S_alloc | apply Kd.S_drewN | apply Kd.S_drew)); exact HO_3.out) : P := h
theorem z9_6 {P : Prop} (h : P := by repeat (first | (with_reducible first | exact HB.out | apply below_alloc | apply pw_below_drewN | apply below_drew1) | exact HB.out)) : P := h
theorem z9_7 {P : Prop} (h : P := by repeat (first | (with_reducible first | exact HB.out | apply below_alloc | apply pw_below_drewN | apply below_drew1 | refine below_set ?_ GE217.out | refine below_set ?_ GE251.out) | exact HB.out)) : P := h
theorem z9_8 {P : Prop} (h : P := by repeat (first | (with_reducible first | exact HB.out | apply below_alloc | apply pw_below_drewN | apply below_drew1 | refine below_set ?_ GE217.out | refine below_set ?_ GE262.out) | exact HB.out)) : P := h
theorem z9_9 {P : Prop} (h : P := by (with_reducible repeat (first | refine blk_drewN ?_ _ | refine blk_drew ?_ | refine blk_alloc ?_ _)); exact BK251.out) : P := h
theorem z9_10 {P : Prop} (h : P := by (with_reducible repeat (first | refine blk_drewN ?_ _ | refine blk_drew ?_ | refine blk_alloc ?_ _)); exact BK262.out) : P := h
theorem z9_11 {P : Prop} (h : P := by (with_reducible repeat (first | apply Kd.S_alloc | apply Kd.S_drewN | apply Kd.S_drew)); exact HO220.out) : P := h
theorem z9_12 {P : Prop} (h : P := by first | rfl | (simp [errW_none, errW_some] <;> rfl) | (simp [*, errW_none, errW_some] <;> rfl)) : P := h
theorem z9_13 {P : Prop} (h : P := by repeat (first | exact (Kd.C_below HR0_0.out HB.out) | (with_reducible refine Kd.C_alloc ?_ _) | (with_reducible refine Kd.C_drewN ?_ _) | (with_reducible refine Kd.C_drew ?_))) : P := h
theorem z9_14 {P : Prop} (h : P := by repeat (first | exact (Kd.C_below HR0_1.out HB.out) | (with_reducible refine Kd.C_alloc ?_ _) | (with_reducible refine Kd.C_drewN ?_ _) | (with_reducible refine Kd.C_drew ?_))) : P := h
theorem z9_15 {P : Prop} (h : P := by (with_reducible repeat (first | apply Kd.S_alloc | apply Kd.S_drewN | apply Kd.S_drew)); exact Kd.S_mono HO_3.out (fun k_ hk => ⟨trivial, fun e_ => hk e_⟩)) : P := h
theorem z9_16 {P : Prop} (h : P := by (with_reducible repeat (first | apply Kd.S_alloc | apply Kd.S_drewN | apply Kd.S_drew)); exact Kd.S_mono HO_3.out (fun _ hk => ⟨trivial, hk⟩)) : P := h
theorem z9_17 {P : Prop} (h : P := by (with_reducible repeat (first | apply Kd.S_alloc | apply Kd.S_drewN | apply Kd.S_drew)); exact Kd.S_mono HO_3.out (fun _ hk => ⟨hk.2, hk.1⟩)) : P := h
/-! ### spec_FlatOf: function 11 -/
mutual
def spec_FlatOf.l0 : Nat → List (List (S52)) → List (S52) → Int → Int → List Int → List (S52) → Option ((List (List (S52))))
 | 0, _, _, _, _, _, _ => none
 | k + 1, x3, x4, x5, x6, x218000, x218001 => if x6 < (x218000.length : Int) then (if 0 ≤ x6 then (if (rd x218000 x6) = 1 then (if x6 > 0 then (if x3.length < 5864062014805 then (if 0 ≤ x5 then (if x5 < (x218001.length : Int) then ((spec_NeedOf.f (rd x218000 x6)).bind fun t237 => (spec_FlatOf.l0 k (x3 ++ [x4]) (([(⟨(rd_T52 x218001 x5).f0, (rd_T52 x218001 x5).f1⟩ : S52)] : List (S52))) (wrap64 (x5 + t237)) (wrap64 (x6 + 1)) x218000 x218001)) else (none)) else (none)) else (none)) else (if 0 ≤ x5 then (if x5 < (x218001.length : Int) then ((spec_NeedOf.f (rd x218000 x6)).bind fun t243 => (spec_FlatOf.l0 k x3 (([(⟨(rd_T52 x218001 x5).f0, (rd_T52 x218001 x5).f1⟩ : S52)] : List (S52))) (wrap64 (x5 + t243)) (wrap64 (x6 + 1)) x218000 x218001)) else (none)) else (none))) else (if (rd x218000 x6) = 2 then (if 0 ≤ x5 then (if x5 < (x218001.length : Int) then (if x4.length < 8796093022208 then ((spec_NeedOf.f (rd x218000 x6)).bind fun t249 => (spec_FlatOf.l0 k x3 (x4 ++ [(⟨(rd_T52 x218001 x5).f0, (rd_T52 x218001 x5).f1⟩ : S52)]) (wrap64 (x5 + t249)) (wrap64 (x6 + 1)) x218000 x218001)) else (none)) else (none)) else (none)) else (if (rd x218000 x6) = 3 then (if 0 ≤ (wrap64 ((x4.length : Int) - 1)) then (if (wrap64 ((x4.length : Int) - 1)) < (x4.length : Int) then (spec_FlatOf.l1 k x3 x4 x5 x6 1 x218000 x218001 ((rd_T52 x4 (wrap64 ((x4.length : Int) - 1))).f0) ((rd_T52 x4 (wrap64 ((x4.length : Int) - 1))).f1)) else (none)) else (none)) else (if (rd x218000 x6) = 4 then (if 0 ≤ (wrap64 ((x4.length : Int) - 1)) then (if (wrap64 ((x4.length : Int) - 1)) < (x4.length : Int) then (spec_FlatOf.l2 k x3 x4 x5 x6 1 x218000 x218001 ((rd_T52 x4 (wrap64 ((x4.length : Int) - 1))).f0) ((rd_T52 x4 (wrap64 ((x4.length : Int) - 1))).f1)) else (none)) else (none)) else (if (rd x218000 x6) = 5 then (if 0 < (x4.length : Int) then (if 0 ≤ (wrap64 ((x4.length : Int) - 1)) then (if (wrap64 ((x4.length : Int) - 1)) < (x4.length : Int) then (if (!(((rd_T52 x4 0).f0) == ((rd_T52 x4 (wrap64 ((x4.length : Int) - 1))).f0)) || (!(((rd_T52 x4 0).f1) == ((rd_T52 x4 (wrap64 ((x4.length : Int) - 1))).f1)))) = true then (if x4.length < 8796093022208 then ((spec_NeedOf.f (rd x218000 x6)).bind fun t280 => (spec_FlatOf.l0 k x3 (x4 ++ [(⟨(rd_T52 x4 0).f0, (rd_T52 x4 0).f1⟩ : S52)]) (wrap64 (x5 + t280)) (wrap64 (x6 + 1)) x218000 x218001)) else (none)) else ((spec_NeedOf.f (rd x218000 x6)).bind fun t282 => (spec_FlatOf.l0 k x3 x4 (wrap64 (x5 + t282)) (wrap64 (x6 + 1)) x218000 x218001))) else (none)) else (none)) else (none)) else ((spec_NeedOf.f (rd x218000 x6)).bind fun t284 => (spec_FlatOf.l0 k x3 x4 (wrap64 (x5 + t284)) (wrap64 (x6 + 1)) x218000 x218001))))))) else (none)) else (if (x4.length : Int) > 0 then (if x3.length < 5864062014805 then (some (x3 ++ [x4])) else (none)) else (some x3))
def spec_FlatOf.l1 : Nat → List (List (S52)) → List (S52) → Int → Int → Int → List Int → List (S52) → Int → Int → Option ((List (List (S52))))
 | 0, _, _, _, _, _, _, _, _, _ => none
 | k + 1, x3, x4, x5, x6, x8, x218000, x218001, x252000, x252001 => if x8 ≤ 4 then (if 0 ≤ x5 then (if x5 < (x218001.length : Int) then (if 0 ≤ (wrap64 (x5 + 1)) then (if (wrap64 (x5 + 1)) < (x218001.length : Int) then ((spec_QuadAt.f k x252000 x252001 ((rd_T52 x218001 x5).f0) ((rd_T52 x218001 x5).f1) ((rd_T52 x218001 (wrap64 (x5 + 1))).f0) ((rd_T52 x218001 (wrap64 (x5 + 1))).f1) x8).bind fun bt254 => (if x4.length < 8796093022208 then (spec_FlatOf.l1 k x3 (x4 ++ [(⟨bt254.1, bt254.2⟩ : S52)]) x5 x6 (wrap64 (x8 + 1)) x218000 x218001 x252000 x252001) else (none))) else (none)) else (none)) else (none)) else (none)) else (if 0 ≤ x6 then (if x6 < (x218000.length : Int) then ((spec_NeedOf.f (rd x218000 x6)).bind fun t260 => (spec_FlatOf.l0 k x3 x4 (wrap64 (x5 + t260)) (wrap64 (x6 + 1)) x218000 x218001)) else (none)) else (none))
def spec_FlatOf.l2 : Nat → List (List (S52)) → List (S52) → Int → Int → Int → List Int → List (S52) → Int → Int → Option ((List (List (S52))))
 | 0, _, _, _, _, _, _, _, _, _ => none
 | k + 1, x3, x4, x5, x6, x10, x218000, x218001, x263000, x263001 => if x10 ≤ 8 then (if 0 ≤ x5 then (if x5 < (x218001.length : Int) then (if 0 ≤ (wrap64 (x5 + 1)) then (if (wrap64 (x5 + 1)) < (x218001.length : Int) then (if 0 ≤ (wrap64 (x5 + 2)) then (if (wrap64 (x5 + 2)) < (x218001.length : Int) then ((spec_CubicAt.f k x263000 x263001 ((rd_T52 x218001 x5).f0) ((rd_T52 x218001 x5).f1) ((rd_T52 x218001 (wrap64 (x5 + 1))).f0) ((rd_T52 x218001 (wrap64 (x5 + 1))).f1) ((rd_T52 x218001 (wrap64 (x5 + 2))).f0) ((rd_T52 x218001 (wrap64 (x5 + 2))).f1) x10).bind fun bt266 => (if x4.length < 8796093022208 then (spec_FlatOf.l2 k x3 (x4 ++ [(⟨bt266.1, bt266.2⟩ : S52)]) x5 x6 (wrap64 (x10 + 1)) x218000 x218001 x263000 x263001) else (none))) else (none)) else (none)) else (none)) else (none)) else (none)) else (none)) else (if 0 ≤ x6 then (if x6 < (x218000.length : Int) then ((spec_NeedOf.f (rd x218000 x6)).bind fun t272 => (spec_FlatOf.l0 k x3 x4 (wrap64 (x5 + t272)) (wrap64 (x6 + 1)) x218000 x218001)) else (none)) else (none))
end
def spec_FlatOf.f (k : Nat) (l0_0 : List Int) (l0_1 : List (S52)) : Option ((List (List (S52)))) := (some (([] : List (List (S52))) : List (List (S52)))).bind fun y218 => ((spec_PathOk.f k l0_0 l0_1).bind fun t221 => (if t221 = true then (spec_FlatOf.l0 k y218 (([] : List (S52))) 0 0 l0_0 l0_1) else (some y218)))
theorem spec_FlatOf.mono_l : ∀ k, (∀ y0 y1 y2 y3 y4 y5, LeO (spec_FlatOf.l0 k y0 y1 y2 y3 y4 y5) (spec_FlatOf.l0 (k + 1) y0 y1 y2 y3 y4 y5)) ∧ (∀ y0 y1 y2 y3 y4 y5 y6 y7 y8, LeO (spec_FlatOf.l1 k y0 y1 y2 y3 y4 y5 y6 y7 y8) (spec_FlatOf.l1 (k + 1) y0 y1 y2 y3 y4 y5 y6 y7 y8)) ∧ (∀ y0 y1 y2 y3 y4 y5 y6 y7 y8, LeO (spec_FlatOf.l2 k y0 y1 y2 y3 y4 y5 y6 y7 y8) (spec_FlatOf.l2 (k + 1) y0 y1 y2 y3 y4 y5 y6 y7 y8))
 | 0 => ⟨fun _ _ _ _ _ _ r h => by simp [spec_FlatOf.l0] at h, fun _ _ _ _ _ _ _ _ _ r h => by simp [spec_FlatOf.l1] at h, fun _ _ _ _ _ _ _ _ _ r h => by simp [spec_FlatOf.l2] at h⟩
 | k + 1 => by
  obtain ⟨ih0, ih1, ih2⟩ := spec_FlatOf.mono_l k
  refine ⟨?_, ?_, ?_⟩
  ·intro y0 y1 y2 y3 y4 y5
   unfold spec_FlatOf.l0
   repeat' first
   | (with_reducible exact ih0 _ _ _ _ _ _)
   | (with_reducible exact ih1 _ _ _ _ _ _ _ _ _)
   | (with_reducible exact ih2 _ _ _ _ _ _ _ _ _)
   | (with_reducible exact spec_CubicAt.mono _ _ _ _ _ _ _ _ _ _)
   | (with_reducible exact spec_PathOk.mono _ _ _)
   | (with_reducible exact spec_QuadAt.mono _ _ _ _ _ _ _ _)
   | (with_reducible exact LeO.refl _)
   | (with_reducible exact LeO.none _)
   | (with_reducible refine LeO.ite ?_ ?_)
   | (with_reducible refine LeO.bind ?_ (fun _ => ?_))
   | exact ih0 _ _ _ _ _ _
   | exact ih1 _ _ _ _ _ _ _ _ _
   | exact ih2 _ _ _ _ _ _ _ _ _
   | exact spec_CubicAt.mono _ _ _ _ _ _ _ _ _ _
   | exact spec_PathOk.mono _ _ _
   | exact spec_QuadAt.mono _ _ _ _ _ _ _ _
   | exact LeO.none _
   | refine LeO.ite ?_ ?_
   | refine LeO.bind ?_ (fun _ => ?_)
  ·intro y0 y1 y2 y3 y4 y5 y6 y7 y8
   unfold spec_FlatOf.l1
   repeat' first
   | (with_reducible exact ih0 _ _ _ _ _ _)
   | (with_reducible exact ih1 _ _ _ _ _ _ _ _ _)
   | (with_reducible exact ih2 _ _ _ _ _ _ _ _ _)
   | (with_reducible exact spec_CubicAt.mono _ _ _ _ _ _ _ _ _ _)
   | (with_reducible exact spec_PathOk.mono _ _ _)
   | (with_reducible exact spec_QuadAt.mono _ _ _ _ _ _ _ _)
   | (with_reducible exact LeO.refl _)
   | (with_reducible exact LeO.none _)
   | (with_reducible refine LeO.ite ?_ ?_)
   | (with_reducible refine LeO.bind ?_ (fun _ => ?_))
   | exact ih0 _ _ _ _ _ _
   | exact ih1 _ _ _ _ _ _ _ _ _
   | exact ih2 _ _ _ _ _ _ _ _ _
   | exact spec_CubicAt.mono _ _ _ _ _ _ _ _ _ _
   | exact spec_PathOk.mono _ _ _
   | exact spec_QuadAt.mono _ _ _ _ _ _ _ _
   | exact LeO.none _
   | refine LeO.ite ?_ ?_
   | refine LeO.bind ?_ (fun _ => ?_)
  ·intro y0 y1 y2 y3 y4 y5 y6 y7 y8
   unfold spec_FlatOf.l2
   repeat' first
   | (with_reducible exact ih0 _ _ _ _ _ _)
   | (with_reducible exact ih1 _ _ _ _ _ _ _ _ _)
   | (with_reducible exact ih2 _ _ _ _ _ _ _ _ _)
   | (with_reducible exact spec_CubicAt.mono _ _ _ _ _ _ _ _ _ _)
   | (with_reducible exact spec_PathOk.mono _ _ _)
   | (with_reducible exact spec_QuadAt.mono _ _ _ _ _ _ _ _)
   | (with_reducible exact LeO.refl _)
   | (with_reducible exact LeO.none _)
   | (with_reducible refine LeO.ite ?_ ?_)
   | (with_reducible refine LeO.bind ?_ (fun _ => ?_))
   | exact ih0 _ _ _ _ _ _
   | exact ih1 _ _ _ _ _ _ _ _ _
   | exact ih2 _ _ _ _ _ _ _ _ _
   | exact spec_CubicAt.mono _ _ _ _ _ _ _ _ _ _
   | exact spec_PathOk.mono _ _ _
   | exact spec_QuadAt.mono _ _ _ _ _ _ _ _
   | exact LeO.none _
   | refine LeO.ite ?_ ?_
   | refine LeO.bind ?_ (fun _ => ?_)
theorem spec_FlatOf.mono : ∀ a0 a1 k, LeO (spec_FlatOf.f k a0 a1) (spec_FlatOf.f (k + 1) a0 a1) := by
 intro a0 a1 k
 obtain ⟨ih0, ih1, ih2⟩ := spec_FlatOf.mono_l k
 unfold spec_FlatOf.f
 repeat' first
   | (with_reducible exact ih0 _ _ _ _ _ _)
   | (with_reducible exact ih1 _ _ _ _ _ _ _ _ _)
   | (with_reducible exact ih2 _ _ _ _ _ _ _ _ _)
   | (with_reducible exact spec_CubicAt.mono _ _ _ _ _ _ _ _ _ _)
   | (with_reducible exact spec_PathOk.mono _ _ _)
   | (with_reducible exact spec_QuadAt.mono _ _ _ _ _ _ _ _)
   | (with_reducible exact LeO.refl _)
   | (with_reducible exact LeO.none _)
   | (with_reducible refine LeO.ite ?_ ?_)
   | (with_reducible refine LeO.bind ?_ (fun _ => ?_))
   | exact ih0 _ _ _ _ _ _
   | exact ih1 _ _ _ _ _ _ _ _ _
   | exact ih2 _ _ _ _ _ _ _ _ _
   | exact spec_CubicAt.mono _ _ _ _ _ _ _ _ _ _
   | exact spec_PathOk.mono _ _ _
   | exact spec_QuadAt.mono _ _ _ _ _ _ _ _
   | exact LeO.none _
   | refine LeO.ite ?_ ?_
   | refine LeO.bind ?_ (fun _ => ?_)
def spec_FlatOf.T21 : Bool × List (List Nat × List Nat) := (true, [([], []), ([], []), ([], []), ([2], [2]), ([], []), ([3, 4], [3, 4]), ([5], [5]), ([], []), ([7], [7]), ([], []), ([9], [9]), ([8, 10], [8, 10]), ([11], [11]), ([], []), ([1, 6, 12, 13], [1, 6, 12, 13]), ([14], [14]), ([0, 15, 14], [0, 15]), ([16, 16, 0, 1, 2, 3, 4, 5, 6, 7, 8, 9, 10, 11, 12, 13, 14, 15, 16], [0, 16])])
def spec_FlatOf.B21 : List Nat := [0, 0, 0, 4, 0, 28, 60, 0, 128, 0, 512, 1920, 3968, 0, 16382, 32766, 65535, 131071]
theorem spec_FlatOf.tab21 : rtab .any (opsOf Try.f11 21) = spec_FlatOf.T21 := by kernel_rfl
theorem spec_FlatOf.bits21 : waitsOk spec_FlatOf.T21.2 spec_FlatOf.B21 = true := by kernel_rfl
def spec_FlatOf.T27 : Bool × List (List Nat × List Nat) := (true, [([], []), ([], []), ([], []), ([2], [2]), ([], []), ([3, 4], [3, 4]), ([5], [5]), ([], []), ([7], [7]), ([], []), ([9], [9]), ([8, 10], [8, 10]), ([11], [11]), ([], []), ([13], [13]), ([], []), ([15], [15]), ([14, 16], [14, 16]), ([17], [17]), ([], []), ([1, 6, 12, 18, 19], [1, 6, 12, 18, 19]), ([20], [20]), ([0, 21, 20], [0, 21]), ([22, 22, 0, 1, 2, 3, 4, 5, 6, 7, 8, 9, 10, 11, 12, 13, 14, 15, 16, 17, 18, 19, 20, 21, 22], [0, 22])])
def spec_FlatOf.B27 : List Nat := [0, 0, 0, 4, 0, 28, 60, 0, 128, 0, 512, 1920, 3968, 0, 8192, 0, 32768, 122880, 253952, 0, 1048574, 2097150, 4194303, 8388607]
theorem spec_FlatOf.tab27 : rtab .any (opsOf Try.f11 27) = spec_FlatOf.T27 := by kernel_rfl
theorem spec_FlatOf.bits27 : waitsOk spec_FlatOf.T27.2 spec_FlatOf.B27 = true := by kernel_rfl
def spec_FlatOf.T29 : Bool × List (List Nat × List Nat) := (true, [([], []), ([0], [0]), ([1], [1]), ([], []), ([], []), ([4], [4]), ([5], [5]), ([3, 6], [3, 6]), ([7], [7]), ([2, 8], [2, 8])])
def spec_FlatOf.B29 : List Nat := [0, 1, 3, 0, 0, 16, 48, 120, 248, 511]
theorem spec_FlatOf.tab29 : rtab .any (opsOf Try.f11 29) = spec_FlatOf.T29 := by kernel_rfl
theorem spec_FlatOf.bits29 : waitsOk spec_FlatOf.T29.2 spec_FlatOf.B29 = true := by kernel_rfl
set_option maxHeartbeats 8000000 in
set_option maxRecDepth 100000 in
theorem spec_FlatOf.calls (k : Nat) (A0_0 : Option Addr) (c0_0 : Nat) (l0_0 : List Int) (A0_1 : Option Addr) (c0_1 : Nat) (l0_1 : List (S52)) (r : List (List (S52))) (w : World) (hr0_0 : Kd.C (Kd.int .i64) w A0_0 l0_0.length l0_0) (hc0_0 : l0_0.length ≤ c0_0) (hr0_1 : Kd.C k52 w A0_1 l0_1.length l0_1) (hc0_1 : l0_1.length ≤ c0_1) (h : spec_FlatOf.f k l0_0 l0_1 = some r) :
  Calls Try.prog 11 #[.agg #[.slice A0_0 l0_0.length c0_0, .slice A0_1 l0_1.length c0_1]] w fun e w' => ∃ v0_ : Value, e = .returned (v0_) ∧ Kd.S (Kd.slice 52 k52) 29 w' w.heap.size (fun _ => True) v0_ r ∧ Below w.heap.size w w' := by
 have hu31 := Try.underlying31
 have hu52 := Try.underlying52
 have HR0_0 := Aside0.mk hr0_0
 have HC0_0 := Aside0.mk hc0_0
 clear hr0_0 hc0_0
 have HR0_1 := Aside0.mk hr0_1
 have HC0_1 := Aside0.mk hc0_1
 clear hr0_1 hc0_1
 have HB := Aside0.mk (Below.refl w.heap.size w)
 have H : ((some (([] : List (List (S52))) : List (List (S52)))).bind fun y218 => ((spec_PathOk.f k l0_0 l0_1).bind fun t221 => (if t221 = true then (spec_FlatOf.l0 k y218 (([] : List (S52))) 0 0 l0_0 l0_1) else (some y218)))) = some r := h
 clear h
 obtain ⟨y218, hy218⟩ : ∃ y_ : List (List (S52)), y_ = (([] : List (List (S52)))) := ⟨_, rfl⟩
 replace H : ((spec_PathOk.f k l0_0 l0_1).bind fun t221 => (if t221 = true then (spec_FlatOf.l0 k y218 (([] : List (S52))) 0 0 l0_0 l0_1) else (some y218))) = some r := by first | (rw [hy218]; with_reducible exact H) | (have H2_ := (Option.bind_some _ _).symm.trans H; rw [hy218]; with_reducible exact H2_) | (have H2_ := (Option.bind_some _ _).symm.trans H; with_reducible exact H2_) | with_reducible exact H | (rw [hy218]; exact H) | exact H
 have Ny218 := Aside0.mk hy218
 clear hy218
 replace H := Option.bind_eq_some_iff.mp H
 obtain ⟨t221, A20, H⟩ := H
 try dsimp only at H
 have A2 := Aside0.mk A20
 clear A20
 by_cases c3 : t221 = true
 ·subst c3
  have H1 : (spec_FlatOf.l0 k y218 (([] : List (S52))) 0 0 l0_0 l0_1) = some r := by rw [if_pos rfl] at H; exact H
  clear H; have H := H1; clear H1
  obtain ⟨y222, hy222⟩ : ∃ y_ : List (S52), y_ = (([] : List (S52))) := ⟨_, rfl⟩
  replace H : (spec_FlatOf.l0 k y218 y222 0 0 l0_0 l0_1) = some r := by first | (rw [hy222]; with_reducible exact H) | (have H2_ := (Option.bind_some _ _).symm.trans H; rw [hy222]; with_reducible exact H2_) | (have H2_ := (Option.bind_some _ _).symm.trans H; with_reducible exact H2_) | with_reducible exact H | (rw [hy222]; exact H) | exact H
  have Ny222 := Aside0.mk hy222
  clear hy222
  have H' := Aside0.mk H
  clear H
  go_enter Try.func11, Try.ntmps11
  go_wp2_with (first | ((with_reducible refine gate_dst (N := 1) rfl ?_); refine boxz (cs := #[.slice A0_0 l0_0.length c0_0, .slice A0_1 l0_1.length c0_1]) (t := 31) rfl ?_; intro gb217 hg w4 hbox hb; have n0_ := Aside0.mk (below_step z9_6 hb); have n1_ := Aside0.mk (hbox); have n2_ := Aside0.mk (ge_go (a := w.heap.size) hg (below_size z9_6)); have n3_ := Aside0.mk (ge_go (a := w.heap.size) hg (below_size z9_6)); clear HB; have HB := n0_; have BK217 := n1_; have GW217 := n2_; have GE217 := n3_; clear n0_ n1_ n2_ n3_; clear hb hbox hg) | ((with_reducible refine gate_dst (N := 11) rfl ?_); refine Kd.S_lit (Kd.slice 52 k52) _ 29 ?hg (N := 11) ?hd (xs := ([] : List (List (S52)))) (inner := []) (ok := fun _ => True) (okp := fun _ => True) ?hr ?hp (fun _ hk => hk) trivial (Below.refl _ _) (Nat.le_refl _) (by simp) ?_; (case hd => rfl); (case hg => rfl); (case hr => first | (go_simp; done) | (go_simp; rfl)); (case hp => exact (Reps.none _ _)); intro v219 w5 ho6 hb hg_ hnew_; clear hg_ hnew_; (first | rw [← Ny218.out] at ho6 | (simp only [Int.reduceToNat] at ho6; rw [← Ny218.out] at ho6)); have n0_ := Aside0.mk (Kd.S_lower ho6 (below_size z9_1)); have n1_ := Aside0.mk (blk_belowB BK217 z9_2 hb); have n2_ := Aside0.mk (below_step z9_1 hb); clear BK217; clear HB; have HO220 := n0_; have BK217 := n1_; have HB := n2_; clear n0_ n1_ n2_; clear hb ho6; obtain ⟨_, _, _, _⟩ := be_2 BK217.out) | ((with_reducible refine gate_callee (f := 52) rfl ?_); refine goesL_ (some 13) rfl rfl Try.func52 (by kernel_rfl) rfl #[.agg #[.slice A0_0 l0_0.length c0_0, .slice A0_1 l0_1.length c0_1]] rfl z9_4 ?_; (with_reducible refine (spec_PathOk.calls k _ _ l0_0 _ _ l0_1 true _ ?side1 ?side2 ?side3 ?side4 A2.out).mono ?_); (case side1 => exact z9_13); (case side2 => exact HC0_0.out); (case side3 => exact z9_14); (case side4 => exact HC0_1.out); rintro e w8 ⟨rfl, hb⟩; refine ⟨_, rfl, ?_⟩; have n0_ := Aside0.mk (Kd.S_below z9_11 hb); have n1_ := Aside0.mk (blk_belowB BK217 z9_2 hb); have n2_ := Aside0.mk (below_step z9_1 hb); clear HO220; clear BK217; clear HB; have HO220 := n0_; have BK217 := n1_; have HB := n2_; clear n0_ n1_ n2_; (try clear hb); (try clear hk)) | ((with_reducible refine gate_dst (N := 16) rfl ?_); refine Kd.R_lit k52 _ 52 ?hg (N := 16) ?hd (xs := ([] : List (S52))) (inner := []) (ok := fun _ => True) (okp := fun _ => True) ?hr ?hp (fun _ hk => hk) trivial (Below.refl _ _) (Nat.le_refl _) (by simp) ?_; (case hd => rfl); (case hg => rfl); (case hr => first | (go_simp; done) | (go_simp; rfl)); (case hp => exact (Reps.none _ _)); intro v223 w9 ho10 hb hg_ hnew_; clear hg_ hnew_; (first | rw [← Ny222.out] at ho10 | (simp only [Int.reduceToNat] at ho10; rw [← Ny222.out] at ho10)); have n0_ := Aside0.mk (Kd.S_elder' z9_11 (Kd.R_base ho10) hb); have n1_ := Aside0.mk (Kd.R_lower ho10 (below_size z9_1)); have n2_ := Aside0.mk (blk_belowB BK217 z9_2 hb); have n3_ := Aside0.mk (below_step z9_1 hb); clear HO220; clear BK217; clear HB; have HO220 := n0_; have HO224 := n1_; have BK217 := n2_; have HB := n3_; clear n0_ n1_ n2_ n3_; clear hb ho10))
  go_loopg [3, 4, 5, 6] k (fun kq v3 v4 v5 v6 w' => ∃ (x3_1 : List (List (S52))) (x4_1 : List (S52)) (x5_1 : Int) (x6_1 : Int), v5 = .int .i64 x5_1 ∧ v6 = .int .i64 x6_1 ∧ Aside0 (spec_FlatOf.l0 kq x3_1 x4_1 x5_1 x6_1 l0_0 l0_1 = some r) ∧ Aside0 (kq ≤ k) ∧ Aside0 (Kd.S (Kd.slice 52 k52) 29 w' w.heap.size (fun k_ => some k_ ≠ (v4 : Value).ownBlock) v3 x3_1) ∧ Aside0 (Kd.R k52 52 w' w.heap.size (fun _ => True) v4 x4_1) ∧ Aside0 (w'.heap[gb217]? = some (.cells #[(.slice A0_0 l0_0.length c0_0), (.slice A0_1 l0_1.length c0_1)] 31 (0, 0))) ∧ Aside0 (Below w.heap.size w w'))
  case atStart => exact ⟨(y218), (y222), (0), (0), (by first | rfl | (simp; done) | (simp [*]; done)), (by first | rfl | (simp; done) | (simp [*]; done)), H', ⟨Nat.le_refl _⟩, ⟨by (with_reducible repeat (first | apply Kd.S_alloc | apply Kd.S_drewN | apply Kd.S_drew)); exact Kd.S_mono HO220.out (fun _ hk => hk.2)⟩, ⟨by (with_reducible repeat (first | apply Kd.R_alloc | apply Kd.R_drewN | apply Kd.R_drew)); exact HO224.out⟩, ⟨by (with_reducible repeat (first | refine blk_drewN ?_ _ | refine blk_drew ?_ | refine blk_alloc ?_ _)); exact BK217.out⟩, ⟨by repeat (first | (with_reducible first | exact HB.out | apply below_alloc | apply pw_below_drewN | apply below_drew1 | refine below_set ?_ GE217.out) | exact HB.out)⟩⟩
  case round =>
   clear H'
   try clear c1
   try clear p2
   try clear c3
   try clear c5
   try clear hcz7_0
   try clear hcz7_1
   try clear hfz7_0
   try clear hfz7_1
   obtain ⟨x3_1, x4_1, x5_1, x6_1, rfl, rfl, HA, HK1, HO_3, HO_4, BK217, HB⟩ := hrel
   cases gk with
   | zero => exact absurd HA.out (by simp [spec_FlatOf.l0])
   | succ k1 =>
    have H := HA.out; clear HA
    simp only [spec_FlatOf.l0] at H
    by_cases c11 : x6_1 < (l0_0.length : Int)
    ·rw [if_pos c11] at H
     have c11b0 : decide (x6_1 < (l0_0.length : Int)) = true := decide_eq_true c11
     clear c11
     by_cases c12 : 0 ≤ x6_1
     ·rw [if_pos c12] at H
      have c12b0 : decide (0 ≤ x6_1) = true := decide_eq_true c12
      clear c12
      by_cases c13 : (rd l0_0 x6_1) = 1
      ·rw [if_pos c13] at H
       have c13b0 : ((rd l0_0 x6_1) == 1) = true := beq_iff_eq.mpr c13
       have c13b1 : ((rd l0_0 x6_1) != 1) = false := bne_eq_false_iff_eq.mpr c13
       clear c13
       by_cases c14 : x6_1 > 0
       ·rw [if_pos c14] at H
        have c14b0 : decide (0 < x6_1) = true := decide_eq_true c14
        clear c14
        by_cases c15 : x3_1.length < 5864062014805
        ·rw [if_pos c15] at H
         have LMc15 := Aside0.mk c15
         clear c15
         obtain ⟨y229, hy229⟩ : ∃ y_ : List (List (S52)), y_ = (x3_1 ++ [x4_1]) := ⟨_, rfl⟩
         replace H : (if 0 ≤ x5_1 then (if x5_1 < (l0_1.length : Int) then ((spec_NeedOf.f (rd l0_0 x6_1)).bind fun t237 => (spec_FlatOf.l0 k1 y229 (([(⟨(rd_T52 l0_1 x5_1).f0, (rd_T52 l0_1 x5_1).f1⟩ : S52)] : List (S52))) (wrap64 (x5_1 + t237)) (wrap64 (x6_1 + 1)) l0_0 l0_1)) else (none)) else (none)) = some r := by first | (rw [hy229]; with_reducible exact H) | (have H2_ := (Option.bind_some _ _).symm.trans H; rw [hy229]; with_reducible exact H2_) | (have H2_ := (Option.bind_some _ _).symm.trans H; with_reducible exact H2_) | with_reducible exact H | (rw [hy229]; exact H) | exact H
         have Ny229 := Aside0.mk hy229
         clear hy229
         by_cases c16 : 0 ≤ x5_1
         ·rw [if_pos c16] at H
          have c16b0 : decide (0 ≤ x5_1) = true := decide_eq_true c16
          clear c16
          by_cases c17 : x5_1 < (l0_1.length : Int)
          ·rw [if_pos c17] at H
           have c17b0 : decide (x5_1 < (l0_1.length : Int)) = true := decide_eq_true c17
           clear c17
           obtain ⟨y233, hy233⟩ : ∃ y_ : List (S52), y_ = (([(⟨(rd_T52 l0_1 x5_1).f0, (rd_T52 l0_1 x5_1).f1⟩ : S52)] : List (S52))) := ⟨_, rfl⟩
           replace H : ((spec_NeedOf.f (rd l0_0 x6_1)).bind fun t237 => (spec_FlatOf.l0 k1 y229 y233 (wrap64 (x5_1 + t237)) (wrap64 (x6_1 + 1)) l0_0 l0_1)) = some r := by first | (rw [hy233]; with_reducible exact H) | (have H2_ := (Option.bind_some _ _).symm.trans H; rw [hy233]; with_reducible exact H2_) | (have H2_ := (Option.bind_some _ _).symm.trans H; with_reducible exact H2_) | with_reducible exact H | (rw [hy233]; exact H) | exact H
           have Ny233 := Aside0.mk hy233
           clear hy233
           replace H := Option.bind_eq_some_iff.mp H
           obtain ⟨t237, A180, H⟩ := H
           try dsimp only at H
           have A18 := Aside0.mk A180
           clear A180
           have H' := Aside0.mk H
           clear H
           obtain ⟨_, _, _, _⟩ := be_2 BK217.out
           have p228 : 0 ≤ (x6_1 : Int) := of_decide_eq_true (by first | (with_reducible assumption) | assumption)
           have q228 : x6_1 < (l0_0.length : Int) := of_decide_eq_true (by first | (with_reducible assumption) | assumption)
           obtain ⟨ad228, e228, hx228_0⟩ := Kd.at_int HR0_0.out x6_1 p228 q228
           cases e228
           replace hx228_0 := cell_go HB hx228_0
           replace p228 := eq_true p228
           replace q228 := eq_true q228
           obtain ⟨Ao21, co21, eo21⟩ := Kd.R_slice HO_4.out
           subst eo21
           go_wp2_with (first | ((with_reducible refine gate_builtin (b := .append) (xs := #[.tmp 33, .tmp 35]) rfl ?_); at_builtin; refine Kd.S_append (Kd.slice 52 k52) (w0 := w) w.heap.size rfl (.tmp 33) (.tmp 35) 27 29 (.slice none 0 0) 24 rfl Try.underlying27 info29 rfl (by decide) (by omega) u3 x3_1 x4_1 [.slice Ao21 x4_1.length co21] (fun _ => True) (fun k_ => some k_ = (.slice Ao21 x4_1.length co21 : Value).ownBlock) rfl rfl ?aP (fun k_ hk_ => ((Kd.R_mono (ok' := fun k_ => ((fun _ => True)) k_ ∧ some k_ ≠ (u3 : Value).ownBlock) (Kd.R_apart' (HO_4.out) (Kd.S_typed HO_3.out) (by decide)) (fun k_ hk => ⟨trivial, hk.2⟩))).1 k_ hk_.symm) ?aF ?aO ?aB ?aS ?aL ?_; (case aP => exact Kd.M_row (Kd.R_mono (Kd.R_tight rfl (Kd.R_mono (ok' := fun k_ => ((fun _ => True)) k_ ∧ some k_ ≠ (u3 : Value).ownBlock) (Kd.R_apart' (HO_4.out) (Kd.S_typed HO_3.out) (by decide)) (fun k_ hk => ⟨trivial, hk.2⟩))) (fun _ h_ => h_))); (case aB => exact z9_1); (case aF => exact (fun _ _ => trivial)); (case aO => exact z9_15); (case aS => exact (below_size z9_1)); (case aL => have := LMc15.out; omega); intro v230 w20 ho hb hg hat; rw [← Ny229.out] at ho; have n0_ := Aside0.mk (blk_grown (g := gb217) (o := .cells #[.slice (some ad228) l0_0.length c0_0, .slice A0_1 l0_1.length c0_1] 31 (0, 0)) z9_2 hg (Kd.S_ne HO_3.out BK217.out (by decide))); have n1_ := Aside0.mk (hb); have n2_ := Aside0.mk (ho); clear BK217; clear HB; clear HO_3; clear HO_4; have BK217 := n0_; have HB := n1_; have HO231 := n2_; clear n0_ n1_ n2_; clear ho hb hg hat; obtain ⟨_, _, _, _⟩ := be_2 BK217.out; have p232 : 0 ≤ (x5_1 : Int) := of_decide_eq_true (by first | (with_reducible assumption) | assumption); have q232 : x5_1 < (l0_1.length : Int) := of_decide_eq_true (by first | (with_reducible assumption) | assumption); obtain ⟨ad232, e232, hx232_0, hx232_1⟩ := at_T52 HR0_1.out x5_1 p232 q232; cases e232; replace hx232_0 := cell_go HB hx232_0; replace hx232_1 := cell_go HB hx232_1; replace p232 := eq_true p232; replace q232 := eq_true q232) | ((with_reducible refine gate_dst (N := 42) rfl ?_); refine Kd.R_lit k52 _ 52 ?hg (N := 42) ?hd (xs := ([(⟨(rd_T52 l0_1 x5_1).f0, (rd_T52 l0_1 x5_1).f1⟩ : S52)] : List (S52))) (inner := [.int .i64 ((rd_T52 l0_1 x5_1).f0), .int .i64 ((rd_T52 l0_1 x5_1).f1)]) (ok := fun _ => True) (okp := fun _ => True) ?hr ?hp (fun _ hk => hk) trivial (Below.refl _ _) (Nat.le_refl _) (by simp) ?_; (case hd => rfl); (case hg => rfl); (case hr => first | (go_simp; done) | (go_simp; rfl)); (case hp => exact (Reps.c2 (show Kd.M k52 _ _ _ (⟨(rd_T52 l0_1 x5_1).f0, (rd_T52 l0_1 x5_1).f1⟩ : S52) [.int .i64 ((rd_T52 l0_1 x5_1).f0), .int .i64 ((rd_T52 l0_1 x5_1).f1)] from (k52_mkM _ _ _ (⟨(rd_T52 l0_1 x5_1).f0, (rd_T52 l0_1 x5_1).f1⟩ : S52) )) (Reps.none _ _))); intro v234 w23 ho24 hb hg_ hnew_; clear hg_ hnew_; (first | rw [← Ny233.out] at ho24 | (simp only [Int.reduceToNat] at ho24; rw [← Ny233.out] at ho24)); have n0_ := Aside0.mk (Kd.S_elder' (by (with_reducible repeat (first | apply Kd.S_alloc | apply Kd.S_drewN | apply Kd.S_drew)); exact HO231.out) (Kd.R_base ho24) hb); have n1_ := Aside0.mk (Kd.R_lower ho24 (below_size z9_1)); have n2_ := Aside0.mk (blk_belowB BK217 z9_2 hb); have n3_ := Aside0.mk (below_step z9_1 hb); clear HO231; clear BK217; clear HB; have HO231 := n0_; have HO235 := n1_; have BK217 := n2_; have HB := n3_; clear n0_ n1_ n2_ n3_; clear hb ho24; obtain ⟨_, _, _, _⟩ := be_2 BK217.out; have p236 : 0 ≤ (x6_1 : Int) := of_decide_eq_true (by first | (with_reducible assumption) | assumption); have q236 : x6_1 < (l0_0.length : Int) := of_decide_eq_true (by first | (with_reducible assumption) | assumption); obtain ⟨ad236, e236, hx236_0⟩ := Kd.at_int HR0_0.out x6_1 p236 q236; obtain rfl : ad228 = ad236 := (by injection e236); replace hx236_0 := cell_go HB hx236_0; replace p236 := eq_true p236; replace q236 := eq_true q236) | ((with_reducible refine gate_callee (f := 55) rfl ?_); refine goesL_ (some 141) rfl rfl Try.func55 (by kernel_rfl) rfl #[.int .i64 (rd l0_0 x6_1)] rfl z9_4 ?_; (with_reducible refine (spec_NeedOf.calls (rd l0_0 x6_1) t237 _ A18.out).mono ?_); rintro e w26 ⟨rfl, hb⟩; refine ⟨_, rfl, ?_⟩; have n0_ := Aside0.mk (Kd.S_below (by (with_reducible repeat (first | apply Kd.S_alloc | apply Kd.S_drewN | apply Kd.S_drew)); exact HO231.out) hb); have n1_ := Aside0.mk (Kd.R_below (by (with_reducible repeat (first | apply Kd.R_alloc | apply Kd.R_drewN | apply Kd.R_drew)); exact HO235.out) hb); have n2_ := Aside0.mk (blk_belowB BK217 z9_2 hb); have n3_ := Aside0.mk (below_step z9_1 hb); clear HO231; clear HO235; clear BK217; clear HB; have HO231 := n0_; have HO235 := n1_; have BK217 := n2_; have HB := n3_; clear n0_ n1_ n2_ n3_; (try clear hb); (try clear hk)))
           go_roundg k1
           case measure => have := HK1.out; omega
           case rel => exact ⟨(y229), (y233), (wrap64 (x5_1 + t237)), (wrap64 (x6_1 + 1)), (by first | rfl | (simp; done) | (simp [*]; done)), (by first | rfl | (simp; done) | (simp [*]; done)), H', ⟨by have := HK1.out; omega⟩, ⟨by (with_reducible repeat (first | apply Kd.S_alloc | apply Kd.S_drewN | apply Kd.S_drew)); exact Kd.S_mono HO231.out (fun _ hk => hk.2)⟩, ⟨by (with_reducible repeat (first | apply Kd.R_alloc | apply Kd.R_drewN | apply Kd.R_drew)); exact HO235.out⟩, ⟨by (with_reducible repeat (first | refine blk_drewN ?_ _ | refine blk_drew ?_ | refine blk_alloc ?_ _)); exact BK217.out⟩, ⟨by repeat (first | (with_reducible first | exact HB.out | apply below_alloc | apply pw_below_drewN | apply below_drew1 | refine below_set ?_ GE217.out) | exact HB.out)⟩⟩
          ·rw [if_neg c17] at H
           exact absurd H (by simp)
         ·rw [if_neg c16] at H
          exact absurd H (by simp)
        ·rw [if_neg c15] at H
         exact absurd H (by simp)
       ·rw [if_neg c14] at H
        have c14b0 : decide (0 < x6_1) = false := decide_eq_false c14
        clear c14
        by_cases c27 : 0 ≤ x5_1
        ·rw [if_pos c27] at H
         have c27b0 : decide (0 ≤ x5_1) = true := decide_eq_true c27
         clear c27
         by_cases c28 : x5_1 < (l0_1.length : Int)
         ·rw [if_pos c28] at H
          have c28b0 : decide (x5_1 < (l0_1.length : Int)) = true := decide_eq_true c28
          clear c28
          obtain ⟨y239, hy239⟩ : ∃ y_ : List (S52), y_ = (([(⟨(rd_T52 l0_1 x5_1).f0, (rd_T52 l0_1 x5_1).f1⟩ : S52)] : List (S52))) := ⟨_, rfl⟩
          replace H : ((spec_NeedOf.f (rd l0_0 x6_1)).bind fun t243 => (spec_FlatOf.l0 k1 x3_1 y239 (wrap64 (x5_1 + t243)) (wrap64 (x6_1 + 1)) l0_0 l0_1)) = some r := by first | (rw [hy239]; with_reducible exact H) | (have H2_ := (Option.bind_some _ _).symm.trans H; rw [hy239]; with_reducible exact H2_) | (have H2_ := (Option.bind_some _ _).symm.trans H; with_reducible exact H2_) | with_reducible exact H | (rw [hy239]; exact H) | exact H
          have Ny239 := Aside0.mk hy239
          clear hy239
          replace H := Option.bind_eq_some_iff.mp H
          obtain ⟨t243, A290, H⟩ := H
          try dsimp only at H
          have A29 := Aside0.mk A290
          clear A290
          have H' := Aside0.mk H
          clear H
          obtain ⟨_, _, _, _⟩ := be_2 BK217.out
          have p228 : 0 ≤ (x6_1 : Int) := of_decide_eq_true (by first | (with_reducible assumption) | assumption)
          have q228 : x6_1 < (l0_0.length : Int) := of_decide_eq_true (by first | (with_reducible assumption) | assumption)
          obtain ⟨ad228, e228, hx228_0⟩ := Kd.at_int HR0_0.out x6_1 p228 q228
          cases e228
          replace hx228_0 := cell_go HB hx228_0
          replace p228 := eq_true p228
          replace q228 := eq_true q228
          have p238 : 0 ≤ (x5_1 : Int) := of_decide_eq_true (by first | (with_reducible assumption) | assumption)
          have q238 : x5_1 < (l0_1.length : Int) := of_decide_eq_true (by first | (with_reducible assumption) | assumption)
          obtain ⟨ad238, e238, hx238_0, hx238_1⟩ := at_T52 HR0_1.out x5_1 p238 q238
          cases e238
          replace hx238_0 := cell_go HB hx238_0
          replace hx238_1 := cell_go HB hx238_1
          replace p238 := eq_true p238
          replace q238 := eq_true q238
          go_wp2_with (first | ((with_reducible refine gate_dst (N := 42) rfl ?_); refine Kd.R_lit k52 _ 52 ?hg (N := 42) ?hd (xs := ([(⟨(rd_T52 l0_1 x5_1).f0, (rd_T52 l0_1 x5_1).f1⟩ : S52)] : List (S52))) (inner := [.int .i64 ((rd_T52 l0_1 x5_1).f0), .int .i64 ((rd_T52 l0_1 x5_1).f1)]) (ok := fun _ => True) (okp := fun _ => True) ?hr ?hp (fun _ hk => hk) trivial (Below.refl _ _) (Nat.le_refl _) (by simp) ?_; (case hd => rfl); (case hg => rfl); (case hr => first | (go_simp; done) | (go_simp; rfl)); (case hp => exact (Reps.c2 (show Kd.M k52 _ _ _ (⟨(rd_T52 l0_1 x5_1).f0, (rd_T52 l0_1 x5_1).f1⟩ : S52) [.int .i64 ((rd_T52 l0_1 x5_1).f0), .int .i64 ((rd_T52 l0_1 x5_1).f1)] from (k52_mkM _ _ _ (⟨(rd_T52 l0_1 x5_1).f0, (rd_T52 l0_1 x5_1).f1⟩ : S52) )) (Reps.none _ _))); intro v240 w31 ho32 hb hg_ hnew_; clear hg_ hnew_; (first | rw [← Ny239.out] at ho32 | (simp only [Int.reduceToNat] at ho32; rw [← Ny239.out] at ho32)); have n0_ := Aside0.mk (Kd.S_elder' z9_5 (Kd.R_base ho32) hb); have n1_ := Aside0.mk (Kd.R_elder' z9_3 (Kd.R_base ho32) hb); have n2_ := Aside0.mk (Kd.R_lower (Kd.R_new' ho32 (Kd.R_lt z9_3)) (below_size z9_1)); have n3_ := Aside0.mk (blk_belowB BK217 z9_2 hb); have n4_ := Aside0.mk (below_step z9_1 hb); clear HO_3; clear HO_4; clear BK217; clear HB; have HO_3 := n0_; have HO_4 := n1_; have HO241 := n2_; have BK217 := n3_; have HB := n4_; clear n0_ n1_ n2_ n3_ n4_; clear hb ho32; obtain ⟨_, _, _, _⟩ := be_2 BK217.out; have p242 : 0 ≤ (x6_1 : Int) := of_decide_eq_true (by first | (with_reducible assumption) | assumption); have q242 : x6_1 < (l0_0.length : Int) := of_decide_eq_true (by first | (with_reducible assumption) | assumption); obtain ⟨ad242, e242, hx242_0⟩ := Kd.at_int HR0_0.out x6_1 p242 q242; obtain rfl : ad228 = ad242 := (by injection e242); replace hx242_0 := cell_go HB hx242_0; replace p242 := eq_true p242; replace q242 := eq_true q242) | ((with_reducible refine gate_callee (f := 55) rfl ?_); refine goesL_ (some 141) rfl rfl Try.func55 (by kernel_rfl) rfl #[.int .i64 (rd l0_0 x6_1)] rfl z9_4 ?_; (with_reducible refine (spec_NeedOf.calls (rd l0_0 x6_1) t243 _ A29.out).mono ?_); rintro e w34 ⟨rfl, hb⟩; refine ⟨_, rfl, ?_⟩; have n0_ := Aside0.mk (Kd.S_below z9_5 hb); have n1_ := Aside0.mk (Kd.R_below z9_3 hb); have n2_ := Aside0.mk (Kd.R_below (by (with_reducible repeat (first | apply Kd.R_alloc | apply Kd.R_drewN | apply Kd.R_drew)); exact HO241.out) hb); have n3_ := Aside0.mk (blk_belowB BK217 z9_2 hb); have n4_ := Aside0.mk (below_step z9_1 hb); clear HO_3; clear HO_4; clear HO241; clear BK217; clear HB; have HO_3 := n0_; have HO_4 := n1_; have HO241 := n2_; have BK217 := n3_; have HB := n4_; clear n0_ n1_ n2_ n3_ n4_; (try clear hb); (try clear hk)))
          go_roundg k1
          case measure => have := HK1.out; omega
          case rel => exact ⟨(x3_1), (y239), (wrap64 (x5_1 + t243)), (wrap64 (x6_1 + 1)), (by first | rfl | (simp; done) | (simp [*]; done)), (by first | rfl | (simp; done) | (simp [*]; done)), H', ⟨by have := HK1.out; omega⟩, ⟨by (with_reducible repeat (first | apply Kd.S_alloc | apply Kd.S_drewN | apply Kd.S_drew)); exact Kd.S_mono HO_3.out (fun _ hk => hk.2)⟩, ⟨by (with_reducible repeat (first | apply Kd.R_alloc | apply Kd.R_drewN | apply Kd.R_drew)); exact Kd.R_mono HO241.out (fun _ hk => trivial)⟩, ⟨by (with_reducible repeat (first | refine blk_drewN ?_ _ | refine blk_drew ?_ | refine blk_alloc ?_ _)); exact BK217.out⟩, ⟨by repeat (first | (with_reducible first | exact HB.out | apply below_alloc | apply pw_below_drewN | apply below_drew1 | refine below_set ?_ GE217.out) | exact HB.out)⟩⟩
         ·rw [if_neg c28] at H
          exact absurd H (by simp)
        ·rw [if_neg c27] at H
         exact absurd H (by simp)
      ·rw [if_neg c13] at H
       have c13b0 : ((rd l0_0 x6_1) == 1) = false := beq_eq_false_iff_ne.mpr c13
       have c13b1 : ((rd l0_0 x6_1) != 1) = true := bne_iff_ne.mpr c13
       by_cases c35 : (rd l0_0 x6_1) = 2
       ·rw [if_pos c35] at H
        have c35b0 : ((rd l0_0 x6_1) == 2) = true := beq_iff_eq.mpr c35
        have c35b1 : ((rd l0_0 x6_1) != 2) = false := bne_eq_false_iff_eq.mpr c35
        clear c35
        by_cases c36 : 0 ≤ x5_1
        ·rw [if_pos c36] at H
         have c36b0 : decide (0 ≤ x5_1) = true := decide_eq_true c36
         clear c36
         by_cases c37 : x5_1 < (l0_1.length : Int)
         ·rw [if_pos c37] at H
          have c37b0 : decide (x5_1 < (l0_1.length : Int)) = true := decide_eq_true c37
          clear c37
          by_cases c38 : x4_1.length < 8796093022208
          ·rw [if_pos c38] at H
           have LMc38 := Aside0.mk c38
           clear c38
           obtain ⟨y245, hy245⟩ : ∃ y_ : List (S52), y_ = (x4_1 ++ [(⟨(rd_T52 l0_1 x5_1).f0, (rd_T52 l0_1 x5_1).f1⟩ : S52)]) := ⟨_, rfl⟩
           replace H : ((spec_NeedOf.f (rd l0_0 x6_1)).bind fun t249 => (spec_FlatOf.l0 k1 x3_1 y245 (wrap64 (x5_1 + t249)) (wrap64 (x6_1 + 1)) l0_0 l0_1)) = some r := by first | (rw [hy245]; with_reducible exact H) | (have H2_ := (Option.bind_some _ _).symm.trans H; rw [hy245]; with_reducible exact H2_) | (have H2_ := (Option.bind_some _ _).symm.trans H; with_reducible exact H2_) | with_reducible exact H | (rw [hy245]; exact H) | exact H
           have Ny245 := Aside0.mk hy245
           clear hy245
           replace H := Option.bind_eq_some_iff.mp H
           obtain ⟨t249, A390, H⟩ := H
           try dsimp only at H
           have A39 := Aside0.mk A390
           clear A390
           have H' := Aside0.mk H
           clear H
           obtain ⟨_, _, _, _⟩ := be_2 BK217.out
           have p228 : 0 ≤ (x6_1 : Int) := of_decide_eq_true (by first | (with_reducible assumption) | assumption)
           have q228 : x6_1 < (l0_0.length : Int) := of_decide_eq_true (by first | (with_reducible assumption) | assumption)
           obtain ⟨ad228, e228, hx228_0⟩ := Kd.at_int HR0_0.out x6_1 p228 q228
           cases e228
           replace hx228_0 := cell_go HB hx228_0
           replace p228 := eq_true p228
           replace q228 := eq_true q228
           have p244 : 0 ≤ (x5_1 : Int) := of_decide_eq_true (by first | (with_reducible assumption) | assumption)
           have q244 : x5_1 < (l0_1.length : Int) := of_decide_eq_true (by first | (with_reducible assumption) | assumption)
           obtain ⟨ad244, e244, hx244_0, hx244_1⟩ := at_T52 HR0_1.out x5_1 p244 q244
           cases e244
           replace hx244_0 := cell_go HB hx244_0
           replace hx244_1 := cell_go HB hx244_1
           replace p244 := eq_true p244
           replace q244 := eq_true q244
           go_wp2_with (first | ((with_reducible refine gate_builtin (b := .append) (xs := #[.tmp 45, .tmp 51]) rfl ?_); at_builtin; refine Kd.R_append k52 (w0 := w) w.heap.size rfl (.tmp 45) (.tmp 51) 29 52 (.agg #[(.int .i64 0), (.int .i64 0)]) 16 rfl Try.underlying29 info52 rfl (by decide) (by omega) u4 x4_1 (⟨(rd_T52 l0_1 x5_1).f0, (rd_T52 l0_1 x5_1).f1⟩ : S52) [.int .i64 ((rd_T52 l0_1 x5_1).f0), .int .i64 ((rd_T52 l0_1 x5_1).f1)] (fun _ => True) (fun _ => False) rfl rfl ?aP (fun _ hk => hk.elim) ?aF ?aO ?aB ?aS ?aL ?_; (case aP => exact k52_mkM _ _ _ (⟨(rd_T52 l0_1 x5_1).f0, (rd_T52 l0_1 x5_1).f1⟩ : S52)); (case aB => exact z9_1); (case aF => exact (fun _ _ => trivial)); (case aO => exact z9_3); (case aS => exact (below_size z9_1)); (case aL => have := LMc38.out; omega); intro v246 w41 ho hb hg hat; rw [← Ny245.out] at ho; have n0_ := Aside0.mk (Kd.S_after (ok := (fun _ => True)) z9_16 hg hat); have n1_ := Aside0.mk (blk_grown (g := gb217) (o := .cells #[.slice (some ad228) l0_0.length c0_0, .slice (some ad244) l0_1.length c0_1] 31 (0, 0)) z9_2 hg (Kd.R_ne HO_4.out BK217.out (by decide))); have n2_ := Aside0.mk (hb); have n3_ := Aside0.mk (ho); clear HO_3; clear BK217; clear HB; clear HO_4; have HO_3 := n0_; have BK217 := n1_; have HB := n2_; have HO247 := n3_; clear n0_ n1_ n2_ n3_; clear ho hb hg hat; obtain ⟨_, _, _, _⟩ := be_2 BK217.out; have p248 : 0 ≤ (x6_1 : Int) := of_decide_eq_true (by first | (with_reducible assumption) | assumption); have q248 : x6_1 < (l0_0.length : Int) := of_decide_eq_true (by first | (with_reducible assumption) | assumption); obtain ⟨ad248, e248, hx248_0⟩ := Kd.at_int HR0_0.out x6_1 p248 q248; obtain rfl : ad228 = ad248 := (by injection e248); replace hx248_0 := cell_go HB hx248_0; replace p248 := eq_true p248; replace q248 := eq_true q248) | ((with_reducible refine gate_callee (f := 55) rfl ?_); refine goesL_ (some 141) rfl rfl Try.func55 (by kernel_rfl) rfl #[.int .i64 (rd l0_0 x6_1)] rfl z9_4 ?_; (with_reducible refine (spec_NeedOf.calls (rd l0_0 x6_1) t249 _ A39.out).mono ?_); rintro e w43 ⟨rfl, hb⟩; refine ⟨_, rfl, ?_⟩; have n0_ := Aside0.mk (Kd.S_below z9_5 hb); have n1_ := Aside0.mk (Kd.R_below (by (with_reducible repeat (first | apply Kd.R_alloc | apply Kd.R_drewN | apply Kd.R_drew)); exact HO247.out) hb); have n2_ := Aside0.mk (blk_belowB BK217 z9_2 hb); have n3_ := Aside0.mk (below_step z9_1 hb); clear HO_3; clear HO247; clear BK217; clear HB; have HO_3 := n0_; have HO247 := n1_; have BK217 := n2_; have HB := n3_; clear n0_ n1_ n2_ n3_; (try clear hb); (try clear hk)))
           go_roundg k1
           case measure => have := HK1.out; omega
           case rel => exact ⟨(x3_1), (y245), (wrap64 (x5_1 + t249)), (wrap64 (x6_1 + 1)), (by first | rfl | (simp; done) | (simp [*]; done)), (by first | rfl | (simp; done) | (simp [*]; done)), H', ⟨by have := HK1.out; omega⟩, ⟨by (with_reducible repeat (first | apply Kd.S_alloc | apply Kd.S_drewN | apply Kd.S_drew)); exact Kd.S_mono HO_3.out (fun _ hk => hk.2)⟩, ⟨by (with_reducible repeat (first | apply Kd.R_alloc | apply Kd.R_drewN | apply Kd.R_drew)); exact HO247.out⟩, ⟨by (with_reducible repeat (first | refine blk_drewN ?_ _ | refine blk_drew ?_ | refine blk_alloc ?_ _)); exact BK217.out⟩, ⟨by repeat (first | (with_reducible first | exact HB.out | apply below_alloc | apply pw_below_drewN | apply below_drew1 | refine below_set ?_ GE217.out) | exact HB.out)⟩⟩
          ·rw [if_neg c38] at H
           exact absurd H (by simp)
         ·rw [if_neg c37] at H
          exact absurd H (by simp)
        ·rw [if_neg c36] at H
         exact absurd H (by simp)
       ·rw [if_neg c35] at H
        have c35b0 : ((rd l0_0 x6_1) == 2) = false := beq_eq_false_iff_ne.mpr c35
        have c35b1 : ((rd l0_0 x6_1) != 2) = true := bne_iff_ne.mpr c35
        by_cases c44 : (rd l0_0 x6_1) = 3
        ·rw [if_pos c44] at H
         have c44b0 : ((rd l0_0 x6_1) == 3) = true := beq_iff_eq.mpr c44
         have c44b1 : ((rd l0_0 x6_1) != 3) = false := bne_eq_false_iff_eq.mpr c44
         clear c44
         obtain ⟨ji45, hji45⟩ : ∃ j_ : Int, (wrap64 ((x4_1.length : Int) - 1)) = j_ := ⟨_, rfl⟩
         replace H : (if 0 ≤ (ji45) then (if (ji45) < (x4_1.length : Int) then (spec_FlatOf.l1 k1 x3_1 x4_1 x5_1 x6_1 1 l0_0 l0_1 ((rd_T52 x4_1 (ji45)).f0) ((rd_T52 x4_1 (ji45)).f1)) else (none)) else (none)) = some r := by first | (rw [hji45] at H; exact H) | (simp only [hji45] at H ⊢; exact H)
         have hji45w : (IntKind.i64.wrap ((x4_1.length : Int) - 1)) = ji45 := (i64_w _).trans hji45
         by_cases c46 : 0 ≤ (ji45)
         ·rw [if_pos c46] at H
          have c46b0 : decide (0 ≤ (ji45)) = true := decide_eq_true c46
          clear c46
          by_cases c47 : (ji45) < (x4_1.length : Int)
          ·rw [if_pos c47] at H
           have c47b0 : decide ((ji45) < (x4_1.length : Int)) = true := decide_eq_true c47
           clear c47
           have H' := Aside0.mk H
           clear H
           obtain ⟨_, _, _, _⟩ := be_2 BK217.out
           have p228 : 0 ≤ (x6_1 : Int) := of_decide_eq_true (by first | (with_reducible assumption) | assumption)
           have q228 : x6_1 < (l0_0.length : Int) := of_decide_eq_true (by first | (with_reducible assumption) | assumption)
           obtain ⟨ad228, e228, hx228_0⟩ := Kd.at_int HR0_0.out x6_1 p228 q228
           cases e228
           replace hx228_0 := cell_go HB hx228_0
           replace p228 := eq_true p228
           replace q228 := eq_true q228
           obtain ⟨Ao49, co49, eo49⟩ := Kd.R_slice HO_4.out
           subst eo49
           have p250 : 0 ≤ ((ji45) : Int) := of_decide_eq_true (by first | (with_reducible assumption) | assumption)
           have q250 : (ji45) < (x4_1.length : Int) := of_decide_eq_true (by first | (with_reducible assumption) | assumption)
           (try (obtain ⟨Aq250, cq250, eq250⟩ := Kd.R_slice HO_4.out; subst eq250))
           obtain ⟨ad250, e250, hx250_0, hx250_1⟩ := at_T52 (Kd.R_reads' HO_4.out).2.2 (ji45) p250 q250
           cases e250
           replace p250 := eq_true p250
           replace q250 := eq_true q250
           go_wp2_with (first | ((with_reducible refine gate_dst (N := 7) rfl ?_); refine boxz (cs := #[.int .i64 0, .int .i64 0]) (t := 52) rfl ?_; intro gb251 hg w50 hbox hb; have n0_ := Aside0.mk (Kd.S_below (Kd.S_elderB z9_5 gb251 (Nat.le_of_eq hg.symm)) hb); have n1_ := Aside0.mk (Kd.R_below (Kd.R_elderB z9_3 gb251 (Nat.le_of_eq hg.symm)) hb); have n2_ := Aside0.mk (blk_belowB BK217 z9_2 hb); have n3_ := Aside0.mk (below_step z9_1 hb); have n4_ := Aside0.mk (hbox); have n5_ := Aside0.mk (ge_go (a := w.heap.size) hg (below_size z9_1)); have n6_ := Aside0.mk (ge_go (a := w.heap.size) hg (below_size z9_1)); have n7_ := Aside0.mk (nb_lt hg (blk_ltB BK217 z9_2)); have n8_ := Aside0.mk (nb_gt hg (blk_ltB BK217 z9_2)); clear HO_3; clear HO_4; clear BK217; clear HB; have HO_3 := n0_; have HO_4 := n1_; have BK217 := n2_; have HB := n3_; have BK251 := n4_; have GW251 := n5_; have GE251 := n6_; have NB217_251 := n7_; have NB251_217 := n8_; clear n0_ n1_ n2_ n3_ n4_ n5_ n6_ n7_ n8_; clear hb hbox hg; have hnb51 := NB251_217.out; have hnc51 := NB217_251.out; obtain ⟨_, _, _, _⟩ := be_2 BK251.out))
           go_loopg [4, 8] k1 (fun kq v4 v8 w' => ∃ (x4_2 : List (S52)) (x8_2 : Int), v8 = .int .i64 x8_2 ∧ Aside0 (spec_FlatOf.l1 kq x3_1 x4_2 x5_1 x6_1 x8_2 l0_0 l0_1 ((rd_T52 x4_1 (ji45)).f0) ((rd_T52 x4_1 (ji45)).f1) = some r) ∧ Aside0 (kq ≤ k1) ∧ Aside0 (Kd.S (Kd.slice 52 k52) 29 w' w.heap.size (fun k_ => some k_ ≠ (v4 : Value).ownBlock ∧ k_ ≠ gb251) u3 x3_1) ∧ Aside0 (Kd.R k52 52 w' w.heap.size (fun k_ => k_ ≠ gb251) v4 x4_2) ∧ Aside0 (w'.heap[gb217]? = some (.cells #[(.slice (some ad228) l0_0.length c0_0), (.slice A0_1 l0_1.length c0_1)] 31 (0, 0))) ∧ Aside0 (w'.heap[gb251]? = some (.cells #[.int .i64 ((rd_T52 x4_1 (ji45)).f0), .int .i64 ((rd_T52 x4_1 (ji45)).f1)] 52 (0, 0))) ∧ Aside0 (Below w.heap.size w w'))
           case atStart => exact ⟨(x4_1), (1), (by first | rfl | (simp; done) | (simp [*]; done)), H', ⟨Nat.le_refl _⟩, ⟨by (with_reducible repeat (first | apply Kd.S_alloc | apply Kd.S_drewN | apply Kd.S_drew)); exact Kd.S_mono (Kd.S_far (p := ⟨gb251, 1, none⟩) (Kd.S_far (p := ⟨gb251, 0, none⟩) (Kd.S_mono HO_3.out (fun k_ hk => (⟨hk, hk.2⟩ : _ ∧ k_ ≠ gb251))) (fun _ hk => hk.2) (.int .i64 ((rd_T52 x4_1 (ji45)).f0))) (fun _ hk => hk.2) (.int .i64 ((rd_T52 x4_1 (ji45)).f1))) (fun _ hk => ⟨hk.1.1, hk.1.2⟩)⟩, ⟨by (with_reducible repeat (first | apply Kd.R_alloc | apply Kd.R_drewN | apply Kd.R_drew)); exact Kd.R_mono (Kd.R_far (p := ⟨gb251, 1, none⟩) (Kd.R_far (p := ⟨gb251, 0, none⟩) (Kd.R_mono HO_4.out (fun k_ hk => (⟨hk, hk.2⟩ : _ ∧ k_ ≠ gb251))) (fun _ hk => hk.2) (.int .i64 ((rd_T52 x4_1 (ji45)).f0))) (fun _ hk => hk.2) (.int .i64 ((rd_T52 x4_1 (ji45)).f1))) (fun _ hk => hk.1.2)⟩, ⟨by (with_reducible repeat (first | refine blk_drewN ?_ _ | refine blk_drew ?_ | refine blk_alloc ?_ _)); refine blk_far ?_ NB217_251.out _; (with_reducible repeat (first | refine blk_drewN ?_ _ | refine blk_drew ?_ | refine blk_alloc ?_ _)); refine blk_far ?_ NB217_251.out _; (with_reducible repeat (first | refine blk_drewN ?_ _ | refine blk_drew ?_ | refine blk_alloc ?_ _)); exact BK217.out⟩, ⟨by (with_reducible repeat (first | refine blk_drewN ?_ _ | refine blk_drew ?_ | refine blk_alloc ?_ _)); refine blk_put (cs := #[.int .i64 ((rd_T52 x4_1 (ji45)).f0), .int .i64 0]) ?_ 1 _ rfl; (with_reducible repeat (first | refine blk_drewN ?_ _ | refine blk_drew ?_ | refine blk_alloc ?_ _)); refine blk_put (cs := #[.int .i64 0, .int .i64 0]) ?_ 0 _ rfl; (with_reducible repeat (first | refine blk_drewN ?_ _ | refine blk_drew ?_ | refine blk_alloc ?_ _)); exact BK251.out⟩, ⟨by repeat (first | (with_reducible first | exact HB.out | apply below_alloc | apply pw_below_drewN | apply below_drew1 | refine below_set ?_ GE217.out | refine below_set ?_ GE251.out) | exact HB.out)⟩⟩
           case round =>
            clear H'
            try clear c1
            try clear c2
            try clear p2
            try clear q2
            try clear hx2
            try clear c3
            try clear c4
            try clear c5
            try clear p6
            try clear c11
            try clear c11b0
            try clear c12
            try clear c12b0
            try clear c13
            try clear c13b0
            try clear c13b1
            try clear c14
            try clear c14b0
            try clear c15
            try clear c16
            try clear c16b0
            try clear c17
            try clear c17b0
            try clear p22
            try clear q22
            try clear hx22
            try clear p23
            try clear q23
            try clear hx23
            try clear p24
            try clear q24
            try clear hx24
            try clear p25
            try clear q25
            try clear hx25
            try clear c27
            try clear c27b0
            try clear c28
            try clear c28b0
            try clear c35
            try clear c35b0
            try clear c35b1
            try clear c36
            try clear c36b0
            try clear c37
            try clear c37b0
            try clear c38
            try clear c44
            try clear c44b0
            try clear c44b1
            try clear c46
            try clear c46b0
            try clear c47
            try clear c47b0
            try clear c51
            try clear c52
            try clear hcz19_0
            try clear hcz19_1
            try clear hcz22_0
            try clear hcz22_1
            try clear hcz25_0
            try clear hcz25_1
            try clear hcz30_0
            try clear hcz30_1
            try clear hcz33_0
            try clear hcz33_1
            try clear hcz40_0
            try clear hcz40_1
            try clear hcz42_0
            try clear hcz42_1
            try clear hcz48_0
            try clear hcz48_1
            try clear hcz52_0
            try clear hcz52_1
            try clear hcz7_0
            try clear hcz7_1
            try clear hfz19_0
            try clear hfz19_1
            try clear hfz22_0
            try clear hfz22_1
            try clear hfz25_0
            try clear hfz25_1
            try clear hfz30_0
            try clear hfz30_1
            try clear hfz33_0
            try clear hfz33_1
            try clear hfz40_0
            try clear hfz40_1
            try clear hfz42_0
            try clear hfz42_1
            try clear hfz48_0
            try clear hfz48_1
            try clear hfz52_0
            try clear hfz52_1
            try clear hfz7_0
            try clear hfz7_1
            try clear hx228_0
            try clear hx232_0
            try clear hx232_1
            try clear hx236_0
            try clear hx238_0
            try clear hx238_1
            try clear hx242_0
            try clear hx244_0
            try clear hx244_1
            try clear hx248_0
            try clear hx250_0
            try clear hx250_1
            try clear p2
            try clear p228
            try clear p232
            try clear p236
            try clear p238
            try clear p242
            try clear p244
            try clear p248
            try clear p250
            try clear q228
            try clear q232
            try clear q236
            try clear q238
            try clear q242
            try clear q244
            try clear q248
            try clear q250
            obtain ⟨x4_2, x8_2, rfl, HA, HK2, HO_3, HO_4, BK217, BK251, HB⟩ := hrel
            cases gk with
            | zero => exact absurd HA.out (by simp [spec_FlatOf.l1])
            | succ k2 =>
             have H := HA.out; clear HA
             simp only [spec_FlatOf.l1] at H
             by_cases c53 : x8_2 ≤ 4
             ·rw [if_pos c53] at H
              have c53b0 : decide (x8_2 ≤ 4) = true := decide_eq_true c53
              clear c53
              by_cases c54 : 0 ≤ x5_1
              ·rw [if_pos c54] at H
               have c54b0 : decide (0 ≤ x5_1) = true := decide_eq_true c54
               clear c54
               by_cases c55 : x5_1 < (l0_1.length : Int)
               ·rw [if_pos c55] at H
                have c55b0 : decide (x5_1 < (l0_1.length : Int)) = true := decide_eq_true c55
                clear c55
                obtain ⟨ji56, hji56⟩ : ∃ j_ : Int, (wrap64 (x5_1 + 1)) = j_ := ⟨_, rfl⟩
                replace H : (if 0 ≤ (ji56) then (if (ji56) < (l0_1.length : Int) then ((spec_QuadAt.f k2 ((rd_T52 x4_1 (ji45)).f0) ((rd_T52 x4_1 (ji45)).f1) ((rd_T52 l0_1 x5_1).f0) ((rd_T52 l0_1 x5_1).f1) ((rd_T52 l0_1 (ji56)).f0) ((rd_T52 l0_1 (ji56)).f1) x8_2).bind fun bt254 => (if x4_2.length < 8796093022208 then (spec_FlatOf.l1 k2 x3_1 (x4_2 ++ [(⟨bt254.1, bt254.2⟩ : S52)]) x5_1 x6_1 (wrap64 (x8_2 + 1)) l0_0 l0_1 ((rd_T52 x4_1 (ji45)).f0) ((rd_T52 x4_1 (ji45)).f1)) else (none))) else (none)) else (none)) = some r := by first | (rw [hji56] at H; exact H) | (simp only [hji56] at H ⊢; exact H)
                have hji56w : (IntKind.i64.wrap (x5_1 + 1)) = ji56 := (i64_w _).trans hji56
                by_cases c57 : 0 ≤ (ji56)
                ·rw [if_pos c57] at H
                 have c57b0 : decide (0 ≤ (ji56)) = true := decide_eq_true c57
                 clear c57
                 by_cases c58 : (ji56) < (l0_1.length : Int)
                 ·rw [if_pos c58] at H
                  have c58b0 : decide ((ji56) < (l0_1.length : Int)) = true := decide_eq_true c58
                  clear c58
                  replace H := Option.bind_eq_some_iff.mp H
                  obtain ⟨⟨t254, t255⟩, A590, H⟩ := H
                  try dsimp only at H
                  have A59 := Aside0.mk A590
                  clear A590
                  by_cases c60 : x4_2.length < 8796093022208
                  ·rw [if_pos c60] at H
                   have LMc60 := Aside0.mk c60
                   clear c60
                   obtain ⟨y256, hy256⟩ : ∃ y_ : List (S52), y_ = (x4_2 ++ [(⟨t254, t255⟩ : S52)]) := ⟨_, rfl⟩
                   replace H : (spec_FlatOf.l1 k2 x3_1 y256 x5_1 x6_1 (wrap64 (x8_2 + 1)) l0_0 l0_1 ((rd_T52 x4_1 (ji45)).f0) ((rd_T52 x4_1 (ji45)).f1)) = some r := by first | (rw [hy256]; with_reducible exact H) | (have H2_ := (Option.bind_some _ _).symm.trans H; rw [hy256]; with_reducible exact H2_) | (have H2_ := (Option.bind_some _ _).symm.trans H; with_reducible exact H2_) | with_reducible exact H | (rw [hy256]; exact H) | exact H
                   have Ny256 := Aside0.mk hy256
                   clear hy256
                   have H' := Aside0.mk H
                   clear H
                   try go_wp2
                   have n0_ := Aside0.mk (Kd.S_drew HO_3.out)
                   have n1_ := Aside0.mk (Kd.R_drew HO_4.out)
                   have n2_ := Aside0.mk (blk_drew BK217.out)
                   have n3_ := Aside0.mk (blk_drew BK251.out)
                   have n4_ := Aside0.mk (below_drew1 HB.out)
                   clear HO_3; clear HO_4; clear BK217; clear BK251; clear HB; have HO_3 := n0_; have HO_4 := n1_; have BK217 := n2_; have BK251 := n3_; have HB := n4_; clear n0_ n1_ n2_ n3_ n4_
                   have p252 : 0 ≤ (x5_1 : Int) := of_decide_eq_true (by first | (with_reducible assumption) | assumption)
                   have q252 : x5_1 < (l0_1.length : Int) := of_decide_eq_true (by first | (with_reducible assumption) | assumption)
                   obtain ⟨ad252, e252, hx252_0, hx252_1⟩ := at_T52 HR0_1.out x5_1 p252 q252
                   have hw252_1 := hx252_1; have hw252_0 := hx252_0
                   cases e252
                   replace hx252_0 := cell_go HB hx252_0
                   replace hx252_1 := cell_go HB hx252_1
                   replace p252 := eq_true p252
                   replace q252 := eq_true q252
                   have p253 : 0 ≤ ((ji56) : Int) := of_decide_eq_true (by first | (with_reducible assumption) | assumption)
                   have q253 : (ji56) < (l0_1.length : Int) := of_decide_eq_true (by first | (with_reducible assumption) | assumption)
                   obtain ⟨ad253, e253, hx253_0, hx253_1⟩ := at_T52 HR0_1.out (ji56) p253 q253
                   have hw253_1 := hx253_1; have hw253_0 := hx253_0
                   obtain rfl : ad252 = ad253 := (by injection e253)
                   replace hx253_0 := cell_go HB hx253_0
                   replace hx253_1 := cell_go HB hx253_1
                   replace p253 := eq_true p253
                   replace q253 := eq_true q253
                   refine start_ (n := 18) (S := fun w' => w'.cell? ⟨gb251, 0, none⟩ = some (.int .i64 ((rd_T52 x4_1 (ji45)).f0)) ∧ w'.cell? ⟨gb251, 1, none⟩ = some (.int .i64 ((rd_T52 x4_1 (ji45)).f1)) ∧ w'.cell? ⟨gb217, 0, none⟩ = some (.slice (some ad228) l0_0.length c0_0) ∧ w'.cell? ⟨gb217, 1, none⟩ = some (.slice (some ad252) l0_1.length c0_1) ∧ w'.cell? (ad252.add ((x5_1).toNat * 2)) = some (.int .i64 ((rd_T52 l0_1 x5_1).f0)) ∧ w'.cell? ⟨(ad252.add ((x5_1).toNat * 2)).block, (ad252.add ((x5_1).toNat * 2)).off + 1, none⟩ = some (.int .i64 ((rd_T52 l0_1 x5_1).f1)) ∧ w'.cell? (ad252.add (((ji56)).toNat * 2)) = some (.int .i64 ((rd_T52 l0_1 (ji56)).f0)) ∧ w'.cell? ⟨(ad252.add (((ji56)).toNat * 2)).block, (ad252.add (((ji56)).toNat * 2)).off + 1, none⟩ = some (.int .i64 ((rd_T52 l0_1 (ji56)).f1))) (ds := []) #[false, false, false, false, false, false, false, false, false, false, false, false, false, false, false, false, false, false] (by kernel_rfl) rfl rfl ⟨(blk_cell BK251.out 0).trans rfl, (blk_cell BK251.out 1).trans rfl, (blk_cell BK217.out 0).trans rfl, (blk_cell BK217.out 1).trans rfl, ((HB.out.cell (World.block_lt_of_cell? w _ hw252_0)).trans hw252_0), ((HB.out.cell (World.block_lt_of_cell? w _ hw252_1)).trans hw252_1), ((HB.out.cell (World.block_lt_of_cell? w _ hw253_0)).trans hw253_0), ((HB.out.cell (World.block_lt_of_cell? w _ hw253_1)).trans hw253_1)⟩ (fun hHeld => ?_); refine with_tabW spec_FlatOf.tab21 spec_FlatOf.bits21 (fun HT_ HW_ => ?_)
                   generalize wr.drew = w61 at HO_3 HO_4 BK217 BK251 HB hx252_0 hx252_1 hx253_0 hx253_1 hHeld ⊢
                   refine pure_ (i := 0) (N := some 65) (v := ?_) (a' := ?_) #[true, false, false, false, false, false, false, false, false, false, false, false, false, false, false, false, false, false] rfl rfl (any_of HT_.out (by kernel_rfl)) (fun _ _ _ h => h) (Or.inl ⟨by rfl, ?_⟩) ?_ ?_; rotate_left
                   ·intro w'
                    go_simp; with_reducible rfl
                   rotate_left
                   ·exact x9_put
                   refine pure_ (i := 2) (N := some 67) (v := ?_) (a' := ?_) #[true, false, true, false, false, false, false, false, false, false, false, false, false, false, false, false, false, false] rfl rfl (any_of HT_.out (by kernel_rfl)) (fun _ _ _ h => h) (Or.inl ⟨by rfl, ?_⟩) ?_ ?_; rotate_left
                   ·intro w'
                    go_simp; with_reducible rfl
                   rotate_left
                   ·exact x9_put
                   refine pure_ (i := 4) (N := some 69) (v := ?_) (a' := ?_) #[true, false, true, false, true, false, false, false, false, false, false, false, false, false, false, false, false, false] rfl rfl (any_of HT_.out (by kernel_rfl)) (fun _ _ _ h => h) (Or.inl ⟨by rfl, ?_⟩) ?_ ?_; rotate_left
                   ·intro w'
                    go_simp; with_reducible rfl
                   rotate_left
                   ·exact x9_put
                   refine pure_ (i := 7) (N := some 72) (v := ?_) (a' := ?_) #[true, false, true, false, true, false, false, true, false, false, false, false, false, false, false, false, false, false] rfl rfl (any_of HT_.out (by kernel_rfl)) (fun _ _ _ h => h) (Or.inl ⟨by rfl, ?_⟩) ?_ ?_; rotate_left
                   ·intro w'
                    go_simp; with_reducible rfl
                   rotate_left
                   ·exact x9_put
                   refine pure_ (i := 9) (N := some 74) (v := ?_) (a' := ?_) #[true, false, true, false, true, false, false, true, false, true, false, false, false, false, false, false, false, false] rfl rfl (any_of HT_.out (by kernel_rfl)) (fun _ _ _ h => h) (Or.inl ⟨by rfl, ?_⟩) ?_ ?_; rotate_left
                   ·intro w'
                    go_simp; with_reducible rfl
                   rotate_left
                   ·exact x9_put
                   refine pure_ (i := 10) (N := some 75) (v := ?_) (a' := ?_) #[true, false, true, false, true, false, false, true, false, true, true, false, false, false, false, false, false, false] rfl rfl (any_of HT_.out (by kernel_rfl)) (fun _ _ _ h => h) (Or.inl ⟨by rfl, ?_⟩) ?_ ?_; rotate_left
                   ·intro w'
                    go_simp; with_reducible rfl
                   rotate_left
                   ·exact x9_put
                   refine pure_ (i := 13) (N := some 78) (v := ?_) (a' := ?_) #[true, false, true, false, true, false, false, true, false, true, true, false, false, true, false, false, false, false] rfl rfl (any_of HT_.out (by kernel_rfl)) (fun _ _ _ h => h) (Or.inl ⟨by rfl, ?_⟩) ?_ ?_; rotate_left
                   ·intro w'
                    go_simp; with_reducible rfl
                   rotate_left
                   ·exact x9_put
                   refine take_ (i := 1) (N := some 66) (v := ?_) (a' := ?_) #[true, true, true, false, true, false, false, true, false, true, true, false, false, true, false, false, false, false] rfl rfl (take_ofW HT_.out HW_.out (by kernel_rfl)) (fun _ _ _ h => h) (Or.inl ⟨by rfl, ?_⟩) hHeld ?_ ?_
                   rotate_left
                   ·rintro w' ⟨s0, s1, s2, s3, s4, s5, s6, s7⟩
                    go_simp; with_reducible rfl
                   rotate_left
                   ·exact x9_put
                   refine take_ (i := 3) (N := some 68) (v := ?_) (a' := ?_) #[true, true, true, true, true, false, false, true, false, true, true, false, false, true, false, false, false, false] rfl rfl (take_ofW HT_.out HW_.out (by kernel_rfl)) (fun _ _ _ h => h) (Or.inl ⟨by rfl, ?_⟩) hHeld ?_ ?_
                   rotate_left
                   ·rintro w' ⟨s0, s1, s2, s3, s4, s5, s6, s7⟩
                    go_simp; with_reducible rfl
                   rotate_left
                   ·exact x9_put
                   refine pure_ (i := 5) (N := some 70) (v := ?_) (a' := ?_) #[true, true, true, true, true, true, false, true, false, true, true, false, false, true, false, false, false, false] rfl rfl (any_of HT_.out (by kernel_rfl)) (fun _ _ _ h => h) (Or.inl ⟨by rfl, ?_⟩) ?_ ?_; rotate_left
                   ·intro w'
                    go_simp; with_reducible rfl
                   rotate_left
                   ·exact x9_put
                   refine take_ (i := 6) (N := some 71) (v := ?_) (a' := ?_) #[true, true, true, true, true, true, true, true, false, true, true, false, false, true, false, false, false, false] rfl rfl (take_ofW HT_.out HW_.out (by kernel_rfl)) (fun _ _ _ h => h) (Or.inl ⟨by rfl, ?_⟩) hHeld ?_ ?_
                   rotate_left
                   ·rintro w' ⟨s0, s1, s2, s3, s4, s5, s6, s7⟩
                    go_simp; with_reducible rfl
                   rotate_left
                   ·exact x9_put
                   refine take_ (i := 8) (N := some 73) (v := ?_) (a' := ?_) #[true, true, true, true, true, true, true, true, true, true, true, false, false, true, false, false, false, false] rfl rfl (take_ofW HT_.out HW_.out (by kernel_rfl)) (fun _ _ _ h => h) (Or.inl ⟨by rfl, ?_⟩) hHeld ?_ ?_
                   rotate_left
                   ·rintro w' ⟨s0, s1, s2, s3, s4, s5, s6, s7⟩
                    go_simp; with_reducible rfl
                   rotate_left
                   ·exact x9_put
                   refine pure_ (i := 11) (N := some 76) (v := ?_) (a' := ?_) #[true, true, true, true, true, true, true, true, true, true, true, true, false, true, false, false, false, false] rfl rfl (any_of HT_.out (by kernel_rfl)) (fun _ _ _ h => h) (Or.inl ⟨by rfl, ?_⟩) ?_ ?_; rotate_left
                   ·intro w'
                    go_simp; with_reducible rfl
                   rotate_left
                   ·exact x9_put
                   refine take_ (i := 12) (N := some 77) (v := ?_) (a' := ?_) #[true, true, true, true, true, true, true, true, true, true, true, true, true, true, false, false, false, false] rfl rfl (take_ofW HT_.out HW_.out (by kernel_rfl)) (fun _ _ _ h => h) (Or.inl ⟨by rfl, ?_⟩) hHeld ?_ ?_
                   rotate_left
                   ·rintro w' ⟨s0, s1, s2, s3, s4, s5, s6, s7⟩
                    go_simp; with_reducible rfl
                   rotate_left
                   ·exact x9_put
                   refine one_ (i := 14) (N := some 79) #[true, true, true, true, true, true, true, true, true, true, true, true, true, true, true, false, false, false] rfl rfl (one_of HT_.out (by kernel_rfl)) (by decide) (fun K hK => ?_)
                   refine goes_ Try.func53 (by kernel_rfl) rfl #[.agg #[.int .i64 ((rd_T52 x4_1 (ji45)).f0), .int .i64 ((rd_T52 x4_1 (ji45)).f1)], .agg #[.int .i64 ((rd_T52 l0_1 x5_1).f0), .int .i64 ((rd_T52 l0_1 x5_1).f1)], .agg #[.int .i64 ((rd_T52 l0_1 (ji56)).f0), .int .i64 ((rd_T52 l0_1 (ji56)).f1)], .int .i64 x8_2] (by rfl) rfl rfl (by (try simp only [List.map_toArray, List.map_cons, List.map_nil]); first | done | (simp only [hji45, hji56]; rfl) | rfl | (simp only [List.length_drop, List.length_take]; rfl)) ?_
                   with_reducible refine (spec_QuadAt.calls k2 ((rd_T52 x4_1 (ji45)).f0) ((rd_T52 x4_1 (ji45)).f1) ((rd_T52 l0_1 x5_1).f0) ((rd_T52 l0_1 x5_1).f1) ((rd_T52 l0_1 (ji56)).f0) ((rd_T52 l0_1 (ji56)).f1) x8_2 t254 t255 _ A59.out).mono ?_
                   rintro e w62 ⟨rfl, hb⟩
                   refine ⟨_, rfl, ?_⟩
                   have n0_ := Aside0.mk (Kd.S_below z9_5 hb)
                   have n1_ := Aside0.mk (Kd.R_below z9_3 hb)
                   have n2_ := Aside0.mk (blk_belowB BK217 z9_2 hb)
                   have n3_ := Aside0.mk (blk_belowB BK251 z9_9 hb)
                   have n4_ := Aside0.mk (below_step z9_7 hb)
                   clear HO_3; clear HO_4; clear BK217; clear BK251; clear HB; have HO_3 := n0_; have HO_4 := n1_; have BK217 := n2_; have BK251 := n3_; have HB := n4_; clear n0_ n1_ n2_ n3_ n4_; (try clear hb); (try clear hb2); (try clear hk); (try clear hi)
                   refine hK.out _ _ ⟨(blk_cell BK251.out 0).trans rfl, (blk_cell BK251.out 1).trans rfl, (blk_cell BK217.out 0).trans rfl, (blk_cell BK217.out 1).trans rfl, ((HB.out.cell (World.block_lt_of_cell? w _ hw252_0)).trans hw252_0), ((HB.out.cell (World.block_lt_of_cell? w _ hw252_1)).trans hw252_1), ((HB.out.cell (World.block_lt_of_cell? w _ hw253_0)).trans hw253_0), ((HB.out.cell (World.block_lt_of_cell? w _ hw253_1)).trans hw253_1)⟩ (fun hHeld => ?_)
                   clear hK K
                   refine norm_ (a' := ?_) ?_ ?_
                   rotate_left
                   ·show Act.put _ (some 79) _ = _
                    simp only [Act.put, List.setIfInBounds_toArray, List.set_cons_zero, List.set_cons_succ, i64_w, i32_w]
                    rfl
                   refine one_ (i := 15) (N := some 80) #[true, true, true, true, true, true, true, true, true, true, true, true, true, true, true, true, false, false] rfl rfl (one_of HT_.out (by kernel_rfl)) (by decide) (fun K hK => ?_)
                   refine value_ (w1 := ?_) (v := ?_) (by rfl) rfl ?_ ?_
                   rotate_left 2
                   ·go_simp
                    constructor
                    ·rfl
                    ·rfl
                   refine hK.out _ _ ⟨(blk_cell (blk_alloc BK251.out _) 0).trans rfl, (blk_cell (blk_alloc BK251.out _) 1).trans rfl, (blk_cell (blk_alloc BK217.out _) 0).trans rfl, (blk_cell (blk_alloc BK217.out _) 1).trans rfl, (World.cell?_alloc_lt _ _ _ (World.block_lt_of_cell? _ _ (((HB.out.cell (World.block_lt_of_cell? w _ hw252_0)).trans hw252_0)))).trans (((HB.out.cell (World.block_lt_of_cell? w _ hw252_0)).trans hw252_0)), (World.cell?_alloc_lt _ _ _ (World.block_lt_of_cell? _ _ (((HB.out.cell (World.block_lt_of_cell? w _ hw252_1)).trans hw252_1)))).trans (((HB.out.cell (World.block_lt_of_cell? w _ hw252_1)).trans hw252_1)), (World.cell?_alloc_lt _ _ _ (World.block_lt_of_cell? _ _ (((HB.out.cell (World.block_lt_of_cell? w _ hw253_0)).trans hw253_0)))).trans (((HB.out.cell (World.block_lt_of_cell? w _ hw253_0)).trans hw253_0)), (World.cell?_alloc_lt _ _ _ (World.block_lt_of_cell? _ _ (((HB.out.cell (World.block_lt_of_cell? w _ hw253_1)).trans hw253_1)))).trans (((HB.out.cell (World.block_lt_of_cell? w _ hw253_1)).trans hw253_1))⟩ (fun hHeld => ?_)
                   clear hK K
                   refine norm_ (a' := ?_) ?_ ?_
                   rotate_left
                   ·show Act.put _ (some 80) _ = _
                    simp only [Act.put, List.setIfInBounds_toArray, List.set_cons_zero, List.set_cons_succ, i64_w, i32_w]
                    rfl
                   refine one_ (i := 16) (N := some 81) #[true, true, true, true, true, true, true, true, true, true, true, true, true, true, true, true, true, false] rfl rfl (one_of HT_.out (by kernel_rfl)) (by decide) (fun K hK => ?_)
                   refine Kd.R_append_step k52 (w0 := w) w.heap.size (by rfl) (.tmp 65) (.tmp 80) 29 52 (.agg #[(.int .i64 0), (.int .i64 0)]) 16 rfl Try.underlying29 info52 rfl (by decide) (by omega) u4 x4_2 (⟨t254, t255⟩ : S52) [.int .i64 t254, .int .i64 t255] (fun k_ => k_ ≠ gb251) (fun _ => False) rfl rfl ?aP (fun _ hk => hk.elim) ?aF ?aO ?aB ?aS ?aL ?_
                   (case aP => exact k52_mkM _ _ _ (⟨t254, t255⟩ : S52))
                   (case aB => exact z9_7)
                   (case aF => exact (fun k_ hk => Kd.freshB (g := gb251) (o := .cells #[.int .i64 ((rd_T52 x4_1 (ji45)).f0), .int .i64 ((rd_T52 x4_1 (ji45)).f1)] 52 (0, 0)) z9_9 k_ hk))
                   (case aO => exact z9_3)
                   (case aS => exact (below_size z9_7))
                   (case aL => have := LMc60.out; omega)
                   intro v257 w63 ho hb hg hat
                   rw [← Ny256.out] at ho
                   have n0_ := Aside0.mk (Kd.S_after (ok := (fun k_ => k_ ≠ gb251)) z9_17 hg hat)
                   have n1_ := Aside0.mk (blk_grown (g := gb217) (o := .cells #[.slice (some ad228) l0_0.length c0_0, .slice (some ad252) l0_1.length c0_1] 31 (0, 0)) z9_2 hg (Kd.R_ne HO_4.out BK217.out (by decide)))
                   have n2_ := Aside0.mk (blk_grown (g := gb251) (o := .cells #[.int .i64 ((rd_T52 x4_1 (ji45)).f0), .int .i64 ((rd_T52 x4_1 (ji45)).f1)] 52 (0, 0)) z9_9 hg (Kd.R_away HO_4.out (fun _ hk => hk)))
                   have n3_ := Aside0.mk (hb)
                   have n4_ := Aside0.mk (ho)
                   clear HO_3; clear BK217; clear BK251; clear HB; clear HO_4; have HO_3 := n0_; have BK217 := n1_; have BK251 := n2_; have HB := n3_; have HO258 := n4_; clear n0_ n1_ n2_ n3_ n4_; clear ho hb hg hat
                   refine hK.out _ _ ⟨(blk_cell BK251.out 0).trans rfl, (blk_cell BK251.out 1).trans rfl, (blk_cell BK217.out 0).trans rfl, (blk_cell BK217.out 1).trans rfl, ((HB.out.cell (World.block_lt_of_cell? w _ hw252_0)).trans hw252_0), ((HB.out.cell (World.block_lt_of_cell? w _ hw252_1)).trans hw252_1), ((HB.out.cell (World.block_lt_of_cell? w _ hw253_0)).trans hw253_0), ((HB.out.cell (World.block_lt_of_cell? w _ hw253_1)).trans hw253_1)⟩ (fun hHeld => ?_)
                   clear hK K
                   refine norm_ (a' := ?_) ?_ ?_
                   rotate_left
                   ·show Act.put _ (some 81) _ = _
                    simp only [Act.put, List.setIfInBounds_toArray, List.set_cons_zero, List.set_cons_succ, i64_w, i32_w]
                    rfl
                   refine pure_ (i := 17) (N := some 4) (v := ?_) (a' := ?_) #[true, true, true, true, true, true, true, true, true, true, true, true, true, true, true, true, true, true] rfl rfl (any_of HT_.out (by kernel_rfl)) (fun _ _ _ h => h) (Or.inl ⟨by rfl, ?_⟩) ?_ ?_; rotate_left
                   ·intro w'
                    go_simp; with_reducible rfl
                   rotate_left
                   ·exact x9_put
                   refine done_ (done_of HT_.out (by kernel_rfl)) ?_
                   try go_wp2
                   go_roundg k2
                   case measure => have := HK1.out; have := HK2.out; omega
                   case rel => exact ⟨(y256), (wrap64 (x8_2 + 1)), (by first | rfl | (simp; done) | (simp [*]; done)), H', ⟨by have := HK1.out; have := HK2.out; omega⟩, ⟨by (with_reducible repeat (first | apply Kd.S_alloc | apply Kd.S_drewN | apply Kd.S_drew)); exact Kd.S_mono HO_3.out (fun _ hk => ⟨hk.2, hk.1⟩)⟩, ⟨by (with_reducible repeat (first | apply Kd.R_alloc | apply Kd.R_drewN | apply Kd.R_drew)); exact HO258.out⟩, ⟨by (with_reducible repeat (first | refine blk_drewN ?_ _ | refine blk_drew ?_ | refine blk_alloc ?_ _)); exact BK217.out⟩, ⟨by (with_reducible repeat (first | refine blk_drewN ?_ _ | refine blk_drew ?_ | refine blk_alloc ?_ _)); exact BK251.out⟩, ⟨by repeat (first | (with_reducible first | exact HB.out | apply below_alloc | apply pw_below_drewN | apply below_drew1 | refine below_set ?_ GE217.out | refine below_set ?_ GE251.out) | exact HB.out)⟩⟩
                  ·rw [if_neg c60] at H
                   exact absurd H (by simp)
                 ·rw [if_neg c58] at H
                  exact absurd H (by simp)
                ·rw [if_neg c57] at H
                 exact absurd H (by simp)
               ·rw [if_neg c55] at H
                exact absurd H (by simp)
              ·rw [if_neg c54] at H
               exact absurd H (by simp)
             ·rw [if_neg c53] at H
              have c53b0 : decide (x8_2 ≤ 4) = false := decide_eq_false c53
              clear c53
              by_cases c64 : 0 ≤ x6_1
              ·rw [if_pos c64] at H
               have c64b0 : decide (0 ≤ x6_1) = true := decide_eq_true c64
               clear c64
               by_cases c65 : x6_1 < (l0_0.length : Int)
               ·rw [if_pos c65] at H
                have c65b0 : decide (x6_1 < (l0_0.length : Int)) = true := decide_eq_true c65
                clear c65
                replace H := Option.bind_eq_some_iff.mp H
                obtain ⟨t260, A660, H⟩ := H
                try dsimp only at H
                have A66 := Aside0.mk A660
                clear A660
                have H' := Aside0.mk H
                clear H; have hnb67 := NB217_251.out; have hnc67 := NB251_217.out
                obtain ⟨_, _, _, _⟩ := be_2 BK217.out
                have p259 : 0 ≤ (x6_1 : Int) := of_decide_eq_true (by first | (with_reducible assumption) | assumption)
                have q259 : x6_1 < (l0_0.length : Int) := of_decide_eq_true (by first | (with_reducible assumption) | assumption)
                obtain ⟨ad259, e259, hx259_0⟩ := Kd.at_int HR0_0.out x6_1 p259 q259
                obtain rfl : ad228 = ad259 := (by injection e259)
                replace hx259_0 := cell_go HB hx259_0
                replace p259 := eq_true p259
                replace q259 := eq_true q259
                go_wp2_with (first | ((with_reducible refine gate_callee (f := 55) rfl ?_); refine goesL_ (some 141) rfl rfl Try.func55 (by kernel_rfl) rfl #[.int .i64 (rd l0_0 x6_1)] rfl z9_4 ?_; (with_reducible refine (spec_NeedOf.calls (rd l0_0 x6_1) t260 _ A66.out).mono ?_); rintro e w69 ⟨rfl, hb⟩; refine ⟨_, rfl, ?_⟩; have n0_ := Aside0.mk (Kd.S_below z9_5 hb); have n1_ := Aside0.mk (Kd.R_below z9_3 hb); have n2_ := Aside0.mk (blk_belowB BK217 z9_2 hb); have n3_ := Aside0.mk (blk_belowB BK251 z9_9 hb); have n4_ := Aside0.mk (below_step z9_7 hb); clear HO_3; clear HO_4; clear BK217; clear BK251; clear HB; have HO_3 := n0_; have HO_4 := n1_; have BK217 := n2_; have BK251 := n3_; have HB := n4_; clear n0_ n1_ n2_ n3_ n4_; (try clear hb)))
                go_roundg k2
                case measure => have := HK1.out; have := HK2.out; omega
                case rel => exact ⟨(x3_1), (x4_2), (wrap64 (x5_1 + t260)), (wrap64 (x6_1 + 1)), (by first | rfl | (simp; done) | (simp [*]; done)), (by first | rfl | (simp; done) | (simp [*]; done)), H', ⟨by have := HK1.out; have := HK2.out; omega⟩, ⟨by (with_reducible repeat (first | apply Kd.S_alloc | apply Kd.S_drewN | apply Kd.S_drew)); exact Kd.S_mono HO_3.out (fun _ hk => hk.1)⟩, ⟨by (with_reducible repeat (first | apply Kd.R_alloc | apply Kd.R_drewN | apply Kd.R_drew)); exact Kd.R_mono HO_4.out (fun _ hk => trivial)⟩, ⟨by (with_reducible repeat (first | refine blk_drewN ?_ _ | refine blk_drew ?_ | refine blk_alloc ?_ _)); exact BK217.out⟩, ⟨by repeat (first | (with_reducible first | exact HB.out | apply below_alloc | apply pw_below_drewN | apply below_drew1 | refine below_set ?_ GE217.out | refine below_set ?_ GE251.out) | exact HB.out)⟩⟩
               ·rw [if_neg c65] at H
                exact absurd H (by simp)
              ·rw [if_neg c64] at H
               exact absurd H (by simp)
          ·rw [if_neg c47] at H
           exact absurd H (by simp)
         ·rw [if_neg c46] at H
          exact absurd H (by simp)
        ·rw [if_neg c44] at H
         have c44b0 : ((rd l0_0 x6_1) == 3) = false := beq_eq_false_iff_ne.mpr c44
         have c44b1 : ((rd l0_0 x6_1) != 3) = true := bne_iff_ne.mpr c44
         by_cases c70 : (rd l0_0 x6_1) = 4
         ·rw [if_pos c70] at H
          have c70b0 : ((rd l0_0 x6_1) == 4) = true := beq_iff_eq.mpr c70
          have c70b1 : ((rd l0_0 x6_1) != 4) = false := bne_eq_false_iff_eq.mpr c70
          clear c70
          obtain ⟨ji71, hji71⟩ : ∃ j_ : Int, (wrap64 ((x4_1.length : Int) - 1)) = j_ := ⟨_, rfl⟩
          replace H : (if 0 ≤ (ji71) then (if (ji71) < (x4_1.length : Int) then (spec_FlatOf.l2 k1 x3_1 x4_1 x5_1 x6_1 1 l0_0 l0_1 ((rd_T52 x4_1 (ji71)).f0) ((rd_T52 x4_1 (ji71)).f1)) else (none)) else (none)) = some r := by first | (rw [hji71] at H; exact H) | (simp only [hji71] at H ⊢; exact H)
          have hji71w : (IntKind.i64.wrap ((x4_1.length : Int) - 1)) = ji71 := (i64_w _).trans hji71
          by_cases c72 : 0 ≤ (ji71)
          ·rw [if_pos c72] at H
           have c72b0 : decide (0 ≤ (ji71)) = true := decide_eq_true c72
           clear c72
           by_cases c73 : (ji71) < (x4_1.length : Int)
           ·rw [if_pos c73] at H
            have c73b0 : decide ((ji71) < (x4_1.length : Int)) = true := decide_eq_true c73
            clear c73
            have H' := Aside0.mk H
            clear H
            obtain ⟨_, _, _, _⟩ := be_2 BK217.out
            have p228 : 0 ≤ (x6_1 : Int) := of_decide_eq_true (by first | (with_reducible assumption) | assumption)
            have q228 : x6_1 < (l0_0.length : Int) := of_decide_eq_true (by first | (with_reducible assumption) | assumption)
            obtain ⟨ad228, e228, hx228_0⟩ := Kd.at_int HR0_0.out x6_1 p228 q228
            cases e228
            replace hx228_0 := cell_go HB hx228_0
            replace p228 := eq_true p228
            replace q228 := eq_true q228
            obtain ⟨Ao75, co75, eo75⟩ := Kd.R_slice HO_4.out
            subst eo75
            have p261 : 0 ≤ ((ji71) : Int) := of_decide_eq_true (by first | (with_reducible assumption) | assumption)
            have q261 : (ji71) < (x4_1.length : Int) := of_decide_eq_true (by first | (with_reducible assumption) | assumption)
            (try (obtain ⟨Aq261, cq261, eq261⟩ := Kd.R_slice HO_4.out; subst eq261))
            obtain ⟨ad261, e261, hx261_0, hx261_1⟩ := at_T52 (Kd.R_reads' HO_4.out).2.2 (ji71) p261 q261
            cases e261
            replace p261 := eq_true p261
            replace q261 := eq_true q261
            go_wp2_with (first | ((with_reducible refine gate_dst (N := 9) rfl ?_); refine boxz (cs := #[.int .i64 0, .int .i64 0]) (t := 52) rfl ?_; intro gb262 hg w76 hbox hb; have n0_ := Aside0.mk (Kd.S_below (Kd.S_elderB z9_5 gb262 (Nat.le_of_eq hg.symm)) hb); have n1_ := Aside0.mk (Kd.R_below (Kd.R_elderB z9_3 gb262 (Nat.le_of_eq hg.symm)) hb); have n2_ := Aside0.mk (blk_belowB BK217 z9_2 hb); have n3_ := Aside0.mk (below_step z9_1 hb); have n4_ := Aside0.mk (hbox); have n5_ := Aside0.mk (ge_go (a := w.heap.size) hg (below_size z9_1)); have n6_ := Aside0.mk (ge_go (a := w.heap.size) hg (below_size z9_1)); have n7_ := Aside0.mk (nb_lt hg (blk_ltB BK217 z9_2)); have n8_ := Aside0.mk (nb_gt hg (blk_ltB BK217 z9_2)); clear HO_3; clear HO_4; clear BK217; clear HB; have HO_3 := n0_; have HO_4 := n1_; have BK217 := n2_; have HB := n3_; have BK262 := n4_; have GW262 := n5_; have GE262 := n6_; have NB217_262 := n7_; have NB262_217 := n8_; clear n0_ n1_ n2_ n3_ n4_ n5_ n6_ n7_ n8_; clear hb hbox hg; have hnb77 := NB262_217.out; have hnc77 := NB217_262.out; obtain ⟨_, _, _, _⟩ := be_2 BK262.out))
            go_loopg [4, 10] k1 (fun kq v4 v10 w' => ∃ (x4_2 : List (S52)) (x10_2 : Int), v10 = .int .i64 x10_2 ∧ Aside0 (spec_FlatOf.l2 kq x3_1 x4_2 x5_1 x6_1 x10_2 l0_0 l0_1 ((rd_T52 x4_1 (ji71)).f0) ((rd_T52 x4_1 (ji71)).f1) = some r) ∧ Aside0 (kq ≤ k1) ∧ Aside0 (Kd.S (Kd.slice 52 k52) 29 w' w.heap.size (fun k_ => some k_ ≠ (v4 : Value).ownBlock ∧ k_ ≠ gb262) u3 x3_1) ∧ Aside0 (Kd.R k52 52 w' w.heap.size (fun k_ => k_ ≠ gb262) v4 x4_2) ∧ Aside0 (w'.heap[gb217]? = some (.cells #[(.slice (some ad228) l0_0.length c0_0), (.slice A0_1 l0_1.length c0_1)] 31 (0, 0))) ∧ Aside0 (w'.heap[gb262]? = some (.cells #[.int .i64 ((rd_T52 x4_1 (ji71)).f0), .int .i64 ((rd_T52 x4_1 (ji71)).f1)] 52 (0, 0))) ∧ Aside0 (Below w.heap.size w w'))
            case atStart => exact ⟨(x4_1), (1), (by first | rfl | (simp; done) | (simp [*]; done)), H', ⟨Nat.le_refl _⟩, ⟨by (with_reducible repeat (first | apply Kd.S_alloc | apply Kd.S_drewN | apply Kd.S_drew)); exact Kd.S_mono (Kd.S_far (p := ⟨gb262, 1, none⟩) (Kd.S_far (p := ⟨gb262, 0, none⟩) (Kd.S_mono HO_3.out (fun k_ hk => (⟨hk, hk.2⟩ : _ ∧ k_ ≠ gb262))) (fun _ hk => hk.2) (.int .i64 ((rd_T52 x4_1 (ji71)).f0))) (fun _ hk => hk.2) (.int .i64 ((rd_T52 x4_1 (ji71)).f1))) (fun _ hk => ⟨hk.1.1, hk.1.2⟩)⟩, ⟨by (with_reducible repeat (first | apply Kd.R_alloc | apply Kd.R_drewN | apply Kd.R_drew)); exact Kd.R_mono (Kd.R_far (p := ⟨gb262, 1, none⟩) (Kd.R_far (p := ⟨gb262, 0, none⟩) (Kd.R_mono HO_4.out (fun k_ hk => (⟨hk, hk.2⟩ : _ ∧ k_ ≠ gb262))) (fun _ hk => hk.2) (.int .i64 ((rd_T52 x4_1 (ji71)).f0))) (fun _ hk => hk.2) (.int .i64 ((rd_T52 x4_1 (ji71)).f1))) (fun _ hk => hk.1.2)⟩, ⟨by (with_reducible repeat (first | refine blk_drewN ?_ _ | refine blk_drew ?_ | refine blk_alloc ?_ _)); refine blk_far ?_ NB217_262.out _; (with_reducible repeat (first | refine blk_drewN ?_ _ | refine blk_drew ?_ | refine blk_alloc ?_ _)); refine blk_far ?_ NB217_262.out _; (with_reducible repeat (first | refine blk_drewN ?_ _ | refine blk_drew ?_ | refine blk_alloc ?_ _)); exact BK217.out⟩, ⟨by (with_reducible repeat (first | refine blk_drewN ?_ _ | refine blk_drew ?_ | refine blk_alloc ?_ _)); refine blk_put (cs := #[.int .i64 ((rd_T52 x4_1 (ji71)).f0), .int .i64 0]) ?_ 1 _ rfl; (with_reducible repeat (first | refine blk_drewN ?_ _ | refine blk_drew ?_ | refine blk_alloc ?_ _)); refine blk_put (cs := #[.int .i64 0, .int .i64 0]) ?_ 0 _ rfl; (with_reducible repeat (first | refine blk_drewN ?_ _ | refine blk_drew ?_ | refine blk_alloc ?_ _)); exact BK262.out⟩, ⟨by repeat (first | (with_reducible first | exact HB.out | apply below_alloc | apply pw_below_drewN | apply below_drew1 | refine below_set ?_ GE217.out | refine below_set ?_ GE262.out) | exact HB.out)⟩⟩
            case round =>
             clear H'
             try clear c1
             try clear c2
             try clear p2
             try clear q2
             try clear hx2
             try clear c3
             try clear c4
             try clear c5
             try clear c6
             try clear p6
             try clear c7
             try clear c11
             try clear c11b0
             try clear c12
             try clear c12b0
             try clear c13
             try clear c13b0
             try clear c13b1
             try clear c14
             try clear c14b0
             try clear c15
             try clear c16
             try clear c16b0
             try clear c17
             try clear c17b0
             try clear p22
             try clear q22
             try clear hx22
             try clear p23
             try clear q23
             try clear hx23
             try clear p24
             try clear q24
             try clear hx24
             try clear p25
             try clear q25
             try clear hx25
             try clear p26
             try clear q26
             try clear hx26
             try clear c27
             try clear c27b0
             try clear c28
             try clear c28b0
             try clear c35
             try clear c35b0
             try clear c35b1
             try clear c36
             try clear c36b0
             try clear c37
             try clear c37b0
             try clear c38
             try clear c44
             try clear c44b0
             try clear c44b1
             try clear c46
             try clear c46b0
             try clear c47
             try clear c47b0
             try clear c51
             try clear c52
             try clear c53
             try clear c53b0
             try clear c54
             try clear c54b0
             try clear c55
             try clear c55b0
             try clear c57
             try clear c57b0
             try clear c58
             try clear c58b0
             try clear c60
             try clear c64
             try clear c64b0
             try clear p64
             try clear c65
             try clear c65b0
             try clear c67
             try clear c70
             try clear c70b0
             try clear c70b1
             try clear c72
             try clear c72b0
             try clear c73
             try clear c73b0
             try clear c77
             try clear hcz19_0
             try clear hcz19_1
             try clear hcz22_0
             try clear hcz22_1
             try clear hcz25_0
             try clear hcz25_1
             try clear hcz30_0
             try clear hcz30_1
             try clear hcz33_0
             try clear hcz33_1
             try clear hcz40_0
             try clear hcz40_1
             try clear hcz42_0
             try clear hcz42_1
             try clear hcz48_0
             try clear hcz48_1
             try clear hcz52_0
             try clear hcz52_1
             try clear hcz68_0
             try clear hcz68_1
             try clear hcz74_0
             try clear hcz74_1
             try clear hcz78_0
             try clear hcz78_1
             try clear hcz7_0
             try clear hcz7_1
             try clear hfz19_0
             try clear hfz19_1
             try clear hfz22_0
             try clear hfz22_1
             try clear hfz25_0
             try clear hfz25_1
             try clear hfz30_0
             try clear hfz30_1
             try clear hfz33_0
             try clear hfz33_1
             try clear hfz40_0
             try clear hfz40_1
             try clear hfz42_0
             try clear hfz42_1
             try clear hfz48_0
             try clear hfz48_1
             try clear hfz52_0
             try clear hfz52_1
             try clear hfz68_0
             try clear hfz68_1
             try clear hfz74_0
             try clear hfz74_1
             try clear hfz78_0
             try clear hfz78_1
             try clear hfz7_0
             try clear hfz7_1
             try clear hx228_0
             try clear hx232_0
             try clear hx232_1
             try clear hx236_0
             try clear hx238_0
             try clear hx238_1
             try clear hx242_0
             try clear hx244_0
             try clear hx244_1
             try clear hx248_0
             try clear hx250_0
             try clear hx250_1
             try clear hx252_0
             try clear hx252_1
             try clear hx253_0
             try clear hx253_1
             try clear hx259_0
             try clear hx261_0
             try clear hx261_1
             try clear p2
             try clear p22
             try clear p228
             try clear p23
             try clear p232
             try clear p236
             try clear p238
             try clear p24
             try clear p242
             try clear p244
             try clear p248
             try clear p25
             try clear p250
             try clear p252
             try clear p253
             try clear p259
             try clear p261
             try clear p6
             try clear q2
             try clear q22
             try clear q228
             try clear q23
             try clear q232
             try clear q236
             try clear q238
             try clear q24
             try clear q242
             try clear q244
             try clear q248
             try clear q25
             try clear q250
             try clear q252
             try clear q253
             try clear q259
             try clear q261
             obtain ⟨x4_2, x10_2, rfl, HA, HK2, HO_3, HO_4, BK217, BK262, HB⟩ := hrel
             cases gk with
             | zero => exact absurd HA.out (by simp [spec_FlatOf.l2])
             | succ k2 =>
              have H := HA.out; clear HA
              simp only [spec_FlatOf.l2] at H
              by_cases c79 : x10_2 ≤ 8
              ·rw [if_pos c79] at H
               have c79b0 : decide (x10_2 ≤ 8) = true := decide_eq_true c79
               clear c79
               by_cases c80 : 0 ≤ x5_1
               ·rw [if_pos c80] at H
                have c80b0 : decide (0 ≤ x5_1) = true := decide_eq_true c80
                clear c80
                by_cases c81 : x5_1 < (l0_1.length : Int)
                ·rw [if_pos c81] at H
                 have c81b0 : decide (x5_1 < (l0_1.length : Int)) = true := decide_eq_true c81
                 clear c81
                 obtain ⟨ji82, hji82⟩ : ∃ j_ : Int, (wrap64 (x5_1 + 1)) = j_ := ⟨_, rfl⟩
                 replace H : (if 0 ≤ (ji82) then (if (ji82) < (l0_1.length : Int) then (if 0 ≤ (wrap64 (x5_1 + 2)) then (if (wrap64 (x5_1 + 2)) < (l0_1.length : Int) then ((spec_CubicAt.f k2 ((rd_T52 x4_1 (ji71)).f0) ((rd_T52 x4_1 (ji71)).f1) ((rd_T52 l0_1 x5_1).f0) ((rd_T52 l0_1 x5_1).f1) ((rd_T52 l0_1 (ji82)).f0) ((rd_T52 l0_1 (ji82)).f1) ((rd_T52 l0_1 (wrap64 (x5_1 + 2))).f0) ((rd_T52 l0_1 (wrap64 (x5_1 + 2))).f1) x10_2).bind fun bt266 => (if x4_2.length < 8796093022208 then (spec_FlatOf.l2 k2 x3_1 (x4_2 ++ [(⟨bt266.1, bt266.2⟩ : S52)]) x5_1 x6_1 (wrap64 (x10_2 + 1)) l0_0 l0_1 ((rd_T52 x4_1 (ji71)).f0) ((rd_T52 x4_1 (ji71)).f1)) else (none))) else (none)) else (none)) else (none)) else (none)) = some r := by first | (rw [hji82] at H; exact H) | (simp only [hji82] at H ⊢; exact H)
                 have hji82w : (IntKind.i64.wrap (x5_1 + 1)) = ji82 := (i64_w _).trans hji82
                 by_cases c83 : 0 ≤ (ji82)
                 ·rw [if_pos c83] at H
                  have c83b0 : decide (0 ≤ (ji82)) = true := decide_eq_true c83
                  clear c83
                  by_cases c84 : (ji82) < (l0_1.length : Int)
                  ·rw [if_pos c84] at H
                   have c84b0 : decide ((ji82) < (l0_1.length : Int)) = true := decide_eq_true c84
                   clear c84
                   obtain ⟨ji85, hji85⟩ : ∃ j_ : Int, (wrap64 (x5_1 + 2)) = j_ := ⟨_, rfl⟩
                   replace H : (if 0 ≤ (ji85) then (if (ji85) < (l0_1.length : Int) then ((spec_CubicAt.f k2 ((rd_T52 x4_1 (ji71)).f0) ((rd_T52 x4_1 (ji71)).f1) ((rd_T52 l0_1 x5_1).f0) ((rd_T52 l0_1 x5_1).f1) ((rd_T52 l0_1 (ji82)).f0) ((rd_T52 l0_1 (ji82)).f1) ((rd_T52 l0_1 (ji85)).f0) ((rd_T52 l0_1 (ji85)).f1) x10_2).bind fun bt266 => (if x4_2.length < 8796093022208 then (spec_FlatOf.l2 k2 x3_1 (x4_2 ++ [(⟨bt266.1, bt266.2⟩ : S52)]) x5_1 x6_1 (wrap64 (x10_2 + 1)) l0_0 l0_1 ((rd_T52 x4_1 (ji71)).f0) ((rd_T52 x4_1 (ji71)).f1)) else (none))) else (none)) else (none)) = some r := by first | (rw [hji85] at H; exact H) | (simp only [hji85] at H ⊢; exact H)
                   have hji85w : (IntKind.i64.wrap (x5_1 + 2)) = ji85 := (i64_w _).trans hji85
                   by_cases c86 : 0 ≤ (ji85)
                   ·rw [if_pos c86] at H
                    have c86b0 : decide (0 ≤ (ji85)) = true := decide_eq_true c86
                    clear c86
                    by_cases c87 : (ji85) < (l0_1.length : Int)
                    ·rw [if_pos c87] at H
                     have c87b0 : decide ((ji85) < (l0_1.length : Int)) = true := decide_eq_true c87
                     clear c87
                     replace H := Option.bind_eq_some_iff.mp H
                     obtain ⟨⟨t266, t267⟩, A880, H⟩ := H
                     try dsimp only at H
                     have A88 := Aside0.mk A880
                     clear A880
                     by_cases c89 : x4_2.length < 8796093022208
                     ·rw [if_pos c89] at H
                      have LMc89 := Aside0.mk c89
                      clear c89
                      obtain ⟨y268, hy268⟩ : ∃ y_ : List (S52), y_ = (x4_2 ++ [(⟨t266, t267⟩ : S52)]) := ⟨_, rfl⟩
                      replace H : (spec_FlatOf.l2 k2 x3_1 y268 x5_1 x6_1 (wrap64 (x10_2 + 1)) l0_0 l0_1 ((rd_T52 x4_1 (ji71)).f0) ((rd_T52 x4_1 (ji71)).f1)) = some r := by first | (rw [hy268]; with_reducible exact H) | (have H2_ := (Option.bind_some _ _).symm.trans H; rw [hy268]; with_reducible exact H2_) | (have H2_ := (Option.bind_some _ _).symm.trans H; with_reducible exact H2_) | with_reducible exact H | (rw [hy268]; exact H) | exact H
                      have Ny268 := Aside0.mk hy268
                      clear hy268
                      have H' := Aside0.mk H
                      clear H
                      try go_wp2
                      have n0_ := Aside0.mk (Kd.S_drew HO_3.out)
                      have n1_ := Aside0.mk (Kd.R_drew HO_4.out)
                      have n2_ := Aside0.mk (blk_drew BK217.out)
                      have n3_ := Aside0.mk (blk_drew BK262.out)
                      have n4_ := Aside0.mk (below_drew1 HB.out)
                      clear HO_3; clear HO_4; clear BK217; clear BK262; clear HB; have HO_3 := n0_; have HO_4 := n1_; have BK217 := n2_; have BK262 := n3_; have HB := n4_; clear n0_ n1_ n2_ n3_ n4_
                      have p263 : 0 ≤ (x5_1 : Int) := of_decide_eq_true (by first | (with_reducible assumption) | assumption)
                      have q263 : x5_1 < (l0_1.length : Int) := of_decide_eq_true (by first | (with_reducible assumption) | assumption)
                      obtain ⟨ad263, e263, hx263_0, hx263_1⟩ := at_T52 HR0_1.out x5_1 p263 q263
                      have hw263_1 := hx263_1; have hw263_0 := hx263_0
                      cases e263
                      replace hx263_0 := cell_go HB hx263_0
                      replace hx263_1 := cell_go HB hx263_1
                      replace p263 := eq_true p263
                      replace q263 := eq_true q263
                      have p264 : 0 ≤ ((ji82) : Int) := of_decide_eq_true (by first | (with_reducible assumption) | assumption)
                      have q264 : (ji82) < (l0_1.length : Int) := of_decide_eq_true (by first | (with_reducible assumption) | assumption)
                      obtain ⟨ad264, e264, hx264_0, hx264_1⟩ := at_T52 HR0_1.out (ji82) p264 q264
                      have hw264_1 := hx264_1; have hw264_0 := hx264_0
                      obtain rfl : ad263 = ad264 := (by injection e264)
                      replace hx264_0 := cell_go HB hx264_0
                      replace hx264_1 := cell_go HB hx264_1
                      replace p264 := eq_true p264
                      replace q264 := eq_true q264
                      have p265 : 0 ≤ ((ji85) : Int) := of_decide_eq_true (by first | (with_reducible assumption) | assumption)
                      have q265 : (ji85) < (l0_1.length : Int) := of_decide_eq_true (by first | (with_reducible assumption) | assumption)
                      obtain ⟨ad265, e265, hx265_0, hx265_1⟩ := at_T52 HR0_1.out (ji85) p265 q265
                      have hw265_1 := hx265_1; have hw265_0 := hx265_0
                      obtain rfl : ad263 = ad265 := (by injection e265)
                      replace hx265_0 := cell_go HB hx265_0
                      replace hx265_1 := cell_go HB hx265_1
                      replace p265 := eq_true p265
                      replace q265 := eq_true q265
                      refine start_ (n := 24) (S := fun w' => w'.cell? ⟨gb262, 0, none⟩ = some (.int .i64 ((rd_T52 x4_1 (ji71)).f0)) ∧ w'.cell? ⟨gb262, 1, none⟩ = some (.int .i64 ((rd_T52 x4_1 (ji71)).f1)) ∧ w'.cell? ⟨gb217, 0, none⟩ = some (.slice (some ad228) l0_0.length c0_0) ∧ w'.cell? ⟨gb217, 1, none⟩ = some (.slice (some ad263) l0_1.length c0_1) ∧ w'.cell? (ad263.add ((x5_1).toNat * 2)) = some (.int .i64 ((rd_T52 l0_1 x5_1).f0)) ∧ w'.cell? ⟨(ad263.add ((x5_1).toNat * 2)).block, (ad263.add ((x5_1).toNat * 2)).off + 1, none⟩ = some (.int .i64 ((rd_T52 l0_1 x5_1).f1)) ∧ w'.cell? (ad263.add (((ji82)).toNat * 2)) = some (.int .i64 ((rd_T52 l0_1 (ji82)).f0)) ∧ w'.cell? ⟨(ad263.add (((ji82)).toNat * 2)).block, (ad263.add (((ji82)).toNat * 2)).off + 1, none⟩ = some (.int .i64 ((rd_T52 l0_1 (ji82)).f1)) ∧ w'.cell? (ad263.add (((ji85)).toNat * 2)) = some (.int .i64 ((rd_T52 l0_1 (ji85)).f0)) ∧ w'.cell? ⟨(ad263.add (((ji85)).toNat * 2)).block, (ad263.add (((ji85)).toNat * 2)).off + 1, none⟩ = some (.int .i64 ((rd_T52 l0_1 (ji85)).f1))) (ds := []) #[false, false, false, false, false, false, false, false, false, false, false, false, false, false, false, false, false, false, false, false, false, false, false, false] (by kernel_rfl) rfl rfl ⟨(blk_cell BK262.out 0).trans rfl, (blk_cell BK262.out 1).trans rfl, (blk_cell BK217.out 0).trans rfl, (blk_cell BK217.out 1).trans rfl, ((HB.out.cell (World.block_lt_of_cell? w _ hw263_0)).trans hw263_0), ((HB.out.cell (World.block_lt_of_cell? w _ hw263_1)).trans hw263_1), ((HB.out.cell (World.block_lt_of_cell? w _ hw264_0)).trans hw264_0), ((HB.out.cell (World.block_lt_of_cell? w _ hw264_1)).trans hw264_1), ((HB.out.cell (World.block_lt_of_cell? w _ hw265_0)).trans hw265_0), ((HB.out.cell (World.block_lt_of_cell? w _ hw265_1)).trans hw265_1)⟩ (fun hHeld => ?_); refine with_tabW spec_FlatOf.tab27 spec_FlatOf.bits27 (fun HT_ HW_ => ?_)
                      generalize wr.drew = w90 at HO_3 HO_4 BK217 BK262 HB hx263_0 hx263_1 hx264_0 hx264_1 hx265_0 hx265_1 hHeld ⊢
                      refine pure_ (i := 0) (N := some 94) (v := ?_) (a' := ?_) #[true, false, false, false, false, false, false, false, false, false, false, false, false, false, false, false, false, false, false, false, false, false, false, false] rfl rfl (any_of HT_.out (by kernel_rfl)) (fun _ _ _ h => h) (Or.inl ⟨by rfl, ?_⟩) ?_ ?_; rotate_left
                      ·intro w'
                       go_simp; with_reducible rfl
                      rotate_left
                      ·exact x9_put
                      refine pure_ (i := 2) (N := some 96) (v := ?_) (a' := ?_) #[true, false, true, false, false, false, false, false, false, false, false, false, false, false, false, false, false, false, false, false, false, false, false, false] rfl rfl (any_of HT_.out (by kernel_rfl)) (fun _ _ _ h => h) (Or.inl ⟨by rfl, ?_⟩) ?_ ?_; rotate_left
                      ·intro w'
                       go_simp; with_reducible rfl
                      rotate_left
                      ·exact x9_put
                      refine pure_ (i := 4) (N := some 98) (v := ?_) (a' := ?_) #[true, false, true, false, true, false, false, false, false, false, false, false, false, false, false, false, false, false, false, false, false, false, false, false] rfl rfl (any_of HT_.out (by kernel_rfl)) (fun _ _ _ h => h) (Or.inl ⟨by rfl, ?_⟩) ?_ ?_; rotate_left
                      ·intro w'
                       go_simp; with_reducible rfl
                      rotate_left
                      ·exact x9_put
                      refine pure_ (i := 7) (N := some 101) (v := ?_) (a' := ?_) #[true, false, true, false, true, false, false, true, false, false, false, false, false, false, false, false, false, false, false, false, false, false, false, false] rfl rfl (any_of HT_.out (by kernel_rfl)) (fun _ _ _ h => h) (Or.inl ⟨by rfl, ?_⟩) ?_ ?_; rotate_left
                      ·intro w'
                       go_simp; with_reducible rfl
                      rotate_left
                      ·exact x9_put
                      refine pure_ (i := 9) (N := some 103) (v := ?_) (a' := ?_) #[true, false, true, false, true, false, false, true, false, true, false, false, false, false, false, false, false, false, false, false, false, false, false, false] rfl rfl (any_of HT_.out (by kernel_rfl)) (fun _ _ _ h => h) (Or.inl ⟨by rfl, ?_⟩) ?_ ?_; rotate_left
                      ·intro w'
                       go_simp; with_reducible rfl
                      rotate_left
                      ·exact x9_put
                      refine pure_ (i := 10) (N := some 104) (v := ?_) (a' := ?_) #[true, false, true, false, true, false, false, true, false, true, true, false, false, false, false, false, false, false, false, false, false, false, false, false] rfl rfl (any_of HT_.out (by kernel_rfl)) (fun _ _ _ h => h) (Or.inl ⟨by rfl, ?_⟩) ?_ ?_; rotate_left
                      ·intro w'
                       go_simp; with_reducible rfl
                      rotate_left
                      ·exact x9_put
                      refine pure_ (i := 13) (N := some 107) (v := ?_) (a' := ?_) #[true, false, true, false, true, false, false, true, false, true, true, false, false, true, false, false, false, false, false, false, false, false, false, false] rfl rfl (any_of HT_.out (by kernel_rfl)) (fun _ _ _ h => h) (Or.inl ⟨by rfl, ?_⟩) ?_ ?_; rotate_left
                      ·intro w'
                       go_simp; with_reducible rfl
                      rotate_left
                      ·exact x9_put
                      refine pure_ (i := 15) (N := some 109) (v := ?_) (a' := ?_) #[true, false, true, false, true, false, false, true, false, true, true, false, false, true, false, true, false, false, false, false, false, false, false, false] rfl rfl (any_of HT_.out (by kernel_rfl)) (fun _ _ _ h => h) (Or.inl ⟨by rfl, ?_⟩) ?_ ?_; rotate_left
                      ·intro w'
                       go_simp; with_reducible rfl
                      rotate_left
                      ·exact x9_put
                      refine pure_ (i := 16) (N := some 110) (v := ?_) (a' := ?_) #[true, false, true, false, true, false, false, true, false, true, true, false, false, true, false, true, true, false, false, false, false, false, false, false] rfl rfl (any_of HT_.out (by kernel_rfl)) (fun _ _ _ h => h) (Or.inl ⟨by rfl, ?_⟩) ?_ ?_; rotate_left
                      ·intro w'
                       go_simp; with_reducible rfl
                      rotate_left
                      ·exact x9_put
                      refine pure_ (i := 19) (N := some 113) (v := ?_) (a' := ?_) #[true, false, true, false, true, false, false, true, false, true, true, false, false, true, false, true, true, false, false, true, false, false, false, false] rfl rfl (any_of HT_.out (by kernel_rfl)) (fun _ _ _ h => h) (Or.inl ⟨by rfl, ?_⟩) ?_ ?_; rotate_left
                      ·intro w'
                       go_simp; with_reducible rfl
                      rotate_left
                      ·exact x9_put
                      refine take_ (i := 1) (N := some 95) (v := ?_) (a' := ?_) #[true, true, true, false, true, false, false, true, false, true, true, false, false, true, false, true, true, false, false, true, false, false, false, false] rfl rfl (take_ofW HT_.out HW_.out (by kernel_rfl)) (fun _ _ _ h => h) (Or.inl ⟨by rfl, ?_⟩) hHeld ?_ ?_
                      rotate_left
                      ·rintro w' ⟨s0, s1, s2, s3, s4, s5, s6, s7, s8, s9⟩
                       go_simp; with_reducible rfl
                      rotate_left
                      ·exact x9_put
                      refine take_ (i := 3) (N := some 97) (v := ?_) (a' := ?_) #[true, true, true, true, true, false, false, true, false, true, true, false, false, true, false, true, true, false, false, true, false, false, false, false] rfl rfl (take_ofW HT_.out HW_.out (by kernel_rfl)) (fun _ _ _ h => h) (Or.inl ⟨by rfl, ?_⟩) hHeld ?_ ?_
                      rotate_left
                      ·rintro w' ⟨s0, s1, s2, s3, s4, s5, s6, s7, s8, s9⟩
                       go_simp; with_reducible rfl
                      rotate_left
                      ·exact x9_put
                      refine pure_ (i := 5) (N := some 99) (v := ?_) (a' := ?_) #[true, true, true, true, true, true, false, true, false, true, true, false, false, true, false, true, true, false, false, true, false, false, false, false] rfl rfl (any_of HT_.out (by kernel_rfl)) (fun _ _ _ h => h) (Or.inl ⟨by rfl, ?_⟩) ?_ ?_; rotate_left
                      ·intro w'
                       go_simp; with_reducible rfl
                      rotate_left
                      ·exact x9_put
                      refine take_ (i := 6) (N := some 100) (v := ?_) (a' := ?_) #[true, true, true, true, true, true, true, true, false, true, true, false, false, true, false, true, true, false, false, true, false, false, false, false] rfl rfl (take_ofW HT_.out HW_.out (by kernel_rfl)) (fun _ _ _ h => h) (Or.inl ⟨by rfl, ?_⟩) hHeld ?_ ?_
                      rotate_left
                      ·rintro w' ⟨s0, s1, s2, s3, s4, s5, s6, s7, s8, s9⟩
                       go_simp; with_reducible rfl
                      rotate_left
                      ·exact x9_put
                      refine take_ (i := 8) (N := some 102) (v := ?_) (a' := ?_) #[true, true, true, true, true, true, true, true, true, true, true, false, false, true, false, true, true, false, false, true, false, false, false, false] rfl rfl (take_ofW HT_.out HW_.out (by kernel_rfl)) (fun _ _ _ h => h) (Or.inl ⟨by rfl, ?_⟩) hHeld ?_ ?_
                      rotate_left
                      ·rintro w' ⟨s0, s1, s2, s3, s4, s5, s6, s7, s8, s9⟩
                       go_simp; with_reducible rfl
                      rotate_left
                      ·exact x9_put
                      refine pure_ (i := 11) (N := some 105) (v := ?_) (a' := ?_) #[true, true, true, true, true, true, true, true, true, true, true, true, false, true, false, true, true, false, false, true, false, false, false, false] rfl rfl (any_of HT_.out (by kernel_rfl)) (fun _ _ _ h => h) (Or.inl ⟨by rfl, ?_⟩) ?_ ?_; rotate_left
                      ·intro w'
                       go_simp; with_reducible rfl
                      rotate_left
                      ·exact x9_put
                      refine take_ (i := 12) (N := some 106) (v := ?_) (a' := ?_) #[true, true, true, true, true, true, true, true, true, true, true, true, true, true, false, true, true, false, false, true, false, false, false, false] rfl rfl (take_ofW HT_.out HW_.out (by kernel_rfl)) (fun _ _ _ h => h) (Or.inl ⟨by rfl, ?_⟩) hHeld ?_ ?_
                      rotate_left
                      ·rintro w' ⟨s0, s1, s2, s3, s4, s5, s6, s7, s8, s9⟩
                       go_simp; with_reducible rfl
                      rotate_left
                      ·exact x9_put
                      refine take_ (i := 14) (N := some 108) (v := ?_) (a' := ?_) #[true, true, true, true, true, true, true, true, true, true, true, true, true, true, true, true, true, false, false, true, false, false, false, false] rfl rfl (take_ofW HT_.out HW_.out (by kernel_rfl)) (fun _ _ _ h => h) (Or.inl ⟨by rfl, ?_⟩) hHeld ?_ ?_
                      rotate_left
                      ·rintro w' ⟨s0, s1, s2, s3, s4, s5, s6, s7, s8, s9⟩
                       go_simp; with_reducible rfl
                      rotate_left
                      ·exact x9_put
                      refine pure_ (i := 17) (N := some 111) (v := ?_) (a' := ?_) #[true, true, true, true, true, true, true, true, true, true, true, true, true, true, true, true, true, true, false, true, false, false, false, false] rfl rfl (any_of HT_.out (by kernel_rfl)) (fun _ _ _ h => h) (Or.inl ⟨by rfl, ?_⟩) ?_ ?_; rotate_left
                      ·intro w'
                       go_simp; with_reducible rfl
                      rotate_left
                      ·exact x9_put
                      refine take_ (i := 18) (N := some 112) (v := ?_) (a' := ?_) #[true, true, true, true, true, true, true, true, true, true, true, true, true, true, true, true, true, true, true, true, false, false, false, false] rfl rfl (take_ofW HT_.out HW_.out (by kernel_rfl)) (fun _ _ _ h => h) (Or.inl ⟨by rfl, ?_⟩) hHeld ?_ ?_
                      rotate_left
                      ·rintro w' ⟨s0, s1, s2, s3, s4, s5, s6, s7, s8, s9⟩
                       go_simp; with_reducible rfl
                      rotate_left
                      ·exact x9_put
                      refine one_ (i := 20) (N := some 114) #[true, true, true, true, true, true, true, true, true, true, true, true, true, true, true, true, true, true, true, true, true, false, false, false] rfl rfl (one_of HT_.out (by kernel_rfl)) (by decide) (fun K hK => ?_)
                      refine goes_ Try.func54 (by kernel_rfl) rfl #[.agg #[.int .i64 ((rd_T52 x4_1 (ji71)).f0), .int .i64 ((rd_T52 x4_1 (ji71)).f1)], .agg #[.int .i64 ((rd_T52 l0_1 x5_1).f0), .int .i64 ((rd_T52 l0_1 x5_1).f1)], .agg #[.int .i64 ((rd_T52 l0_1 (ji82)).f0), .int .i64 ((rd_T52 l0_1 (ji82)).f1)], .agg #[.int .i64 ((rd_T52 l0_1 (ji85)).f0), .int .i64 ((rd_T52 l0_1 (ji85)).f1)], .int .i64 x10_2] (by rfl) rfl rfl (by (try simp only [List.map_toArray, List.map_cons, List.map_nil]); first | done | (simp only [hji71, hji82, hji85]; rfl) | rfl | (simp only [List.length_drop, List.length_take]; rfl)) ?_
                      with_reducible refine (spec_CubicAt.calls k2 ((rd_T52 x4_1 (ji71)).f0) ((rd_T52 x4_1 (ji71)).f1) ((rd_T52 l0_1 x5_1).f0) ((rd_T52 l0_1 x5_1).f1) ((rd_T52 l0_1 (ji82)).f0) ((rd_T52 l0_1 (ji82)).f1) ((rd_T52 l0_1 (ji85)).f0) ((rd_T52 l0_1 (ji85)).f1) x10_2 t266 t267 _ A88.out).mono ?_
                      rintro e w91 ⟨rfl, hb⟩
                      refine ⟨_, rfl, ?_⟩
                      have n0_ := Aside0.mk (Kd.S_below z9_5 hb)
                      have n1_ := Aside0.mk (Kd.R_below z9_3 hb)
                      have n2_ := Aside0.mk (blk_belowB BK217 z9_2 hb)
                      have n3_ := Aside0.mk (blk_belowB BK262 z9_10 hb)
                      have n4_ := Aside0.mk (below_step z9_8 hb)
                      clear HO_3; clear HO_4; clear BK217; clear BK262; clear HB; have HO_3 := n0_; have HO_4 := n1_; have BK217 := n2_; have BK262 := n3_; have HB := n4_; clear n0_ n1_ n2_ n3_ n4_; (try clear hb); (try clear hb2); (try clear hk); (try clear hi)
                      refine hK.out _ _ ⟨(blk_cell BK262.out 0).trans rfl, (blk_cell BK262.out 1).trans rfl, (blk_cell BK217.out 0).trans rfl, (blk_cell BK217.out 1).trans rfl, ((HB.out.cell (World.block_lt_of_cell? w _ hw263_0)).trans hw263_0), ((HB.out.cell (World.block_lt_of_cell? w _ hw263_1)).trans hw263_1), ((HB.out.cell (World.block_lt_of_cell? w _ hw264_0)).trans hw264_0), ((HB.out.cell (World.block_lt_of_cell? w _ hw264_1)).trans hw264_1), ((HB.out.cell (World.block_lt_of_cell? w _ hw265_0)).trans hw265_0), ((HB.out.cell (World.block_lt_of_cell? w _ hw265_1)).trans hw265_1)⟩ (fun hHeld => ?_)
                      clear hK K
                      refine norm_ (a' := ?_) ?_ ?_
                      rotate_left
                      ·show Act.put _ (some 114) _ = _
                       simp only [Act.put, List.setIfInBounds_toArray, List.set_cons_zero, List.set_cons_succ, i64_w, i32_w]
                       rfl
                      refine one_ (i := 21) (N := some 115) #[true, true, true, true, true, true, true, true, true, true, true, true, true, true, true, true, true, true, true, true, true, true, false, false] rfl rfl (one_of HT_.out (by kernel_rfl)) (by decide) (fun K hK => ?_)
                      refine value_ (w1 := ?_) (v := ?_) (by rfl) rfl ?_ ?_
                      rotate_left 2
                      ·go_simp
                       constructor
                       ·rfl
                       ·rfl
                      refine hK.out _ _ ⟨(blk_cell (blk_alloc BK262.out _) 0).trans rfl, (blk_cell (blk_alloc BK262.out _) 1).trans rfl, (blk_cell (blk_alloc BK217.out _) 0).trans rfl, (blk_cell (blk_alloc BK217.out _) 1).trans rfl, (World.cell?_alloc_lt _ _ _ (World.block_lt_of_cell? _ _ (((HB.out.cell (World.block_lt_of_cell? w _ hw263_0)).trans hw263_0)))).trans (((HB.out.cell (World.block_lt_of_cell? w _ hw263_0)).trans hw263_0)), (World.cell?_alloc_lt _ _ _ (World.block_lt_of_cell? _ _ (((HB.out.cell (World.block_lt_of_cell? w _ hw263_1)).trans hw263_1)))).trans (((HB.out.cell (World.block_lt_of_cell? w _ hw263_1)).trans hw263_1)), (World.cell?_alloc_lt _ _ _ (World.block_lt_of_cell? _ _ (((HB.out.cell (World.block_lt_of_cell? w _ hw264_0)).trans hw264_0)))).trans (((HB.out.cell (World.block_lt_of_cell? w _ hw264_0)).trans hw264_0)), (World.cell?_alloc_lt _ _ _ (World.block_lt_of_cell? _ _ (((HB.out.cell (World.block_lt_of_cell? w _ hw264_1)).trans hw264_1)))).trans (((HB.out.cell (World.block_lt_of_cell? w _ hw264_1)).trans hw264_1)), (World.cell?_alloc_lt _ _ _ (World.block_lt_of_cell? _ _ (((HB.out.cell (World.block_lt_of_cell? w _ hw265_0)).trans hw265_0)))).trans (((HB.out.cell (World.block_lt_of_cell? w _ hw265_0)).trans hw265_0)), (World.cell?_alloc_lt _ _ _ (World.block_lt_of_cell? _ _ (((HB.out.cell (World.block_lt_of_cell? w _ hw265_1)).trans hw265_1)))).trans (((HB.out.cell (World.block_lt_of_cell? w _ hw265_1)).trans hw265_1))⟩ (fun hHeld => ?_)
                      clear hK K
                      refine norm_ (a' := ?_) ?_ ?_
                      rotate_left
                      ·show Act.put _ (some 115) _ = _
                       simp only [Act.put, List.setIfInBounds_toArray, List.set_cons_zero, List.set_cons_succ, i64_w, i32_w]
                       rfl
                      refine one_ (i := 22) (N := some 116) #[true, true, true, true, true, true, true, true, true, true, true, true, true, true, true, true, true, true, true, true, true, true, true, false] rfl rfl (one_of HT_.out (by kernel_rfl)) (by decide) (fun K hK => ?_)
                      refine Kd.R_append_step k52 (w0 := w) w.heap.size (by rfl) (.tmp 94) (.tmp 115) 29 52 (.agg #[(.int .i64 0), (.int .i64 0)]) 16 rfl Try.underlying29 info52 rfl (by decide) (by omega) u4 x4_2 (⟨t266, t267⟩ : S52) [.int .i64 t266, .int .i64 t267] (fun k_ => k_ ≠ gb262) (fun _ => False) rfl rfl ?aP (fun _ hk => hk.elim) ?aF ?aO ?aB ?aS ?aL ?_
                      (case aP => exact k52_mkM _ _ _ (⟨t266, t267⟩ : S52))
                      (case aB => exact z9_8)
                      (case aF => exact (fun k_ hk => Kd.freshB (g := gb262) (o := .cells #[.int .i64 ((rd_T52 x4_1 (ji71)).f0), .int .i64 ((rd_T52 x4_1 (ji71)).f1)] 52 (0, 0)) z9_10 k_ hk))
                      (case aO => exact z9_3)
                      (case aS => exact (below_size z9_8))
                      (case aL => have := LMc89.out; omega)
                      intro v269 w92 ho hb hg hat
                      rw [← Ny268.out] at ho
                      have n0_ := Aside0.mk (Kd.S_after (ok := (fun k_ => k_ ≠ gb262)) z9_17 hg hat)
                      have n1_ := Aside0.mk (blk_grown (g := gb217) (o := .cells #[.slice (some ad228) l0_0.length c0_0, .slice (some ad263) l0_1.length c0_1] 31 (0, 0)) z9_2 hg (Kd.R_ne HO_4.out BK217.out (by decide)))
                      have n2_ := Aside0.mk (blk_grown (g := gb262) (o := .cells #[.int .i64 ((rd_T52 x4_1 (ji71)).f0), .int .i64 ((rd_T52 x4_1 (ji71)).f1)] 52 (0, 0)) z9_10 hg (Kd.R_away HO_4.out (fun _ hk => hk)))
                      have n3_ := Aside0.mk (hb)
                      have n4_ := Aside0.mk (ho)
                      clear HO_3; clear BK217; clear BK262; clear HB; clear HO_4; have HO_3 := n0_; have BK217 := n1_; have BK262 := n2_; have HB := n3_; have HO270 := n4_; clear n0_ n1_ n2_ n3_ n4_; clear ho hb hg hat
                      refine hK.out _ _ ⟨(blk_cell BK262.out 0).trans rfl, (blk_cell BK262.out 1).trans rfl, (blk_cell BK217.out 0).trans rfl, (blk_cell BK217.out 1).trans rfl, ((HB.out.cell (World.block_lt_of_cell? w _ hw263_0)).trans hw263_0), ((HB.out.cell (World.block_lt_of_cell? w _ hw263_1)).trans hw263_1), ((HB.out.cell (World.block_lt_of_cell? w _ hw264_0)).trans hw264_0), ((HB.out.cell (World.block_lt_of_cell? w _ hw264_1)).trans hw264_1), ((HB.out.cell (World.block_lt_of_cell? w _ hw265_0)).trans hw265_0), ((HB.out.cell (World.block_lt_of_cell? w _ hw265_1)).trans hw265_1)⟩ (fun hHeld => ?_)
                      clear hK K
                      refine norm_ (a' := ?_) ?_ ?_
                      rotate_left
                      ·show Act.put _ (some 116) _ = _
                       simp only [Act.put, List.setIfInBounds_toArray, List.set_cons_zero, List.set_cons_succ, i64_w, i32_w]
                       rfl
                      refine pure_ (i := 23) (N := some 4) (v := ?_) (a' := ?_) #[true, true, true, true, true, true, true, true, true, true, true, true, true, true, true, true, true, true, true, true, true, true, true, true] rfl rfl (any_of HT_.out (by kernel_rfl)) (fun _ _ _ h => h) (Or.inl ⟨by rfl, ?_⟩) ?_ ?_; rotate_left
                      ·intro w'
                       go_simp; with_reducible rfl
                      rotate_left
                      ·exact x9_put
                      refine done_ (done_of HT_.out (by kernel_rfl)) ?_
                      try go_wp2
                      go_roundg k2
                      case measure => have := HK1.out; have := HK2.out; omega
                      case rel => exact ⟨(y268), (wrap64 (x10_2 + 1)), (by first | rfl | (simp; done) | (simp [*]; done)), H', ⟨by have := HK1.out; have := HK2.out; omega⟩, ⟨by (with_reducible repeat (first | apply Kd.S_alloc | apply Kd.S_drewN | apply Kd.S_drew)); exact Kd.S_mono HO_3.out (fun _ hk => ⟨hk.2, hk.1⟩)⟩, ⟨by (with_reducible repeat (first | apply Kd.R_alloc | apply Kd.R_drewN | apply Kd.R_drew)); exact HO270.out⟩, ⟨by (with_reducible repeat (first | refine blk_drewN ?_ _ | refine blk_drew ?_ | refine blk_alloc ?_ _)); exact BK217.out⟩, ⟨by (with_reducible repeat (first | refine blk_drewN ?_ _ | refine blk_drew ?_ | refine blk_alloc ?_ _)); exact BK262.out⟩, ⟨by repeat (first | (with_reducible first | exact HB.out | apply below_alloc | apply pw_below_drewN | apply below_drew1 | refine below_set ?_ GE217.out | refine below_set ?_ GE262.out) | exact HB.out)⟩⟩
                     ·rw [if_neg c89] at H
                      exact absurd H (by simp)
                    ·rw [if_neg c87] at H
                     exact absurd H (by simp)
                   ·rw [if_neg c86] at H
                    exact absurd H (by simp)
                  ·rw [if_neg c84] at H
                   exact absurd H (by simp)
                 ·rw [if_neg c83] at H
                  exact absurd H (by simp)
                ·rw [if_neg c81] at H
                 exact absurd H (by simp)
               ·rw [if_neg c80] at H
                exact absurd H (by simp)
              ·rw [if_neg c79] at H
               have c79b0 : decide (x10_2 ≤ 8) = false := decide_eq_false c79
               clear c79
               by_cases c93 : 0 ≤ x6_1
               ·rw [if_pos c93] at H
                have c93b0 : decide (0 ≤ x6_1) = true := decide_eq_true c93
                clear c93
                by_cases c94 : x6_1 < (l0_0.length : Int)
                ·rw [if_pos c94] at H
                 have c94b0 : decide (x6_1 < (l0_0.length : Int)) = true := decide_eq_true c94
                 clear c94
                 replace H := Option.bind_eq_some_iff.mp H
                 obtain ⟨t272, A950, H⟩ := H
                 try dsimp only at H
                 have A95 := Aside0.mk A950
                 clear A950
                 have H' := Aside0.mk H
                 clear H; have hnb96 := NB217_262.out; have hnc96 := NB262_217.out
                 obtain ⟨_, _, _, _⟩ := be_2 BK217.out
                 have p271 : 0 ≤ (x6_1 : Int) := of_decide_eq_true (by first | (with_reducible assumption) | assumption)
                 have q271 : x6_1 < (l0_0.length : Int) := of_decide_eq_true (by first | (with_reducible assumption) | assumption)
                 obtain ⟨ad271, e271, hx271_0⟩ := Kd.at_int HR0_0.out x6_1 p271 q271
                 obtain rfl : ad228 = ad271 := (by injection e271)
                 replace hx271_0 := cell_go HB hx271_0
                 replace p271 := eq_true p271
                 replace q271 := eq_true q271
                 go_wp2_with (first | ((with_reducible refine gate_callee (f := 55) rfl ?_); refine goesL_ (some 141) rfl rfl Try.func55 (by kernel_rfl) rfl #[.int .i64 (rd l0_0 x6_1)] rfl z9_4 ?_; (with_reducible refine (spec_NeedOf.calls (rd l0_0 x6_1) t272 _ A95.out).mono ?_); rintro e w98 ⟨rfl, hb⟩; refine ⟨_, rfl, ?_⟩; have n0_ := Aside0.mk (Kd.S_below z9_5 hb); have n1_ := Aside0.mk (Kd.R_below z9_3 hb); have n2_ := Aside0.mk (blk_belowB BK217 z9_2 hb); have n3_ := Aside0.mk (blk_belowB BK262 z9_10 hb); have n4_ := Aside0.mk (below_step z9_8 hb); clear HO_3; clear HO_4; clear BK217; clear BK262; clear HB; have HO_3 := n0_; have HO_4 := n1_; have BK217 := n2_; have BK262 := n3_; have HB := n4_; clear n0_ n1_ n2_ n3_ n4_; (try clear hb)))
                 go_roundg k2
                 case measure => have := HK1.out; have := HK2.out; omega
                 case rel => exact ⟨(x3_1), (x4_2), (wrap64 (x5_1 + t272)), (wrap64 (x6_1 + 1)), (by first | rfl | (simp; done) | (simp [*]; done)), (by first | rfl | (simp; done) | (simp [*]; done)), H', ⟨by have := HK1.out; have := HK2.out; omega⟩, ⟨by (with_reducible repeat (first | apply Kd.S_alloc | apply Kd.S_drewN | apply Kd.S_drew)); exact Kd.S_mono HO_3.out (fun _ hk => hk.1)⟩, ⟨by (with_reducible repeat (first | apply Kd.R_alloc | apply Kd.R_drewN | apply Kd.R_drew)); exact Kd.R_mono HO_4.out (fun _ hk => trivial)⟩, ⟨by (with_reducible repeat (first | refine blk_drewN ?_ _ | refine blk_drew ?_ | refine blk_alloc ?_ _)); exact BK217.out⟩, ⟨by repeat (first | (with_reducible first | exact HB.out | apply below_alloc | apply pw_below_drewN | apply below_drew1 | refine below_set ?_ GE217.out | refine below_set ?_ GE262.out) | exact HB.out)⟩⟩
                ·rw [if_neg c94] at H
                 exact absurd H (by simp)
               ·rw [if_neg c93] at H
                exact absurd H (by simp)
           ·rw [if_neg c73] at H
            exact absurd H (by simp)
          ·rw [if_neg c72] at H
           exact absurd H (by simp)
         ·rw [if_neg c70] at H
          have c70b0 : ((rd l0_0 x6_1) == 4) = false := beq_eq_false_iff_ne.mpr c70
          have c70b1 : ((rd l0_0 x6_1) != 4) = true := bne_iff_ne.mpr c70
          by_cases c99 : (rd l0_0 x6_1) = 5
          ·rw [if_pos c99] at H
           have c99b0 : ((rd l0_0 x6_1) == 5) = true := beq_iff_eq.mpr c99
           have c99b1 : ((rd l0_0 x6_1) != 5) = false := bne_eq_false_iff_eq.mpr c99
           clear c99
           by_cases c100 : 0 < (x4_1.length : Int)
           ·rw [if_pos c100] at H
            have c100b0 : decide (0 < (x4_1.length : Int)) = true := decide_eq_true c100
            have c100b1 : decide (0 < x4_1.length) = true := decide_eq_true (by omega)
            clear c100
            obtain ⟨ji101, hji101⟩ : ∃ j_ : Int, (wrap64 ((x4_1.length : Int) - 1)) = j_ := ⟨_, rfl⟩
            replace H : (if 0 ≤ (ji101) then (if (ji101) < (x4_1.length : Int) then (if (!(((rd_T52 x4_1 0).f0) == ((rd_T52 x4_1 (ji101)).f0)) || (!(((rd_T52 x4_1 0).f1) == ((rd_T52 x4_1 (ji101)).f1)))) = true then (if x4_1.length < 8796093022208 then ((spec_NeedOf.f (rd l0_0 x6_1)).bind fun t280 => (spec_FlatOf.l0 k1 x3_1 (x4_1 ++ [(⟨(rd_T52 x4_1 0).f0, (rd_T52 x4_1 0).f1⟩ : S52)]) (wrap64 (x5_1 + t280)) (wrap64 (x6_1 + 1)) l0_0 l0_1)) else (none)) else ((spec_NeedOf.f (rd l0_0 x6_1)).bind fun t282 => (spec_FlatOf.l0 k1 x3_1 x4_1 (wrap64 (x5_1 + t282)) (wrap64 (x6_1 + 1)) l0_0 l0_1))) else (none)) else (none)) = some r := by first | (rw [hji101] at H; exact H) | (simp only [hji101] at H ⊢; exact H)
            have hji101w : (IntKind.i64.wrap ((x4_1.length : Int) - 1)) = ji101 := (i64_w _).trans hji101
            by_cases c102 : 0 ≤ (ji101)
            ·rw [if_pos c102] at H
             have c102b0 : decide (0 ≤ (ji101)) = true := decide_eq_true c102
             clear c102
             by_cases c103 : (ji101) < (x4_1.length : Int)
             ·rw [if_pos c103] at H
              have c103b0 : decide ((ji101) < (x4_1.length : Int)) = true := decide_eq_true c103
              clear c103
              by_cases c104 : (!(((rd_T52 x4_1 0).f0) == ((rd_T52 x4_1 (ji101)).f0)) || (!(((rd_T52 x4_1 0).f1) == ((rd_T52 x4_1 (ji101)).f1)))) = true
              ·rw [if_pos c104] at H
               have c104b0 : (!(((rd_T52 x4_1 0).f0) == ((rd_T52 x4_1 (ji101)).f0)) || (!(((rd_T52 x4_1 0).f1) == ((rd_T52 x4_1 (ji101)).f1)))) = true := c104
               clear c104
               by_cases c105 : x4_1.length < 8796093022208
               ·rw [if_pos c105] at H
                have LMc105 := Aside0.mk c105
                clear c105
                obtain ⟨y276, hy276⟩ : ∃ y_ : List (S52), y_ = (x4_1 ++ [(⟨(rd_T52 x4_1 0).f0, (rd_T52 x4_1 0).f1⟩ : S52)]) := ⟨_, rfl⟩
                replace H : ((spec_NeedOf.f (rd l0_0 x6_1)).bind fun t280 => (spec_FlatOf.l0 k1 x3_1 y276 (wrap64 (x5_1 + t280)) (wrap64 (x6_1 + 1)) l0_0 l0_1)) = some r := by first | (rw [hy276]; with_reducible exact H) | (have H2_ := (Option.bind_some _ _).symm.trans H; rw [hy276]; with_reducible exact H2_) | (have H2_ := (Option.bind_some _ _).symm.trans H; with_reducible exact H2_) | with_reducible exact H | (rw [hy276]; exact H) | exact H
                have Ny276 := Aside0.mk hy276
                clear hy276
                replace H := Option.bind_eq_some_iff.mp H
                obtain ⟨t280, A1060, H⟩ := H
                try dsimp only at H
                have A106 := Aside0.mk A1060
                clear A1060
                have H' := Aside0.mk H
                clear H
                obtain ⟨_, _, _, _⟩ := be_2 BK217.out
                have p228 : 0 ≤ (x6_1 : Int) := of_decide_eq_true (by first | (with_reducible assumption) | assumption)
                have q228 : x6_1 < (l0_0.length : Int) := of_decide_eq_true (by first | (with_reducible assumption) | assumption)
                obtain ⟨ad228, e228, hx228_0⟩ := Kd.at_int HR0_0.out x6_1 p228 q228
                cases e228
                replace hx228_0 := cell_go HB hx228_0
                replace p228 := eq_true p228
                replace q228 := eq_true q228
                try go_wp2
                have n0_ := Aside0.mk (Kd.S_drew HO_3.out)
                have n1_ := Aside0.mk (Kd.R_drew HO_4.out)
                have n2_ := Aside0.mk (blk_drew BK217.out)
                have n3_ := Aside0.mk (below_drew1 HB.out)
                clear HO_3; clear HO_4; clear BK217; clear HB; have HO_3 := n0_; have HO_4 := n1_; have BK217 := n2_; have HB := n3_; clear n0_ n1_ n2_ n3_
                obtain ⟨Ao109, co109, eo109⟩ := Kd.R_slice HO_4.out
                (first | subst eo109 | (injection eo109 with f1_ f2_ f3_; have f4_ := f1_.symm; have f5_ := f3_.symm; clear f1_ f2_ f3_; subst f4_; subst f5_))
                have p273 : 0 ≤ (0 : Int) := (by omega)
                have q273 : 0 < (x4_1.length : Int) := of_decide_eq_true (by first | (with_reducible assumption) | assumption)
                (try (obtain ⟨Aq273, cq273, eq273⟩ := Kd.R_slice HO_4.out; subst eq273))
                obtain ⟨ad273, e273, hx273_0, hx273_1⟩ := at_T52 (Kd.R_reads' HO_4.out).2.2 0 p273 q273
                cases e273
                have qi273 : (0 < x4_1.length) = True := eq_true (by omega)
                (try rw [show ((0 : Int)).toNat = 0 from rfl] at hx273_0)
                (try rw [show 0 * 2 = 0 from rfl] at hx273_0)
                (try rw [Addr.add_zero'] at hx273_0)
                (try rw [show ((0 : Int)).toNat = 0 from rfl] at hx273_1)
                (try rw [show 0 * 2 = 0 from rfl] at hx273_1)
                (try rw [Addr.add_zero'] at hx273_1)
                replace p273 := eq_true p273
                replace q273 := eq_true q273
                have p274 : 0 ≤ ((ji101) : Int) := of_decide_eq_true (by first | (with_reducible assumption) | assumption)
                have q274 : (ji101) < (x4_1.length : Int) := of_decide_eq_true (by first | (with_reducible assumption) | assumption)
                obtain ⟨ad274, e274, hx274_0, hx274_1⟩ := at_T52 (Kd.R_reads' HO_4.out).2.2 (ji101) p274 q274
                obtain rfl : ad273 = ad274 := (by injection e274)
                replace p274 := eq_true p274
                replace q274 := eq_true q274
                refine start_ (n := 10) (S := fun w' => w'.cell? ad273 = some (.int .i64 ((rd_T52 x4_1 0).f0)) ∧ w'.cell? ⟨ad273.block, ad273.off + 1, none⟩ = some (.int .i64 ((rd_T52 x4_1 0).f1)) ∧ w'.cell? (ad273.add (((ji101)).toNat * 2)) = some (.int .i64 ((rd_T52 x4_1 (ji101)).f0)) ∧ w'.cell? ⟨(ad273.add (((ji101)).toNat * 2)).block, (ad273.add (((ji101)).toNat * 2)).off + 1, none⟩ = some (.int .i64 ((rd_T52 x4_1 (ji101)).f1))) (ds := []) #[false, false, false, false, false, false, false, false, false, false] (by kernel_rfl) rfl rfl ⟨hx273_0, hx273_1, hx274_0, hx274_1⟩ (fun hHeld => ?_); refine with_tabW spec_FlatOf.tab29 spec_FlatOf.bits29 (fun HT_ HW_ => ?_)
                generalize wr.drew = w108 at HO_3 HO_4 BK217 HB hx273_0 hx273_1 hx274_0 hx274_1 hHeld ⊢
                refine pure_ (i := 0) (N := some 119) (v := ?_) (a' := ?_) #[true, false, false, false, false, false, false, false, false, false] rfl rfl (any_of HT_.out (by kernel_rfl)) (fun _ _ _ h => h) (Or.inl ⟨by rfl, ?_⟩) ?_ ?_; rotate_left
                ·intro w'
                 go_simp; with_reducible rfl
                rotate_left
                ·exact x9_put
                refine pure_ (i := 1) (N := some 120) (v := ?_) (a' := ?_) #[true, true, false, false, false, false, false, false, false, false] rfl rfl (any_of HT_.out (by kernel_rfl)) (fun _ _ _ h => h) (Or.inl ⟨by rfl, ?_⟩) ?_ ?_; rotate_left
                ·intro w'
                 go_simp; with_reducible rfl
                rotate_left
                ·exact x9_put
                refine pure_ (i := 3) (N := some 122) (v := ?_) (a' := ?_) #[true, true, false, true, false, false, false, false, false, false] rfl rfl (any_of HT_.out (by kernel_rfl)) (fun _ _ _ h => h) (Or.inl ⟨by rfl, ?_⟩) ?_ ?_; rotate_left
                ·intro w'
                 go_simp; with_reducible rfl
                rotate_left
                ·exact x9_put
                refine pure_ (i := 4) (N := some 123) (v := ?_) (a' := ?_) #[true, true, false, true, true, false, false, false, false, false] rfl rfl (any_of HT_.out (by kernel_rfl)) (fun _ _ _ h => h) (Or.inl ⟨by rfl, ?_⟩) ?_ ?_; rotate_left
                ·intro w'
                 go_simp; with_reducible rfl
                rotate_left
                ·exact x9_put
                refine pure_ (i := 5) (N := some 124) (v := ?_) (a' := ?_) #[true, true, false, true, true, true, false, false, false, false] rfl rfl (any_of HT_.out (by kernel_rfl)) (fun _ _ _ h => h) (Or.inl ⟨by rfl, ?_⟩) ?_ ?_; rotate_left
                ·intro w'
                 go_simp; with_reducible rfl
                rotate_left
                ·exact x9_put
                refine pure_ (i := 6) (N := some 125) (v := ?_) (a' := ?_) #[true, true, false, true, true, true, true, false, false, false] rfl rfl (any_of HT_.out (by kernel_rfl)) (fun _ _ _ h => h) (Or.inl ⟨by rfl, ?_⟩) ?_ ?_; rotate_left
                ·intro w'
                 go_simp; with_reducible rfl
                rotate_left
                ·exact x9_put
                refine pure_ (i := 7) (N := some 126) (v := ?_) (a' := ?_) #[true, true, false, true, true, true, true, true, false, false] rfl rfl (any_of HT_.out (by kernel_rfl)) (fun _ _ _ h => h) (Or.inl ⟨by rfl, ?_⟩) ?_ ?_; rotate_left
                ·intro w'
                 go_simp; with_reducible rfl
                rotate_left
                ·exact x9_put
                refine take_ (i := 2) (N := some 121) (v := ?_) (a' := ?_) #[true, true, true, true, true, true, true, true, false, false] rfl rfl (take_ofW HT_.out HW_.out (by kernel_rfl)) (fun _ _ _ h => h) (Or.inl ⟨by rfl, ?_⟩) hHeld ?_ ?_
                rotate_left
                ·rintro w' ⟨s0, s1, s2, s3⟩
                 go_simp; with_reducible rfl
                rotate_left
                ·exact x9_put
                refine take_ (i := 8) (N := some 127) (v := ?_) (a' := ?_) #[true, true, true, true, true, true, true, true, true, false] rfl rfl (take_ofW HT_.out HW_.out (by kernel_rfl)) (fun _ _ _ h => h) (Or.inl ⟨by rfl, ?_⟩) hHeld ?_ ?_
                rotate_left
                ·rintro w' ⟨s0, s1, s2, s3⟩
                 go_simp; with_reducible rfl
                rotate_left
                ·exact x9_put
                refine pure_ (i := 9) (N := some 128) (v := ?_) (a' := ?_) #[true, true, true, true, true, true, true, true, true, true] rfl rfl (any_of HT_.out (by kernel_rfl)) (fun _ _ _ h => h) (Or.inl ⟨by rfl, ?_⟩) ?_ ?_; rotate_left
                ·intro w'
                 go_simp; with_reducible rfl
                rotate_left
                ·exact x9_put
                refine done_ (done_of HT_.out (by kernel_rfl)) ?_
                have p275 : 0 ≤ (0 : Int) := (by omega)
                have q275 : 0 < (x4_1.length : Int) := of_decide_eq_true (by first | (with_reducible assumption) | assumption)
                obtain ⟨ad275, e275, hx275_0, hx275_1⟩ := at_T52 (Kd.R_reads' HO_4.out).2.2 0 p275 q275
                obtain rfl : ad273 = ad275 := (by injection e275)
                have qi275 : (0 < x4_1.length) = True := eq_true (by omega)
                (try rw [show ((0 : Int)).toNat = 0 from rfl] at hx275_0)
                (try rw [show 0 * 2 = 0 from rfl] at hx275_0)
                (try rw [Addr.add_zero'] at hx275_0)
                (try rw [show ((0 : Int)).toNat = 0 from rfl] at hx275_1)
                (try rw [show 0 * 2 = 0 from rfl] at hx275_1)
                (try rw [Addr.add_zero'] at hx275_1)
                replace p275 := eq_true p275
                replace q275 := eq_true q275
                try go_wp2_with (first | ((with_reducible refine gate_builtin (b := .append) (xs := #[.tmp 129, .tmp 133]) rfl ?_); at_builtin; refine Kd.R_append k52 (w0 := w) w.heap.size rfl (.tmp 129) (.tmp 133) 29 52 (.agg #[(.int .i64 0), (.int .i64 0)]) 16 rfl Try.underlying29 info52 rfl (by decide) (by omega) (.slice (some ad273) x4_1.length co109) x4_1 (⟨(rd_T52 x4_1 0).f0, (rd_T52 x4_1 0).f1⟩ : S52) [.int .i64 ((rd_T52 x4_1 0).f0), .int .i64 ((rd_T52 x4_1 0).f1)] (fun _ => True) (fun _ => False) rfl rfl ?aP (fun _ hk => hk.elim) ?aF ?aO ?aB ?aS ?aL ?_; (case aP => exact k52_mkM _ _ _ (⟨(rd_T52 x4_1 0).f0, (rd_T52 x4_1 0).f1⟩ : S52)); (case aB => exact z9_1); (case aF => exact (fun _ _ => trivial)); (case aO => exact z9_3); (case aS => exact (below_size z9_1)); (case aL => have := LMc105.out; omega); intro v277 w110 ho hb hg hat; rw [← Ny276.out] at ho; have n0_ := Aside0.mk (Kd.S_after (ok := (fun _ => True)) z9_16 hg hat); have n1_ := Aside0.mk (blk_grown (g := gb217) (o := .cells #[.slice (some ad228) l0_0.length c0_0, .slice A0_1 l0_1.length c0_1] 31 (0, 0)) z9_2 hg (Kd.R_ne HO_4.out BK217.out (by decide))); have n2_ := Aside0.mk (hb); have n3_ := Aside0.mk (ho); clear HO_3; clear BK217; clear HB; clear HO_4; have HO_3 := n0_; have BK217 := n1_; have HB := n2_; have HO278 := n3_; clear n0_ n1_ n2_ n3_; clear ho hb hg hat; obtain ⟨_, _, _, _⟩ := be_2 BK217.out; have p279 : 0 ≤ (x6_1 : Int) := of_decide_eq_true (by first | (with_reducible assumption) | assumption); have q279 : x6_1 < (l0_0.length : Int) := of_decide_eq_true (by first | (with_reducible assumption) | assumption); obtain ⟨ad279, e279, hx279_0⟩ := Kd.at_int HR0_0.out x6_1 p279 q279; obtain rfl : ad228 = ad279 := (by injection e279); replace hx279_0 := cell_go HB hx279_0; replace p279 := eq_true p279; replace q279 := eq_true q279) | ((with_reducible refine gate_callee (f := 55) rfl ?_); refine goesL_ (some 141) rfl rfl Try.func55 (by kernel_rfl) rfl #[.int .i64 (rd l0_0 x6_1)] rfl z9_4 ?_; (with_reducible refine (spec_NeedOf.calls (rd l0_0 x6_1) t280 _ A106.out).mono ?_); rintro e w112 ⟨rfl, hb⟩; refine ⟨_, rfl, ?_⟩; have n0_ := Aside0.mk (Kd.S_below z9_5 hb); have n1_ := Aside0.mk (Kd.R_below (by (with_reducible repeat (first | apply Kd.R_alloc | apply Kd.R_drewN | apply Kd.R_drew)); exact HO278.out) hb); have n2_ := Aside0.mk (blk_belowB BK217 z9_2 hb); have n3_ := Aside0.mk (below_step z9_1 hb); clear HO_3; clear HO278; clear BK217; clear HB; have HO_3 := n0_; have HO278 := n1_; have BK217 := n2_; have HB := n3_; clear n0_ n1_ n2_ n3_; (try clear hb); (try clear hk)))
                go_roundg k1
                case measure => have := HK1.out; omega
                case rel => exact ⟨(x3_1), (y276), (wrap64 (x5_1 + t280)), (wrap64 (x6_1 + 1)), (by first | rfl | (simp; done) | (simp [*]; done)), (by first | rfl | (simp; done) | (simp [*]; done)), H', ⟨by have := HK1.out; omega⟩, ⟨by (with_reducible repeat (first | apply Kd.S_alloc | apply Kd.S_drewN | apply Kd.S_drew)); exact Kd.S_mono HO_3.out (fun _ hk => hk.2)⟩, ⟨by (with_reducible repeat (first | apply Kd.R_alloc | apply Kd.R_drewN | apply Kd.R_drew)); exact HO278.out⟩, ⟨by (with_reducible repeat (first | refine blk_drewN ?_ _ | refine blk_drew ?_ | refine blk_alloc ?_ _)); exact BK217.out⟩, ⟨by repeat (first | (with_reducible first | exact HB.out | apply below_alloc | apply pw_below_drewN | apply below_drew1 | refine below_set ?_ GE217.out) | exact HB.out)⟩⟩
               ·rw [if_neg c105] at H
                exact absurd H (by simp)
              ·rw [if_neg c104] at H
               have c104b0 : (!(((rd_T52 x4_1 0).f0) == ((rd_T52 x4_1 (ji101)).f0)) || (!(((rd_T52 x4_1 0).f1) == ((rd_T52 x4_1 (ji101)).f1)))) = false := by simpa using c104
               clear c104
               replace H := Option.bind_eq_some_iff.mp H
               obtain ⟨t282, A1130, H⟩ := H
               try dsimp only at H
               have A113 := Aside0.mk A1130
               clear A1130
               have H' := Aside0.mk H
               clear H
               obtain ⟨_, _, _, _⟩ := be_2 BK217.out
               have p228 : 0 ≤ (x6_1 : Int) := of_decide_eq_true (by first | (with_reducible assumption) | assumption)
               have q228 : x6_1 < (l0_0.length : Int) := of_decide_eq_true (by first | (with_reducible assumption) | assumption)
               obtain ⟨ad228, e228, hx228_0⟩ := Kd.at_int HR0_0.out x6_1 p228 q228
               cases e228
               replace hx228_0 := cell_go HB hx228_0
               replace p228 := eq_true p228
               replace q228 := eq_true q228
               try go_wp2
               have n0_ := Aside0.mk (Kd.S_drew HO_3.out)
               have n1_ := Aside0.mk (Kd.R_drew HO_4.out)
               have n2_ := Aside0.mk (blk_drew BK217.out)
               have n3_ := Aside0.mk (below_drew1 HB.out)
               clear HO_3; clear HO_4; clear BK217; clear HB; have HO_3 := n0_; have HO_4 := n1_; have BK217 := n2_; have HB := n3_; clear n0_ n1_ n2_ n3_
               obtain ⟨Ao116, co116, eo116⟩ := Kd.R_slice HO_4.out
               (first | subst eo116 | (injection eo116 with f1_ f2_ f3_; have f4_ := f1_.symm; have f5_ := f3_.symm; clear f1_ f2_ f3_; subst f4_; subst f5_))
               have p273 : 0 ≤ (0 : Int) := (by omega)
               have q273 : 0 < (x4_1.length : Int) := of_decide_eq_true (by first | (with_reducible assumption) | assumption)
               (try (obtain ⟨Aq273, cq273, eq273⟩ := Kd.R_slice HO_4.out; subst eq273))
               obtain ⟨ad273, e273, hx273_0, hx273_1⟩ := at_T52 (Kd.R_reads' HO_4.out).2.2 0 p273 q273
               cases e273
               have qi273 : (0 < x4_1.length) = True := eq_true (by omega)
               (try rw [show ((0 : Int)).toNat = 0 from rfl] at hx273_0)
               (try rw [show 0 * 2 = 0 from rfl] at hx273_0)
               (try rw [Addr.add_zero'] at hx273_0)
               (try rw [show ((0 : Int)).toNat = 0 from rfl] at hx273_1)
               (try rw [show 0 * 2 = 0 from rfl] at hx273_1)
               (try rw [Addr.add_zero'] at hx273_1)
               replace p273 := eq_true p273
               replace q273 := eq_true q273
               have p274 : 0 ≤ ((ji101) : Int) := of_decide_eq_true (by first | (with_reducible assumption) | assumption)
               have q274 : (ji101) < (x4_1.length : Int) := of_decide_eq_true (by first | (with_reducible assumption) | assumption)
               obtain ⟨ad274, e274, hx274_0, hx274_1⟩ := at_T52 (Kd.R_reads' HO_4.out).2.2 (ji101) p274 q274
               obtain rfl : ad273 = ad274 := (by injection e274)
               replace p274 := eq_true p274
               replace q274 := eq_true q274
               refine start_ (n := 10) (S := fun w' => w'.cell? ad273 = some (.int .i64 ((rd_T52 x4_1 0).f0)) ∧ w'.cell? ⟨ad273.block, ad273.off + 1, none⟩ = some (.int .i64 ((rd_T52 x4_1 0).f1)) ∧ w'.cell? (ad273.add (((ji101)).toNat * 2)) = some (.int .i64 ((rd_T52 x4_1 (ji101)).f0)) ∧ w'.cell? ⟨(ad273.add (((ji101)).toNat * 2)).block, (ad273.add (((ji101)).toNat * 2)).off + 1, none⟩ = some (.int .i64 ((rd_T52 x4_1 (ji101)).f1))) (ds := []) #[false, false, false, false, false, false, false, false, false, false] (by kernel_rfl) rfl rfl ⟨hx273_0, hx273_1, hx274_0, hx274_1⟩ (fun hHeld => ?_); refine with_tabW spec_FlatOf.tab29 spec_FlatOf.bits29 (fun HT_ HW_ => ?_)
               generalize wr.drew = w115 at HO_3 HO_4 BK217 HB hx273_0 hx273_1 hx274_0 hx274_1 hHeld ⊢
               refine pure_ (i := 0) (N := some 119) (v := ?_) (a' := ?_) #[true, false, false, false, false, false, false, false, false, false] rfl rfl (any_of HT_.out (by kernel_rfl)) (fun _ _ _ h => h) (Or.inl ⟨by rfl, ?_⟩) ?_ ?_; rotate_left
               ·intro w'
                go_simp; with_reducible rfl
               rotate_left
               ·exact x9_put
               refine pure_ (i := 1) (N := some 120) (v := ?_) (a' := ?_) #[true, true, false, false, false, false, false, false, false, false] rfl rfl (any_of HT_.out (by kernel_rfl)) (fun _ _ _ h => h) (Or.inl ⟨by rfl, ?_⟩) ?_ ?_; rotate_left
               ·intro w'
                go_simp; with_reducible rfl
               rotate_left
               ·exact x9_put
               refine pure_ (i := 3) (N := some 122) (v := ?_) (a' := ?_) #[true, true, false, true, false, false, false, false, false, false] rfl rfl (any_of HT_.out (by kernel_rfl)) (fun _ _ _ h => h) (Or.inl ⟨by rfl, ?_⟩) ?_ ?_; rotate_left
               ·intro w'
                go_simp; with_reducible rfl
               rotate_left
               ·exact x9_put
               refine pure_ (i := 4) (N := some 123) (v := ?_) (a' := ?_) #[true, true, false, true, true, false, false, false, false, false] rfl rfl (any_of HT_.out (by kernel_rfl)) (fun _ _ _ h => h) (Or.inl ⟨by rfl, ?_⟩) ?_ ?_; rotate_left
               ·intro w'
                go_simp; with_reducible rfl
               rotate_left
               ·exact x9_put
               refine pure_ (i := 5) (N := some 124) (v := ?_) (a' := ?_) #[true, true, false, true, true, true, false, false, false, false] rfl rfl (any_of HT_.out (by kernel_rfl)) (fun _ _ _ h => h) (Or.inl ⟨by rfl, ?_⟩) ?_ ?_; rotate_left
               ·intro w'
                go_simp; with_reducible rfl
               rotate_left
               ·exact x9_put
               refine pure_ (i := 6) (N := some 125) (v := ?_) (a' := ?_) #[true, true, false, true, true, true, true, false, false, false] rfl rfl (any_of HT_.out (by kernel_rfl)) (fun _ _ _ h => h) (Or.inl ⟨by rfl, ?_⟩) ?_ ?_; rotate_left
               ·intro w'
                go_simp; with_reducible rfl
               rotate_left
               ·exact x9_put
               refine pure_ (i := 7) (N := some 126) (v := ?_) (a' := ?_) #[true, true, false, true, true, true, true, true, false, false] rfl rfl (any_of HT_.out (by kernel_rfl)) (fun _ _ _ h => h) (Or.inl ⟨by rfl, ?_⟩) ?_ ?_; rotate_left
               ·intro w'
                go_simp; with_reducible rfl
               rotate_left
               ·exact x9_put
               refine take_ (i := 2) (N := some 121) (v := ?_) (a' := ?_) #[true, true, true, true, true, true, true, true, false, false] rfl rfl (take_ofW HT_.out HW_.out (by kernel_rfl)) (fun _ _ _ h => h) (Or.inl ⟨by rfl, ?_⟩) hHeld ?_ ?_
               rotate_left
               ·rintro w' ⟨s0, s1, s2, s3⟩
                go_simp; with_reducible rfl
               rotate_left
               ·exact x9_put
               refine take_ (i := 8) (N := some 127) (v := ?_) (a' := ?_) #[true, true, true, true, true, true, true, true, true, false] rfl rfl (take_ofW HT_.out HW_.out (by kernel_rfl)) (fun _ _ _ h => h) (Or.inl ⟨by rfl, ?_⟩) hHeld ?_ ?_
               rotate_left
               ·rintro w' ⟨s0, s1, s2, s3⟩
                go_simp; with_reducible rfl
               rotate_left
               ·exact x9_put
               refine pure_ (i := 9) (N := some 128) (v := ?_) (a' := ?_) #[true, true, true, true, true, true, true, true, true, true] rfl rfl (any_of HT_.out (by kernel_rfl)) (fun _ _ _ h => h) (Or.inl ⟨by rfl, ?_⟩) ?_ ?_; rotate_left
               ·intro w'
                go_simp; with_reducible rfl
               rotate_left
               ·exact x9_put
               refine done_ (done_of HT_.out (by kernel_rfl)) ?_
               obtain ⟨_, _, _, _⟩ := be_2 BK217.out
               have p281 : 0 ≤ (x6_1 : Int) := of_decide_eq_true (by first | (with_reducible assumption) | assumption)
               have q281 : x6_1 < (l0_0.length : Int) := of_decide_eq_true (by first | (with_reducible assumption) | assumption)
               obtain ⟨ad281, e281, hx281_0⟩ := Kd.at_int HR0_0.out x6_1 p281 q281
               obtain rfl : ad228 = ad281 := (by injection e281)
               replace hx281_0 := cell_go HB hx281_0
               replace p281 := eq_true p281
               replace q281 := eq_true q281
               try go_wp2_with (first | ((with_reducible refine gate_callee (f := 55) rfl ?_); refine goesL_ (some 141) rfl rfl Try.func55 (by kernel_rfl) rfl #[.int .i64 (rd l0_0 x6_1)] rfl z9_4 ?_; (with_reducible refine (spec_NeedOf.calls (rd l0_0 x6_1) t282 _ A113.out).mono ?_); rintro e w118 ⟨rfl, hb⟩; refine ⟨_, rfl, ?_⟩; have n0_ := Aside0.mk (Kd.S_below z9_5 hb); have n1_ := Aside0.mk (Kd.R_below z9_3 hb); have n2_ := Aside0.mk (blk_belowB BK217 z9_2 hb); have n3_ := Aside0.mk (below_step z9_1 hb); clear HO_3; clear HO_4; clear BK217; clear HB; have HO_3 := n0_; have HO_4 := n1_; have BK217 := n2_; have HB := n3_; clear n0_ n1_ n2_ n3_; (try clear hb)))
               go_roundg k1
               case measure => have := HK1.out; omega
               case rel => exact ⟨(x3_1), (x4_1), (wrap64 (x5_1 + t282)), (wrap64 (x6_1 + 1)), (by first | rfl | (simp; done) | (simp [*]; done)), (by first | rfl | (simp; done) | (simp [*]; done)), H', ⟨by have := HK1.out; omega⟩, ⟨by (with_reducible repeat (first | apply Kd.S_alloc | apply Kd.S_drewN | apply Kd.S_drew)); exact HO_3.out⟩, ⟨by (with_reducible repeat (first | apply Kd.R_alloc | apply Kd.R_drewN | apply Kd.R_drew)); exact HO_4.out⟩, ⟨by (with_reducible repeat (first | refine blk_drewN ?_ _ | refine blk_drew ?_ | refine blk_alloc ?_ _)); exact BK217.out⟩, ⟨by repeat (first | (with_reducible first | exact HB.out | apply below_alloc | apply pw_below_drewN | apply below_drew1 | refine below_set ?_ GE217.out) | exact HB.out)⟩⟩
             ·rw [if_neg c103] at H
              exact absurd H (by simp)
            ·rw [if_neg c102] at H
             exact absurd H (by simp)
           ·rw [if_neg c100] at H
            exact absurd H (by simp)
          ·rw [if_neg c99] at H
           have c99b0 : ((rd l0_0 x6_1) == 5) = false := beq_eq_false_iff_ne.mpr c99
           have c99b1 : ((rd l0_0 x6_1) != 5) = true := bne_iff_ne.mpr c99
           replace H := Option.bind_eq_some_iff.mp H
           obtain ⟨t284, A1190, H⟩ := H
           try dsimp only at H
           have A119 := Aside0.mk A1190
           clear A1190
           have H' := Aside0.mk H
           clear H
           obtain ⟨_, _, _, _⟩ := be_2 BK217.out
           have p228 : 0 ≤ (x6_1 : Int) := of_decide_eq_true (by first | (with_reducible assumption) | assumption)
           have q228 : x6_1 < (l0_0.length : Int) := of_decide_eq_true (by first | (with_reducible assumption) | assumption)
           obtain ⟨ad228, e228, hx228_0⟩ := Kd.at_int HR0_0.out x6_1 p228 q228
           cases e228
           replace hx228_0 := cell_go HB hx228_0
           replace p228 := eq_true p228
           replace q228 := eq_true q228
           have p283 : 0 ≤ (x6_1 : Int) := of_decide_eq_true (by first | (with_reducible assumption) | assumption)
           have q283 : x6_1 < (l0_0.length : Int) := of_decide_eq_true (by first | (with_reducible assumption) | assumption)
           obtain ⟨ad283, e283, hx283_0⟩ := Kd.at_int HR0_0.out x6_1 p283 q283
           obtain rfl : ad228 = ad283 := (by injection e283)
           replace hx283_0 := cell_go HB hx283_0
           replace p283 := eq_true p283
           replace q283 := eq_true q283
           go_wp2_with (first | ((with_reducible refine gate_callee (f := 55) rfl ?_); refine goesL_ (some 141) rfl rfl Try.func55 (by kernel_rfl) rfl #[.int .i64 (rd l0_0 x6_1)] rfl z9_4 ?_; (with_reducible refine (spec_NeedOf.calls (rd l0_0 x6_1) t284 _ A119.out).mono ?_); rintro e w121 ⟨rfl, hb⟩; refine ⟨_, rfl, ?_⟩; have n0_ := Aside0.mk (Kd.S_below z9_5 hb); have n1_ := Aside0.mk (Kd.R_below z9_3 hb); have n2_ := Aside0.mk (blk_belowB BK217 z9_2 hb); have n3_ := Aside0.mk (below_step z9_1 hb); clear HO_3; clear HO_4; clear BK217; clear HB; have HO_3 := n0_; have HO_4 := n1_; have BK217 := n2_; have HB := n3_; clear n0_ n1_ n2_ n3_; (try clear hb)))
           go_roundg k1
           case measure => have := HK1.out; omega
           case rel => exact ⟨(x3_1), (x4_1), (wrap64 (x5_1 + t284)), (wrap64 (x6_1 + 1)), (by first | rfl | (simp; done) | (simp [*]; done)), (by first | rfl | (simp; done) | (simp [*]; done)), H', ⟨by have := HK1.out; omega⟩, ⟨by (with_reducible repeat (first | apply Kd.S_alloc | apply Kd.S_drewN | apply Kd.S_drew)); exact HO_3.out⟩, ⟨by (with_reducible repeat (first | apply Kd.R_alloc | apply Kd.R_drewN | apply Kd.R_drew)); exact HO_4.out⟩, ⟨by (with_reducible repeat (first | refine blk_drewN ?_ _ | refine blk_drew ?_ | refine blk_alloc ?_ _)); exact BK217.out⟩, ⟨by repeat (first | (with_reducible first | exact HB.out | apply below_alloc | apply pw_below_drewN | apply below_drew1 | refine below_set ?_ GE217.out) | exact HB.out)⟩⟩
     ·rw [if_neg c12] at H
      exact absurd H (by simp)
    ·rw [if_neg c11] at H
     have c11b0 : decide (x6_1 < (l0_0.length : Int)) = false := decide_eq_false c11
     clear c11
     by_cases c122 : (x4_1.length : Int) > 0
     ·rw [if_pos c122] at H
      have c122b0 : decide (0 < (x4_1.length : Int)) = true := decide_eq_true c122
      have c122b1 : decide (0 < x4_1.length) = true := decide_eq_true (by omega)
      clear c122
      by_cases c123 : x3_1.length < 5864062014805
      ·rw [if_pos c123] at H
       have LMc123 := Aside0.mk c123
       clear c123
       obtain ⟨y225, hy225⟩ : ∃ y_ : List (List (S52)), y_ = (x3_1 ++ [x4_1]) := ⟨_, rfl⟩
       replace H : (some y225) = some r := by first | (rw [hy225]; with_reducible exact H) | (have H2_ := (Option.bind_some _ _).symm.trans H; rw [hy225]; with_reducible exact H2_) | (have H2_ := (Option.bind_some _ _).symm.trans H; with_reducible exact H2_) | with_reducible exact H | (rw [hy225]; exact H) | exact H
       have Ny225 := Aside0.mk hy225
       clear hy225
       obtain rfl := Option.some.inj H
       simp only [Option.some.injEq, Prod.mk.injEq] at H
       obtain ⟨rfl⟩ := H
       obtain ⟨_, _, _, _⟩ := be_2 BK217.out
       obtain ⟨Ao125, co125, eo125⟩ := Kd.R_slice HO_4.out
       subst eo125
       go_wp2_with (first | ((with_reducible refine gate_builtin (b := .append) (xs := #[.tmp 146, .tmp 148]) rfl ?_); at_builtin; refine Kd.S_append (Kd.slice 52 k52) (w0 := w) w.heap.size rfl (.tmp 146) (.tmp 148) 27 29 (.slice none 0 0) 24 rfl Try.underlying27 info29 rfl (by decide) (by omega) u3 x3_1 x4_1 [.slice Ao125 x4_1.length co125] (fun _ => True) (fun k_ => some k_ = (.slice Ao125 x4_1.length co125 : Value).ownBlock) rfl rfl ?aP (fun k_ hk_ => ((Kd.R_mono (ok' := fun k_ => ((fun _ => True)) k_ ∧ some k_ ≠ (u3 : Value).ownBlock) (Kd.R_apart' (HO_4.out) (Kd.S_typed HO_3.out) (by decide)) (fun k_ hk => ⟨trivial, hk.2⟩))).1 k_ hk_.symm) ?aF ?aO ?aB ?aS ?aL ?_; (case aP => exact Kd.M_row (Kd.R_mono (Kd.R_tight rfl (Kd.R_mono (ok' := fun k_ => ((fun _ => True)) k_ ∧ some k_ ≠ (u3 : Value).ownBlock) (Kd.R_apart' (HO_4.out) (Kd.S_typed HO_3.out) (by decide)) (fun k_ hk => ⟨trivial, hk.2⟩))) (fun _ h_ => h_))); (case aB => exact z9_1); (case aF => exact (fun _ _ => trivial)); (case aO => exact z9_15); (case aS => exact (below_size z9_1)); (case aL => have := LMc123.out; omega); intro v226 w126 ho hb hg hat; rw [← Ny225.out] at ho; have n0_ := Aside0.mk (blk_grown (g := gb217) (o := .cells #[.slice A0_0 l0_0.length c0_0, .slice A0_1 l0_1.length c0_1] 31 (0, 0)) z9_2 hg (Kd.S_ne HO_3.out BK217.out (by decide))); have n1_ := Aside0.mk (hb); have n2_ := Aside0.mk (ho); clear BK217; clear HB; clear HO_3; clear HO_4; have BK217 := n0_; have HB := n1_; have HO227 := n2_; clear n0_ n1_ n2_; clear ho hb hg hat))
       go_ret
       exact ⟨_, z9_12, (by (with_reducible repeat (first | apply Kd.S_alloc | apply Kd.S_drewN | apply Kd.S_drew)); exact HO227.out), z9_1⟩
      ·rw [if_neg c123] at H
       exact absurd H (by simp)
     ·rw [if_neg c122] at H
      have c122b0 : decide (0 < (x4_1.length : Int)) = false := decide_eq_false c122
      have c122b1 : decide (0 < x4_1.length) = false := decide_eq_false (by omega)
      clear c122
      obtain rfl := Option.some.inj H
      simp only [Option.some.injEq, Prod.mk.injEq] at H
      obtain ⟨rfl⟩ := H
      obtain ⟨_, _, _, _⟩ := be_2 BK217.out
      obtain ⟨Ao128, co128, eo128⟩ := Kd.R_slice HO_4.out
      subst eo128
      go_wp2
      go_ret
      exact ⟨_, z9_12, (by (with_reducible repeat (first | apply Kd.S_alloc | apply Kd.S_drewN | apply Kd.S_drew)); exact Kd.S_mono HO_3.out (fun _ hk => trivial)), z9_1⟩
 ·replace c3 := Bool.eq_false_iff.mpr c3
  subst c3
  have H1 : (some y218) = some r := by rw [if_neg (show ¬ (false = true) by decide)] at H; exact H
  clear H; have H := H1; clear H1
  obtain rfl := Option.some.inj H
  simp only [Option.some.injEq, Prod.mk.injEq] at H
  obtain ⟨rfl⟩ := H
  go_enter Try.func11, Try.ntmps11
  go_wp2_with (first | ((with_reducible refine gate_dst (N := 1) rfl ?_); refine boxz (cs := #[.slice A0_0 l0_0.length c0_0, .slice A0_1 l0_1.length c0_1]) (t := 31) rfl ?_; intro gb217 hg w129 hbox hb; have n0_ := Aside0.mk (below_step z9_6 hb); have n1_ := Aside0.mk (hbox); have n2_ := Aside0.mk (ge_go (a := w.heap.size) hg (below_size z9_6)); have n3_ := Aside0.mk (ge_go (a := w.heap.size) hg (below_size z9_6)); clear HB; have HB := n0_; have BK217 := n1_; have GW217 := n2_; have GE217 := n3_; clear n0_ n1_ n2_ n3_; clear hb hbox hg) | ((with_reducible refine gate_dst (N := 11) rfl ?_); refine Kd.S_lit (Kd.slice 52 k52) _ 29 ?hg (N := 11) ?hd (xs := ([] : List (List (S52)))) (inner := []) (ok := fun _ => True) (okp := fun _ => True) ?hr ?hp (fun _ hk => hk) trivial (Below.refl _ _) (Nat.le_refl _) (by simp) ?_; (case hd => rfl); (case hg => rfl); (case hr => first | (go_simp; done) | (go_simp; rfl)); (case hp => exact (Reps.none _ _)); intro v219 w130 ho131 hb hg_ hnew_; clear hg_ hnew_; (first | rw [← Ny218.out] at ho131 | (simp only [Int.reduceToNat] at ho131; rw [← Ny218.out] at ho131)); have n0_ := Aside0.mk (Kd.S_lower ho131 (below_size z9_1)); have n1_ := Aside0.mk (blk_belowB BK217 z9_2 hb); have n2_ := Aside0.mk (below_step z9_1 hb); clear BK217; clear HB; have HO220 := n0_; have BK217 := n1_; have HB := n2_; clear n0_ n1_ n2_; clear hb ho131; obtain ⟨_, _, _, _⟩ := be_2 BK217.out) | ((with_reducible refine gate_callee (f := 52) rfl ?_); refine goesL_ (some 13) rfl rfl Try.func52 (by kernel_rfl) rfl #[.agg #[.slice A0_0 l0_0.length c0_0, .slice A0_1 l0_1.length c0_1]] rfl z9_4 ?_; (with_reducible refine (spec_PathOk.calls k _ _ l0_0 _ _ l0_1 false _ ?side1 ?side2 ?side3 ?side4 A2.out).mono ?_); (case side1 => exact z9_13); (case side2 => exact HC0_0.out); (case side3 => exact z9_14); (case side4 => exact HC0_1.out); rintro e w133 ⟨rfl, hb⟩; refine ⟨_, rfl, ?_⟩; have n0_ := Aside0.mk (Kd.S_below z9_11 hb); have n1_ := Aside0.mk (blk_belowB BK217 z9_2 hb); have n2_ := Aside0.mk (below_step z9_1 hb); clear HO220; clear BK217; clear HB; have HO220 := n0_; have BK217 := n1_; have HB := n2_; clear n0_ n1_ n2_; (try clear hb); (try clear hk)))
  go_ret
  exact ⟨_, z9_12, z9_11, z9_1⟩

end Go.Proofs.Ytghbenapnhcllaa.MFnMaskOf
