/- Functions of the program as Lean functions, and the proof that a call comes to just these: machine text of this session's own program (myprint.py). -/
import Derived.Test.YtgdlbilpfmjeaaaMFnExactMaskByx0
import Derived.Test.YtgdlbilpfmjeaaaMFnExactMaskByx1
import Derived.Test.YtgdlbilpfmjeaaaMFnExactMaskByx6
import Derived.Test.YtgdlbilpfmjeaaaMFnExactMaskByx8
namespace Go.Proofs.Ytgdlbilpfmjeaaa.MFnExactMaskBy
open Go.RowKit Go.Proofs.YtgdlbilpfmjeaaaW.PrintWords Go.Proofs.YtgdlbilpfmjeaaaW.PrintLast Go.Proofs.YtgdlbilpfmjeaaaW.PrintMore
attribute [local go_sem] max2_int min2_int max_two min_two max_three min_three max_four min_four   -- for this text's walks alone
set_option linter.unusedVariables false
set_option linter.unusedSimpArgs false

attribute [local go_sem high] eqA35
def y9_13 : Array Bool := #[true, true, true, true, true, true, true, true, true, true, true, false]
theorem x9_put {P : Prop} (h : P := by simp only [Act.put, List.setIfInBounds_toArray, List.set_cons_zero, List.set_cons_succ, i64_w, i32_w]; rfl) : P := h
theorem z9_2 {P : Prop} (h : P := by (with_reducible repeat (first | refine blk_drewN ?_ _ | refine blk_drew ?_ | refine blk_alloc ?_ _)); exact BK188.out) : P := h
theorem z9_3 {P : Prop} (h : P := by repeat (first | (with_reducible first | exact HB.out | apply below_alloc | apply pw_below_drewN | apply below_drew1 | refine below_set ?_ GE188.out | refine below_set ?_ GE189.out | refine below_set ?_ GE194.out) | exact HB.out)) : P := h
theorem z9_4 {P : Prop} (h : P := by (with_reducible repeat (first | refine blk_drewN ?_ _ | refine blk_drew ?_ | refine blk_alloc ?_ _)); exact BK189.out) : P := h
theorem z9_5 {P : Prop} (h : P := by (with_reducible repeat (first | refine blk_drewN ?_ _ | refine blk_drew ?_ | refine blk_alloc ?_ _)); refine blk_put (cs := #[.int .i64 ((rd_T129 l1 x39_1).f0), .int .i64 ((rd_T129 l1 x39_1).f1), .int .i64 ((rd_T129 l1 x39_1).f2), .int .i64 0]) ?_ 3 _ rfl; (with_reducible repeat (first | refine blk_drewN ?_ _ | refine blk_drew ?_ | refine blk_alloc ?_ _)); refine blk_put (cs := #[.int .i64 ((rd_T129 l1 x39_1).f0), .int .i64 ((rd_T129 l1 x39_1).f1), .int .i64 0, .int .i64 0]) ?_ 2 _ rfl; (with_reducible repeat (first | refine blk_drewN ?_ _ | refine blk_drew ?_ | refine blk_alloc ?_ _)); refine blk_put (cs := #[.int .i64 ((rd_T129 l1 x39_1).f0), .int .i64 0, .int .i64 0, .int .i64 0]) ?_ 1 _ rfl; (with_reducible repeat (first | refine blk_drewN ?_ _ | refine blk_drew ?_ | refine blk_alloc ?_ _)); refine blk_put (cs := #[.int .i64 0, .int .i64 0, .int .i64 0, .int .i64 0]) ?_ 0 _ rfl; (with_reducible repeat (first | refine blk_drewN ?_ _ | refine blk_drew ?_ | refine blk_alloc ?_ _)); exact BK196.out) : P := h
theorem z9_6 {P : Prop} (h : P := by repeat (first | (with_reducible first | exact HB.out | apply below_alloc | apply pw_below_drewN | apply below_drew1 | refine below_set ?_ GE188.out | refine below_set ?_ GE189.out) | exact HB.out)) : P := h
theorem z9_7 {P : Prop} (h : P := by repeat (first | (with_reducible first | exact HB.out | apply below_alloc | apply pw_below_drewN | apply below_drew1 | refine below_set ?_ GE188.out) | exact HB.out)) : P := h
theorem z9_8 {P : Prop} (h : P := by (with_reducible repeat (first | refine blk_drewN ?_ _ | refine blk_drew ?_ | refine blk_alloc ?_ _)); refine blk_far ?_ NB188_196.out _; (with_reducible repeat (first | refine blk_drewN ?_ _ | refine blk_drew ?_ | refine blk_alloc ?_ _)); refine blk_far ?_ NB188_196.out _; (with_reducible repeat (first | refine blk_drewN ?_ _ | refine blk_drew ?_ | refine blk_alloc ?_ _)); refine blk_far ?_ NB188_196.out _; (with_reducible repeat (first | refine blk_drewN ?_ _ | refine blk_drew ?_ | refine blk_alloc ?_ _)); refine blk_far ?_ NB188_196.out _; (with_reducible repeat (first | refine blk_drewN ?_ _ | refine blk_drew ?_ | refine blk_alloc ?_ _)); exact BK188.out) : P := h
theorem z9_9 {P : Prop} (h : P := by (with_reducible repeat (first | refine blk_drewN ?_ _ | refine blk_drew ?_ | refine blk_alloc ?_ _)); refine blk_far ?_ NB189_196.out _; (with_reducible repeat (first | refine blk_drewN ?_ _ | refine blk_drew ?_ | refine blk_alloc ?_ _)); refine blk_far ?_ NB189_196.out _; (with_reducible repeat (first | refine blk_drewN ?_ _ | refine blk_drew ?_ | refine blk_alloc ?_ _)); refine blk_far ?_ NB189_196.out _; (with_reducible repeat (first | refine blk_drewN ?_ _ | refine blk_drew ?_ | refine blk_alloc ?_ _)); refine blk_far ?_ NB189_196.out _; (with_reducible repeat (first | refine blk_drewN ?_ _ | refine blk_drew ?_ | refine blk_alloc ?_ _)); exact BK189.out) : P := h
theorem z9_10 {P : Prop} (h : P := by (with_reducible repeat (first | refine blk_drewN ?_ _ | refine blk_drew ?_ | refine blk_alloc ?_ _)); refine blk_far ?_ NB194_196.out _; (with_reducible repeat (first | refine blk_drewN ?_ _ | refine blk_drew ?_ | refine blk_alloc ?_ _)); refine blk_far ?_ NB194_196.out _; (with_reducible repeat (first | refine blk_drewN ?_ _ | refine blk_drew ?_ | refine blk_alloc ?_ _)); refine blk_far ?_ NB194_196.out _; (with_reducible repeat (first | refine blk_drewN ?_ _ | refine blk_drew ?_ | refine blk_alloc ?_ _)); refine blk_far ?_ NB194_196.out _; (with_reducible repeat (first | refine blk_drewN ?_ _ | refine blk_drew ?_ | refine blk_alloc ?_ _)); exact BK194.out) : P := h
theorem z9_11 {P : Prop} (h : P := by (with_reducible repeat (first | refine blk_drewN ?_ _ | refine blk_drew ?_ | refine blk_alloc ?_ _)); refine blk_put (cs := #[.int .i64 0, .int .i64 0, .int .i64 0, .int .i64 0, .slice none 0 0]) ?_ 4 _ rfl; (with_reducible repeat (first | refine blk_drewN ?_ _ | refine blk_drew ?_ | refine blk_alloc ?_ _)); refine blk_put (cs := #[.int .i64 0, .int .i64 0, .int .i64 0, .int .i64 x190003_1, .slice none 0 0]) ?_ 3 _ rfl; (with_reducible repeat (first | refine blk_drewN ?_ _ | refine blk_drew ?_ | refine blk_alloc ?_ _)); refine blk_put (cs := #[.int .i64 0, .int .i64 0, .int .i64 x190002_1, .int .i64 x190003_1, .slice none 0 0]) ?_ 2 _ rfl; (with_reducible repeat (first | refine blk_drewN ?_ _ | refine blk_drew ?_ | refine blk_alloc ?_ _)); refine blk_put (cs := #[.int .i64 0, .int .i64 x190001_1, .int .i64 x190002_1, .int .i64 x190003_1, .slice none 0 0]) ?_ 1 _ rfl; (with_reducible repeat (first | refine blk_drewN ?_ _ | refine blk_drew ?_ | refine blk_alloc ?_ _)); refine blk_put (cs := #[.int .i64 x190000_1, .int .i64 x190001_1, .int .i64 x190002_1, .int .i64 x190003_1, .slice none 0 0]) ?_ 0 _ rfl; (with_reducible repeat (first | refine blk_drewN ?_ _ | refine blk_drew ?_ | refine blk_alloc ?_ _)); exact BK189.out) : P := h
theorem z9_12 {P : Prop} (h : P := by (with_reducible repeat (first | refine blk_drewN ?_ _ | refine blk_drew ?_ | refine blk_alloc ?_ _)); exact BK194.out) : P := h
theorem z9_13 {P : Prop} (h : P := by (with_reducible repeat (first | refine blk_drewN ?_ _ | refine blk_drew ?_ | refine blk_alloc ?_ _)); refine blk_put (cs := #[.int .i64 0, .int .i64 0, .int .i64 0, .int .i64 0, .slice none 0 0]) ?_ 4 _ rfl; (with_reducible repeat (first | refine blk_drewN ?_ _ | refine blk_drew ?_ | refine blk_alloc ?_ _)); refine blk_put (cs := #[.int .i64 0, .int .i64 0, .int .i64 0, .int .i64 0, .slice none 0 0]) ?_ 3 _ rfl; (with_reducible repeat (first | refine blk_drewN ?_ _ | refine blk_drew ?_ | refine blk_alloc ?_ _)); refine blk_put (cs := #[.int .i64 0, .int .i64 0, .int .i64 0, .int .i64 0, .slice none 0 0]) ?_ 2 _ rfl; (with_reducible repeat (first | refine blk_drewN ?_ _ | refine blk_drew ?_ | refine blk_alloc ?_ _)); refine blk_put (cs := #[.int .i64 0, .int .i64 0, .int .i64 0, .int .i64 0, .slice none 0 0]) ?_ 1 _ rfl; (with_reducible repeat (first | refine blk_drewN ?_ _ | refine blk_drew ?_ | refine blk_alloc ?_ _)); refine blk_put (cs := #[.int .i64 0, .int .i64 0, .int .i64 0, .int .i64 0, .slice none 0 0]) ?_ 0 _ rfl; (with_reducible repeat (first | refine blk_drewN ?_ _ | refine blk_drew ?_ | refine blk_alloc ?_ _)); exact BK189.out) : P := h
theorem z9_14 {P : Prop} (h : P := by (try simp only [List.map_toArray, List.map_cons, List.map_nil]); first | done | rfl | (simp only [List.length_drop, List.length_take]; rfl)) : P := h
theorem z9_15 {P : Prop} (h : P := by repeat (first | (with_reducible first | exact HB.out | apply below_alloc | apply pw_below_drewN | apply below_drew1) | exact HB.out)) : P := h
theorem z9_16 {P : Prop} (h : P := by (with_reducible repeat (first | apply Kd.R_alloc | apply Kd.R_drewN | apply Kd.R_drew)); exact (Kd.R_mono (Kd.R_far (p := ⟨gb196, 3, none⟩) (Kd.R_far (p := ⟨gb196, 2, none⟩) (Kd.R_far (p := ⟨gb196, 1, none⟩) (Kd.R_far (p := ⟨gb196, 0, none⟩) (Kd.R_types HO_195004.out BK196.out (by decide)) (fun _ hk => hk.2) (.int .i64 ((rd_T129 l1 x39_1).f0))) (fun _ hk => hk.2) (.int .i64 ((rd_T129 l1 x39_1).f1))) (fun _ hk => hk.2) (.int .i64 ((rd_T129 l1 x39_1).f2))) (fun _ hk => hk.2) (.int .i64 ((rd_T129 l1 x39_1).f3))) (fun _ h_ => h_.1))) : P := h
theorem z9_17 {P : Prop} (h : P := by repeat (first | (with_reducible first | exact HB.out | apply below_alloc | apply pw_below_drewN | apply below_drew1 | refine below_set ?_ GE188.out | refine below_set ?_ GE189.out | refine below_set ?_ GE194.out | refine below_set ?_ GE196.out) | exact HB.out)) : P := h
theorem z9_18 {P : Prop} (h : P := by (with_reducible repeat (first | apply Kd.R_alloc | apply Kd.R_drewN | apply Kd.R_drew)); exact HO_195004.out) : P := h
theorem z9_19 {P : Prop} (h : P := by (with_reducible repeat (first | apply Kd.R_alloc | apply Kd.R_drewN | apply Kd.R_drew)); exact HO193.out) : P := h
/-! ### impl_MaskBy: function 35 -/
mutual
def impl_MaskBy.l0 : Nat → List (S129) → Int → List (S129) → Int → Int → Int → Int → Int → Int → Int → Int → Int → Int → List Int → Option (Int × Int × Int × Int × List Int × Bool)
 | 0, _, _, _, _, _, _, _, _, _, _, _, _, _, _ => none
 | k + 1, x1, x6, x37, x38, x39, x189000, x189001, x189002, x189003, x195000, x195001, x195002, x195003, x195004 => if x39 < x38 then (if 0 ≤ x39 then (if x39 < (x37.length : Int) then ((impl_InBox.f x189000 x189001 x189002 x189003 ((rd_T129 x37 x39).f1) ((rd_T129 x37 x39).f0)).bind fun t197 => (if t197 = true then (if ((rd_T129 x37 x39).f2) > x189002 then (impl_MaskBy.j1 k x1 x6 x37 x38 x39 true x189000 x189001 x189002 x189003 x195000 x195001 x195002 x195003 x195004 ((rd_T129 x37 x39).f0) ((rd_T129 x37 x39).f1) ((rd_T129 x37 x39).f2) ((rd_T129 x37 x39).f3)) else ((impl_inRange.f ((rd_T129 x37 x39).f3) 1 15).bind fun t198 => (impl_MaskBy.j1 k x1 x6 x37 x38 x39 (!t198) x189000 x189001 x189002 x189003 x195000 x195001 x195002 x195003 x195004 ((rd_T129 x37 x39).f0) ((rd_T129 x37 x39).f1) ((rd_T129 x37 x39).f2) ((rd_T129 x37 x39).f3)))) else (impl_MaskBy.j1 k x1 x6 x37 x38 x39 true x189000 x189001 x189002 x189003 x195000 x195001 x195002 x195003 x195004 ((rd_T129 x37 x39).f0) ((rd_T129 x37 x39).f1) ((rd_T129 x37 x39).f2) ((rd_T129 x37 x39).f3)))) else (none)) else (none)) else ((impl_RunsOf.f k x195000 x195001 x195002 x195003 x195004).bind fun t200 => ((impl_Run.f k t200 x1).bind fun t203 => (if t203 = true then (some (x195000, x195001, x195002, x195003, x195004, true)) else (some (0, 0, 0, 0, ([] : List Int), false)))))
def impl_MaskBy.j1 : Nat → List (S129) → Int → List (S129) → Int → Int → Bool → Int → Int → Int → Int → Int → Int → Int → Int → List Int → Int → Int → Int → Int → Option (Int × Int × Int × Int × List Int × Bool)
 | 0, _, _, _, _, _, _, _, _, _, _, _, _, _, _, _, _, _, _, _ => none
 | k + 1, x1, x6, x37, x38, x39, x63, x189000, x189001, x189002, x189003, x195000, x195001, x195002, x195003, x195004, x197000, x197001, x197002, x197003 => if x63 = true then (some (0, 0, 0, 0, ([] : List Int), false)) else (impl_MaskBy.l1 k x1 x6 x197001 x37 x38 x39 x189000 x189001 x189002 x189003 x195000 x195001 x195002 x195003 x195004 x197000 x197001 x197002 x197003)
def impl_MaskBy.l1 : Nat → List (S129) → Int → Int → List (S129) → Int → Int → Int → Int → Int → Int → Int → Int → Int → Int → List Int → Int → Int → Int → Int → Option (Int × Int × Int × Int × List Int × Bool)
 | 0, _, _, _, _, _, _, _, _, _, _, _, _, _, _, _, _, _, _, _ => none
 | k + 1, x1, x6, x10, x37, x38, x39, x189000, x189001, x189002, x189003, x195000, x195001, x195002, x195003, x195004, x197000, x197001, x197002, x197003 => if x10 < x197002 then (if 0 ≤ (wrap64 ((wrap64 ((wrap64 ((wrap64 (x197000 - x189001)) * x6)) + x10)) - x189000)) then (if (wrap64 ((wrap64 ((wrap64 ((wrap64 (x197000 - x189001)) * x6)) + x10)) - x189000)) < (x195004.length : Int) then (impl_MaskBy.l1 k x1 x6 (wrap64 (x10 + 1)) x37 x38 x39 x189000 x189001 x189002 x189003 x195000 x195001 x195002 x195003 (x195004.set ((wrap64 ((wrap64 ((wrap64 ((wrap64 (x197000 - x189001)) * x6)) + x10)) - x189000)) : Int).toNat x197003) x197000 x197001 x197002 x197003) else (none)) else (none)) else (impl_MaskBy.l0 k x1 x6 x37 x38 (wrap64 (x39 + 1)) x189000 x189001 x189002 x189003 x195000 x195001 x195002 x195003 x195004)
end
def impl_MaskBy.f (k : Nat) (a0_0 : Int) (a0_1 : Int) (a0_2 : Int) (a0_3 : Int) (l1 : List (S129)) : Option (Int × Int × Int × Int × List Int × Bool) := if (a0_0 == 0 && (a0_1 == 0 && (a0_2 == 0 && (a0_3 == 0)))) = true then (some (0, 0, 0, 0, ([] : List Int), ((l1.length : Int) == 0))) else ((impl_isMaskBox.f a0_0 a0_1 a0_2 a0_3).bind fun t190 => (if t190 = true then (if 0 ≤ (wrap64 ((wrap64 (a0_2 - a0_0)) * (wrap64 (a0_3 - a0_1)))) then (if (wrap64 ((wrap64 (a0_2 - a0_0)) * (wrap64 (a0_3 - a0_1))) : Int).toNat ≤ 35184372088832 then (impl_MaskBy.l0 k l1 (wrap64 (a0_2 - a0_0)) l1 (l1.length : Int) 0 a0_0 a0_1 a0_2 a0_3 a0_0 a0_1 a0_2 a0_3 (List.replicate (wrap64 ((wrap64 (a0_2 - a0_0)) * (wrap64 (a0_3 - a0_1))) : Int).toNat 0)) else (none)) else (none)) else (some (0, 0, 0, 0, ([] : List Int), false))))
theorem impl_MaskBy.mono_l : ∀ k, (∀ y0 y1 y2 y3 y4 y5 y6 y7 y8 y9 y10 y11 y12 y13, LeO (impl_MaskBy.l0 k y0 y1 y2 y3 y4 y5 y6 y7 y8 y9 y10 y11 y12 y13) (impl_MaskBy.l0 (k + 1) y0 y1 y2 y3 y4 y5 y6 y7 y8 y9 y10 y11 y12 y13)) ∧ (∀ y0 y1 y2 y3 y4 y5 y6 y7 y8 y9 y10 y11 y12 y13 y14 y15 y16 y17 y18, LeO (impl_MaskBy.j1 k y0 y1 y2 y3 y4 y5 y6 y7 y8 y9 y10 y11 y12 y13 y14 y15 y16 y17 y18) (impl_MaskBy.j1 (k + 1) y0 y1 y2 y3 y4 y5 y6 y7 y8 y9 y10 y11 y12 y13 y14 y15 y16 y17 y18)) ∧ (∀ y0 y1 y2 y3 y4 y5 y6 y7 y8 y9 y10 y11 y12 y13 y14 y15 y16 y17 y18, LeO (impl_MaskBy.l1 k y0 y1 y2 y3 y4 y5 y6 y7 y8 y9 y10 y11 y12 y13 y14 y15 y16 y17 y18) (impl_MaskBy.l1 (k + 1) y0 y1 y2 y3 y4 y5 y6 y7 y8 y9 y10 y11 y12 y13 y14 y15 y16 y17 y18))
 | 0 => ⟨fun _ _ _ _ _ _ _ _ _ _ _ _ _ _ r h => by simp [impl_MaskBy.l0] at h, fun _ _ _ _ _ _ _ _ _ _ _ _ _ _ _ _ _ _ _ r h => by simp [impl_MaskBy.j1] at h, fun _ _ _ _ _ _ _ _ _ _ _ _ _ _ _ _ _ _ _ r h => by simp [impl_MaskBy.l1] at h⟩
 | k + 1 => by
  obtain ⟨ih0, ih1, ih2⟩ := impl_MaskBy.mono_l k
  refine ⟨?_, ?_, ?_⟩
  ·intro y0 y1 y2 y3 y4 y5 y6 y7 y8 y9 y10 y11 y12 y13
   unfold impl_MaskBy.l0
   repeat' first
   | (with_reducible exact ih0 _ _ _ _ _ _ _ _ _ _ _ _ _ _)
   | (with_reducible exact ih1 _ _ _ _ _ _ _ _ _ _ _ _ _ _ _ _ _ _ _)
   | (with_reducible exact ih2 _ _ _ _ _ _ _ _ _ _ _ _ _ _ _ _ _ _ _)
   | (with_reducible exact impl_Run.mono _ _ _)
   | (with_reducible exact impl_RunsOf.mono _ _ _ _ _ _)
   | (with_reducible exact LeO.refl _)
   | (with_reducible exact LeO.none _)
   | (with_reducible refine LeO.ite ?_ ?_)
   | (with_reducible refine LeO.bind ?_ (fun _ => ?_))
   | exact ih0 _ _ _ _ _ _ _ _ _ _ _ _ _ _
   | exact ih1 _ _ _ _ _ _ _ _ _ _ _ _ _ _ _ _ _ _ _
   | exact ih2 _ _ _ _ _ _ _ _ _ _ _ _ _ _ _ _ _ _ _
   | exact impl_Run.mono _ _ _
   | exact impl_RunsOf.mono _ _ _ _ _ _
   | exact LeO.none _
   | refine LeO.ite ?_ ?_
   | refine LeO.bind ?_ (fun _ => ?_)
  ·intro y0 y1 y2 y3 y4 y5 y6 y7 y8 y9 y10 y11 y12 y13 y14 y15 y16 y17 y18
   unfold impl_MaskBy.j1
   repeat' first
   | (with_reducible exact ih0 _ _ _ _ _ _ _ _ _ _ _ _ _ _)
   | (with_reducible exact ih1 _ _ _ _ _ _ _ _ _ _ _ _ _ _ _ _ _ _ _)
   | (with_reducible exact ih2 _ _ _ _ _ _ _ _ _ _ _ _ _ _ _ _ _ _ _)
   | (with_reducible exact impl_Run.mono _ _ _)
   | (with_reducible exact impl_RunsOf.mono _ _ _ _ _ _)
   | (with_reducible exact LeO.refl _)
   | (with_reducible exact LeO.none _)
   | (with_reducible refine LeO.ite ?_ ?_)
   | (with_reducible refine LeO.bind ?_ (fun _ => ?_))
   | exact ih0 _ _ _ _ _ _ _ _ _ _ _ _ _ _
   | exact ih1 _ _ _ _ _ _ _ _ _ _ _ _ _ _ _ _ _ _ _
   | exact ih2 _ _ _ _ _ _ _ _ _ _ _ _ _ _ _ _ _ _ _
   | exact impl_Run.mono _ _ _
   | exact impl_RunsOf.mono _ _ _ _ _ _
   | exact LeO.none _
   | refine LeO.ite ?_ ?_
   | refine LeO.bind ?_ (fun _ => ?_)
  ·intro y0 y1 y2 y3 y4 y5 y6 y7 y8 y9 y10 y11 y12 y13 y14 y15 y16 y17 y18
   unfold impl_MaskBy.l1
   repeat' first
   | (with_reducible exact ih0 _ _ _ _ _ _ _ _ _ _ _ _ _ _)
   | (with_reducible exact ih1 _ _ _ _ _ _ _ _ _ _ _ _ _ _ _ _ _ _ _)
   | (with_reducible exact ih2 _ _ _ _ _ _ _ _ _ _ _ _ _ _ _ _ _ _ _)
   | (with_reducible exact impl_Run.mono _ _ _)
   | (with_reducible exact impl_RunsOf.mono _ _ _ _ _ _)
   | (with_reducible exact LeO.refl _)
   | (with_reducible exact LeO.none _)
   | (with_reducible refine LeO.ite ?_ ?_)
   | (with_reducible refine LeO.bind ?_ (fun _ => ?_))
   | exact ih0 _ _ _ _ _ _ _ _ _ _ _ _ _ _
   | exact ih1 _ _ _ _ _ _ _ _ _ _ _ _ _ _ _ _ _ _ _
   | exact ih2 _ _ _ _ _ _ _ _ _ _ _ _ _ _ _ _ _ _ _
   | exact impl_Run.mono _ _ _
   | exact impl_RunsOf.mono _ _ _ _ _ _
   | exact LeO.none _
   | refine LeO.ite ?_ ?_
   | refine LeO.bind ?_ (fun _ => ?_)
theorem impl_MaskBy.mono : ∀ a0 a1 a2 a3 a4 k, LeO (impl_MaskBy.f k a0 a1 a2 a3 a4) (impl_MaskBy.f (k + 1) a0 a1 a2 a3 a4) := by
 intro a0 a1 a2 a3 a4 k
 obtain ⟨ih0, ih1, ih2⟩ := impl_MaskBy.mono_l k
 unfold impl_MaskBy.f
 repeat' first
   | (with_reducible exact ih0 _ _ _ _ _ _ _ _ _ _ _ _ _ _)
   | (with_reducible exact ih1 _ _ _ _ _ _ _ _ _ _ _ _ _ _ _ _ _ _ _)
   | (with_reducible exact ih2 _ _ _ _ _ _ _ _ _ _ _ _ _ _ _ _ _ _ _)
   | (with_reducible exact impl_Run.mono _ _ _)
   | (with_reducible exact impl_RunsOf.mono _ _ _ _ _ _)
   | (with_reducible exact LeO.refl _)
   | (with_reducible exact LeO.none _)
   | (with_reducible refine LeO.ite ?_ ?_)
   | (with_reducible refine LeO.bind ?_ (fun _ => ?_))
   | exact ih0 _ _ _ _ _ _ _ _ _ _ _ _ _ _
   | exact ih1 _ _ _ _ _ _ _ _ _ _ _ _ _ _ _ _ _ _ _
   | exact ih2 _ _ _ _ _ _ _ _ _ _ _ _ _ _ _ _ _ _ _
   | exact impl_Run.mono _ _ _
   | exact impl_RunsOf.mono _ _ _ _ _ _
   | exact LeO.none _
   | refine LeO.ite ?_ ?_
   | refine LeO.bind ?_ (fun _ => ?_)
def impl_MaskBy.T6 : Bool × List (List Nat × List Nat) := (true, [([], []), ([], []), ([], []), ([2], [2]), ([], []), ([4], [4]), ([3, 5], [3, 5]), ([1, 6], [1, 6]), ([7, 7], [7]), ([0, 8], [0, 8]), ([], []), ([10, 9, 0, 1, 2, 3, 4, 5, 6, 7, 8, 9, 10], [9, 10])])
def impl_MaskBy.B6 : List Nat := [0, 0, 0, 4, 0, 16, 60, 126, 254, 511, 0, 2047]
theorem impl_MaskBy.tab6 : rtab .any (opsOf Try.f35 6) = impl_MaskBy.T6 := by kernel_rfl
theorem impl_MaskBy.bits6 : waitsOk impl_MaskBy.T6.2 impl_MaskBy.B6 = true := by kernel_rfl
set_option maxHeartbeats 8000000 in
set_option maxRecDepth 100000 in
theorem impl_MaskBy.calls (k : Nat) (a0_0 : Int) (a0_1 : Int) (a0_2 : Int) (a0_3 : Int) (A1 : Option Addr) (c1 : Nat) (l1 : List (S129)) (r1 : Int) (r2 : Int) (r3 : Int) (r4 : Int) (r5 : List Int) (r6 : Bool) (w : World) (hr1 : Kd.C k129 w A1 l1.length l1) (hc1 : l1.length ≤ c1) (h : impl_MaskBy.f k a0_0 a0_1 a0_2 a0_3 l1 = some (r1, r2, r3, r4, r5, r6)) :
  Calls Try.prog 35 #[.agg #[.int .i64 a0_0, .int .i64 a0_1, .int .i64 a0_2, .int .i64 a0_3], .slice A1 l1.length c1] w fun e w' => ∃ v4_ : Value, e = .returned (.tuple #[.agg #[.int .i64 r1, .int .i64 r2, .int .i64 r3, .int .i64 r4, v4_], .bool r6]) ∧ Kd.R (Kd.int .i64) 3 w' w.heap.size (fun _ => True) v4_ r5 ∧ Below w.heap.size w w' := by
 have hu35 := Try.underlying35
 have hu52 := Try.underlying52
 have hu129 := Try.underlying129
 have hu32 := Try.underlying32
 have HR1 := Aside0.mk hr1
 have HC1 := Aside0.mk hc1
 clear hr1 hc1
 have HB := Aside0.mk (Below.refl w.heap.size w)
 have H : (if (a0_0 == 0 && (a0_1 == 0 && (a0_2 == 0 && (a0_3 == 0)))) = true then (some (0, 0, 0, 0, ([] : List Int), ((l1.length : Int) == 0))) else ((impl_isMaskBox.f a0_0 a0_1 a0_2 a0_3).bind fun t190 => (if t190 = true then (if 0 ≤ (wrap64 ((wrap64 (a0_2 - a0_0)) * (wrap64 (a0_3 - a0_1)))) then (if (wrap64 ((wrap64 (a0_2 - a0_0)) * (wrap64 (a0_3 - a0_1))) : Int).toNat ≤ 35184372088832 then (impl_MaskBy.l0 k l1 (wrap64 (a0_2 - a0_0)) l1 (l1.length : Int) 0 a0_0 a0_1 a0_2 a0_3 a0_0 a0_1 a0_2 a0_3 (List.replicate (wrap64 ((wrap64 (a0_2 - a0_0)) * (wrap64 (a0_3 - a0_1))) : Int).toNat 0)) else (none)) else (none)) else (some (0, 0, 0, 0, ([] : List Int), false))))) = some (r1, r2, r3, r4, r5, r6) := h
 clear h
 by_cases c3 : (a0_0 == 0 && (a0_1 == 0 && (a0_2 == 0 && (a0_3 == 0)))) = true
 ·rw [if_pos c3] at H
  have c3b0 : (a0_0 == 0 && (a0_1 == 0 && (a0_2 == 0 && (a0_3 == 0)))) = true := c3
  (try (have c3b1 : decide (a0_0 = 0 && (a0_1 == 0 && (a0_2 == 0 && (a0_3 == 0)))) = true := by simpa using c3))
  (try (have c3b2 : (a0_0 == 0 && (a0_1 == 0 && (a0_2 == 0 && (a0_3 == 0)))) = true := by simpa using c3))
  clear c3
  simp only [Option.some.injEq, Prod.mk.injEq] at H
  obtain ⟨rfl, rfl, rfl, rfl, rfl, rfl⟩ := H
  go_enter Try.func35, Try.ntmps35
  go_wp2_with (first | ((with_reducible refine gate_dst (N := 2) rfl ?_); refine box_event ?hg (N := 2) ?hd (cs := #[.int .i64 a0_0, .int .i64 a0_1, .int .i64 a0_2, .int .i64 a0_3]) (t := 35) ?hr ?_; (case hd => rfl); (case hg => rfl); (case hr => first | (go_simp; done) | (go_simp; rfl)); intro gb188 hg w4 hbox hb; have n0_ := Aside0.mk (below_step z9_15 hb); have n1_ := Aside0.mk (hbox); have n2_ := Aside0.mk ((by rw [hg]; exact (below_size z9_15) : w.heap.size ≤ gb188)); have n3_ := Aside0.mk ((by rw [hg]; exact (below_size z9_15) : w.heap.size ≤ gb188)); clear HB; have HB := n0_; have BK188 := n1_; have GW188 := n2_; have GE188 := n3_; clear n0_ n1_ n2_ n3_; clear hb hbox hg) | ((with_reducible refine gate_dst (N := 4) rfl ?_); refine box_event ?hg (N := 4) ?hd (cs := #[.int .i64 0, .int .i64 0, .int .i64 0, .int .i64 0, .slice none 0 0]) (t := 52) ?hr ?_; (case hd => rfl); (case hg => rfl); (case hr => first | (go_simp; done) | (go_simp; rfl)); intro gb189 hg w5 hbox hb; have n0_ := Aside0.mk (blk_below (g := gb188) (o := .cells #[.int .i64 a0_0, .int .i64 a0_1, .int .i64 a0_2, .int .i64 a0_3] 35 (0, 0)) z9_2 hb); have n1_ := Aside0.mk (below_step z9_7 hb); have n2_ := Aside0.mk (hbox); have n3_ := Aside0.mk ((by rw [hg]; exact (below_size z9_7) : w.heap.size ≤ gb189)); have n4_ := Aside0.mk ((by rw [hg]; exact (below_size z9_7) : w.heap.size ≤ gb189)); have n5_ := Aside0.mk ((by rw [hg]; exact Nat.ne_of_lt (blk_lt (g := gb188) (o := .cells #[.int .i64 a0_0, .int .i64 a0_1, .int .i64 a0_2, .int .i64 a0_3] 35 (0, 0)) z9_2) : gb188 ≠ gb189)); have n6_ := Aside0.mk ((by rw [hg]; exact Nat.ne_of_gt (blk_lt (g := gb188) (o := .cells #[.int .i64 a0_0, .int .i64 a0_1, .int .i64 a0_2, .int .i64 a0_3] 35 (0, 0)) z9_2) : gb189 ≠ gb188)); clear BK188; clear HB; have BK188 := n0_; have HB := n1_; have BK189 := n2_; have GW189 := n3_; have GE189 := n4_; have NB188_189 := n5_; have NB189_188 := n6_; clear n0_ n1_ n2_ n3_ n4_ n5_ n6_; clear hb hbox hg; have hnb6 := NB188_189.out; have hnc6 := NB189_188.out; have hcz7_0 : w5.cell? ⟨gb188, 0, none⟩ = some (.int .i64 a0_0) := (blk_cell BK188.out 0).trans rfl; have hcz7_1 : w5.cell? ⟨gb188, 1, none⟩ = some (.int .i64 a0_1) := (blk_cell BK188.out 1).trans rfl; have hcz7_2 : w5.cell? ⟨gb188, 2, none⟩ = some (.int .i64 a0_2) := (blk_cell BK188.out 2).trans rfl; have hcz7_3 : w5.cell? ⟨gb188, 3, none⟩ = some (.int .i64 a0_3) := (blk_cell BK188.out 3).trans rfl; have hfz7_0 := blk_frozen BK188.out 0; have hfz7_1 := blk_frozen BK188.out 1; have hfz7_2 := blk_frozen BK188.out 2; have hfz7_3 := blk_frozen BK188.out 3; have hcz8_0 : w5.cell? ⟨gb189, 0, none⟩ = some (.int .i64 0) := (blk_cell BK189.out 0).trans rfl; have hcz8_1 : w5.cell? ⟨gb189, 1, none⟩ = some (.int .i64 0) := (blk_cell BK189.out 1).trans rfl; have hcz8_2 : w5.cell? ⟨gb189, 2, none⟩ = some (.int .i64 0) := (blk_cell BK189.out 2).trans rfl; have hcz8_3 : w5.cell? ⟨gb189, 3, none⟩ = some (.int .i64 0) := (blk_cell BK189.out 3).trans rfl; have hcz8_4 : w5.cell? ⟨gb189, 4, none⟩ = some (.slice none 0 0) := (blk_cell BK189.out 4).trans rfl; have hfz8_0 := blk_frozen BK189.out 0; have hfz8_1 := blk_frozen BK189.out 1; have hfz8_2 := blk_frozen BK189.out 2; have hfz8_3 := blk_frozen BK189.out 3; have hfz8_4 := blk_frozen BK189.out 4))
  refine bodyPost_ret (results_ct rfl _ _ gb189 52 #[.int .i64 0, .int .i64 0, .int .i64 0, .int .i64 0, .slice none 0 0] (0, 0) _ rfl z9_13 Try.underlying52 rfl (by kernel_rfl)) rfl ?_
  exact ⟨_, by first | rfl | (simp [errW_none, errW_some] <;> rfl) | (simp [*, errW_none, errW_some] <;> rfl), by first | exact Kd.R_nil _ _ _ _ _ | exact Kd.N_nil _ _ _ _ _ | exact Kd.V_nil _ _ _ _ _ | exact Kd.Q_nil _ _ _ _ _ | exact Kd.S_nil _ _ _ _ _, by repeat (first | (with_reducible first | exact HB.out | apply below_alloc | apply pw_below_drewN | apply below_drew1 | refine below_set ?_ GE188.out | refine below_set ?_ GE189.out) | exact HB.out)⟩
 ·rw [if_neg c3] at H
  have c3b0 : (a0_0 == 0 && (a0_1 == 0 && (a0_2 == 0 && (a0_3 == 0)))) = false := by simpa using c3
  (try (have c3b1 : decide (a0_0 = 0 && (a0_1 == 0 && (a0_2 == 0 && (a0_3 == 0)))) = false := by simpa using c3))
  (try (have c3b2 : (a0_0 == 0 && (a0_1 == 0 && (a0_2 == 0 && (a0_3 == 0)))) = false := by simpa using c3))
  (try (have c3b3 : ¬ (a0_0 = 0 && (a0_1 == 0 && (a0_2 == 0 && (a0_3 == 0)))) := by simpa using c3))
  clear c3
  replace H := Option.bind_eq_some_iff.mp H
  obtain ⟨t190, A90, H⟩ := H
  replace H : (if t190 = true then (if 0 ≤ (wrap64 ((wrap64 (a0_2 - a0_0)) * (wrap64 (a0_3 - a0_1)))) then (if (wrap64 ((wrap64 (a0_2 - a0_0)) * (wrap64 (a0_3 - a0_1))) : Int).toNat ≤ 35184372088832 then (impl_MaskBy.l0 k l1 (wrap64 (a0_2 - a0_0)) l1 (l1.length : Int) 0 a0_0 a0_1 a0_2 a0_3 a0_0 a0_1 a0_2 a0_3 (List.replicate (wrap64 ((wrap64 (a0_2 - a0_0)) * (wrap64 (a0_3 - a0_1))) : Int).toNat 0)) else (none)) else (none)) else (some (0, 0, 0, 0, ([] : List Int), false))) = some (r1, r2, r3, r4, r5, r6) := H
  have A9 := Aside0.mk A90
  clear A90
  by_cases c10 : t190 = true
  ·subst c10
   have H1 : (if 0 ≤ (wrap64 ((wrap64 (a0_2 - a0_0)) * (wrap64 (a0_3 - a0_1)))) then (if (wrap64 ((wrap64 (a0_2 - a0_0)) * (wrap64 (a0_3 - a0_1))) : Int).toNat ≤ 35184372088832 then (impl_MaskBy.l0 k l1 (wrap64 (a0_2 - a0_0)) l1 (l1.length : Int) 0 a0_0 a0_1 a0_2 a0_3 a0_0 a0_1 a0_2 a0_3 (List.replicate (wrap64 ((wrap64 (a0_2 - a0_0)) * (wrap64 (a0_3 - a0_1))) : Int).toNat 0)) else (none)) else (none)) = some (r1, r2, r3, r4, r5, r6) := by rw [if_pos rfl] at H; exact H
   clear H; have H := H1; clear H1
   obtain ⟨ji11, hji11⟩ : ∃ j_ : Int, (wrap64 ((wrap64 (a0_2 - a0_0)) * (wrap64 (a0_3 - a0_1)))) = j_ := ⟨_, rfl⟩
   replace H : (if 0 ≤ (ji11) then (if (ji11 : Int).toNat ≤ 35184372088832 then (impl_MaskBy.l0 k l1 (wrap64 (a0_2 - a0_0)) l1 (l1.length : Int) 0 a0_0 a0_1 a0_2 a0_3 a0_0 a0_1 a0_2 a0_3 (List.replicate (ji11 : Int).toNat 0)) else (none)) else (none)) = some (r1, r2, r3, r4, r5, r6) := by first | (rw [hji11] at H; exact H) | (simp only [hji11] at H ⊢; exact H)
   (try rw [hji11] at A9)
   have hji11w : (IntKind.i64.wrap ((wrap64 (a0_2 - a0_0)) * (wrap64 (a0_3 - a0_1)))) = ji11 := (i64_w _).trans hji11
   by_cases c12 : 0 ≤ (ji11)
   ·rw [if_pos c12] at H
    have c12b0 := eq_true c12
    have c12b1 : decide (0 ≤ (ji11)) = true := decide_eq_true c12
    clear c12
    by_cases c13 : (ji11 : Int).toNat ≤ 35184372088832
    ·rw [if_pos c13] at H
     have c13b0 := eq_true c13
     have c13b1 : decide ((ji11 : Int).toNat ≤ 35184372088832) = true := decide_eq_true c13
     clear c13
     obtain ⟨y191, hy191⟩ : ∃ y_ : List Int, y_ = (List.replicate (ji11 : Int).toNat 0) := ⟨_, rfl⟩
     replace H : (impl_MaskBy.l0 k l1 (wrap64 (a0_2 - a0_0)) l1 (l1.length : Int) 0 a0_0 a0_1 a0_2 a0_3 a0_0 a0_1 a0_2 a0_3 y191) = some (r1, r2, r3, r4, r5, r6) := by first | (rw [hy191]; with_reducible exact H) | (have H2_ := (Option.bind_some _ _).symm.trans H; rw [hy191]; with_reducible exact H2_) | (have H2_ := (Option.bind_some _ _).symm.trans H; with_reducible exact H2_) | with_reducible exact H | (rw [hy191]; exact H) | exact H
     have Ny191 := Aside0.mk hy191
     clear hy191
     have H' := Aside0.mk H
     clear H
     go_enter Try.func35, Try.ntmps35
     try go_wp2_with (first | ((with_reducible refine gate_dst (N := 2) rfl ?_); refine box_event ?hg (N := 2) ?hd (cs := #[.int .i64 a0_0, .int .i64 a0_1, .int .i64 a0_2, .int .i64 a0_3]) (t := 35) ?hr ?_; (case hd => rfl); (case hg => rfl); (case hr => first | (go_simp; done) | (go_simp; rfl)); intro gb188 hg w14 hbox hb; have n0_ := Aside0.mk (below_step z9_15 hb); have n1_ := Aside0.mk (hbox); have n2_ := Aside0.mk ((by rw [hg]; exact (below_size z9_15) : w.heap.size ≤ gb188)); have n3_ := Aside0.mk ((by rw [hg]; exact (below_size z9_15) : w.heap.size ≤ gb188)); clear HB; have HB := n0_; have BK188 := n1_; have GW188 := n2_; have GE188 := n3_; clear n0_ n1_ n2_ n3_; clear hb hbox hg) | ((with_reducible refine gate_dst (N := 4) rfl ?_); refine box_event ?hg (N := 4) ?hd (cs := #[.int .i64 0, .int .i64 0, .int .i64 0, .int .i64 0, .slice none 0 0]) (t := 52) ?hr ?_; (case hd => rfl); (case hg => rfl); (case hr => first | (go_simp; done) | (go_simp; rfl)); intro gb189 hg w15 hbox hb; have n0_ := Aside0.mk (blk_below (g := gb188) (o := .cells #[.int .i64 a0_0, .int .i64 a0_1, .int .i64 a0_2, .int .i64 a0_3] 35 (0, 0)) z9_2 hb); have n1_ := Aside0.mk (below_step z9_7 hb); have n2_ := Aside0.mk (hbox); have n3_ := Aside0.mk ((by rw [hg]; exact (below_size z9_7) : w.heap.size ≤ gb189)); have n4_ := Aside0.mk ((by rw [hg]; exact (below_size z9_7) : w.heap.size ≤ gb189)); have n5_ := Aside0.mk ((by rw [hg]; exact Nat.ne_of_lt (blk_lt (g := gb188) (o := .cells #[.int .i64 a0_0, .int .i64 a0_1, .int .i64 a0_2, .int .i64 a0_3] 35 (0, 0)) z9_2) : gb188 ≠ gb189)); have n6_ := Aside0.mk ((by rw [hg]; exact Nat.ne_of_gt (blk_lt (g := gb188) (o := .cells #[.int .i64 a0_0, .int .i64 a0_1, .int .i64 a0_2, .int .i64 a0_3] 35 (0, 0)) z9_2) : gb189 ≠ gb188)); clear BK188; clear HB; have BK188 := n0_; have HB := n1_; have BK189 := n2_; have GW189 := n3_; have GE189 := n4_; have NB188_189 := n5_; have NB189_188 := n6_; clear n0_ n1_ n2_ n3_ n4_ n5_ n6_; clear hb hbox hg; have hnb16 := NB188_189.out; have hnc16 := NB189_188.out; have hcz17_0 : w15.cell? ⟨gb188, 0, none⟩ = some (.int .i64 a0_0) := (blk_cell BK188.out 0).trans rfl; have hcz17_1 : w15.cell? ⟨gb188, 1, none⟩ = some (.int .i64 a0_1) := (blk_cell BK188.out 1).trans rfl; have hcz17_2 : w15.cell? ⟨gb188, 2, none⟩ = some (.int .i64 a0_2) := (blk_cell BK188.out 2).trans rfl; have hcz17_3 : w15.cell? ⟨gb188, 3, none⟩ = some (.int .i64 a0_3) := (blk_cell BK188.out 3).trans rfl; have hfz17_0 := blk_frozen BK188.out 0; have hfz17_1 := blk_frozen BK188.out 1; have hfz17_2 := blk_frozen BK188.out 2; have hfz17_3 := blk_frozen BK188.out 3) | ((with_reducible refine gate_callee (f := 105) rfl ?_); refine goesL_ (some 19) rfl rfl Try.func105 (by kernel_rfl) rfl #[.agg #[.int .i64 a0_0, .int .i64 a0_1, .int .i64 a0_2, .int .i64 a0_3]] rfl z9_14 ?_; (with_reducible refine (impl_isMaskBox.calls a0_0 a0_1 a0_2 a0_3 true _ A9.out).mono ?_); rintro e w18 ⟨rfl, hb⟩; refine ⟨_, rfl, ?_⟩; have n0_ := Aside0.mk (blk_below (g := gb188) (o := .cells #[.int .i64 a0_0, .int .i64 a0_1, .int .i64 a0_2, .int .i64 a0_3] 35 (0, 0)) z9_2 hb); have n1_ := Aside0.mk (blk_below (g := gb189) (o := .cells #[.int .i64 0, .int .i64 0, .int .i64 0, .int .i64 0, .slice none 0 0] 52 (0, 0)) z9_4 hb); have n2_ := Aside0.mk (below_step z9_6 hb); clear BK188; clear BK189; clear HB; have BK188 := n0_; have BK189 := n1_; have HB := n2_; clear n0_ n1_ n2_; (try clear hb); (try clear hb2); (try clear hk); (try clear hi); have hcz19_0 : w18.cell? ⟨gb188, 0, none⟩ = some (.int .i64 a0_0) := (blk_cell BK188.out 0).trans rfl; have hcz19_1 : w18.cell? ⟨gb188, 1, none⟩ = some (.int .i64 a0_1) := (blk_cell BK188.out 1).trans rfl; have hcz19_2 : w18.cell? ⟨gb188, 2, none⟩ = some (.int .i64 a0_2) := (blk_cell BK188.out 2).trans rfl; have hcz19_3 : w18.cell? ⟨gb188, 3, none⟩ = some (.int .i64 a0_3) := (blk_cell BK188.out 3).trans rfl; have hfz19_0 := blk_frozen BK188.out 0; have hfz19_1 := blk_frozen BK188.out 1; have hfz19_2 := blk_frozen BK188.out 2; have hfz19_3 := blk_frozen BK188.out 3))
     have n0_ := Aside0.mk (blk_drew BK188.out)
     have n1_ := Aside0.mk (blk_drew BK189.out)
     have n2_ := Aside0.mk (below_drew1 HB.out)
     clear BK188; clear BK189; clear HB; have BK188 := n0_; have BK189 := n1_; have HB := n2_; clear n0_ n1_ n2_
     refine start_ (n := 12) (S := fun w' => w'.cell? ⟨gb188, 0, none⟩ = some (.int .i64 a0_0) ∧ w'.cell? ⟨gb188, 1, none⟩ = some (.int .i64 a0_1) ∧ w'.cell? ⟨gb188, 2, none⟩ = some (.int .i64 a0_2) ∧ w'.cell? ⟨gb188, 3, none⟩ = some (.int .i64 a0_3)) (ds := []) #[false, false, false, false, false, false, false, false, false, false, false, false] (by kernel_rfl) rfl rfl ⟨(blk_cell BK188.out 0).trans rfl, (blk_cell BK188.out 1).trans rfl, (blk_cell BK188.out 2).trans rfl, (blk_cell BK188.out 3).trans rfl⟩ (fun hHeld => ?_); refine with_tabW impl_MaskBy.tab6 impl_MaskBy.bits6 (fun HT_ HW_ => ?_)
     generalize w18.drew = w20 at BK188 BK189 HB hHeld ⊢
     refine pure_ (i := 1) (N := some 28) (v := ?_) (a' := ?_) #[false, true, false, false, false, false, false, false, false, false, false, false] rfl rfl (any_of HT_.out (by kernel_rfl)) (fun _ _ _ h => h) (Or.inl ⟨by rfl, ?_⟩) ?_ ?_; rotate_left
     ·intro w'
      go_simp; with_reducible rfl
     rotate_left
     ·exact x9_put
     refine pure_ (i := 2) (N := some 29) (v := ?_) (a' := ?_) #[false, true, true, false, false, false, false, false, false, false, false, false] rfl rfl (any_of HT_.out (by kernel_rfl)) (fun _ _ _ h => h) (Or.inl ⟨by rfl, ?_⟩) ?_ ?_; rotate_left
     ·intro w'
      go_simp; with_reducible rfl
     rotate_left
     ·exact x9_put
     refine pure_ (i := 4) (N := some 31) (v := ?_) (a' := ?_) #[false, true, true, false, true, false, false, false, false, false, false, false] rfl rfl (any_of HT_.out (by kernel_rfl)) (fun _ _ _ h => h) (Or.inl ⟨by rfl, ?_⟩) ?_ ?_; rotate_left
     ·intro w'
      go_simp; with_reducible rfl
     rotate_left
     ·exact x9_put
     refine take_ (i := 0) (N := some 27) (v := ?_) (a' := ?_) #[true, true, true, false, true, false, false, false, false, false, false, false] rfl rfl (take_ofW HT_.out HW_.out (by kernel_rfl)) (fun _ _ _ h => h) (Or.inl ⟨by rfl, ?_⟩) hHeld ?_ ?_
     rotate_left
     ·rintro w' ⟨s0, s1, s2, s3⟩
      go_simp; with_reducible rfl
     rotate_left
     ·exact x9_put
     refine take_ (i := 3) (N := some 30) (v := ?_) (a' := ?_) #[true, true, true, true, true, false, false, false, false, false, false, false] rfl rfl (take_ofW HT_.out HW_.out (by kernel_rfl)) (fun _ _ _ h => h) (Or.inl ⟨by rfl, ?_⟩) hHeld ?_ ?_
     rotate_left
     ·rintro w' ⟨s0, s1, s2, s3⟩
      go_simp; with_reducible rfl
     rotate_left
     ·exact x9_put
     refine take_ (i := 5) (N := some 32) (v := ?_) (a' := ?_) #[true, true, true, true, true, true, false, false, false, false, false, false] rfl rfl (take_ofW HT_.out HW_.out (by kernel_rfl)) (fun _ _ _ h => h) (Or.inl ⟨by rfl, ?_⟩) hHeld ?_ ?_
     rotate_left
     ·rintro w' ⟨s0, s1, s2, s3⟩
      go_simp; with_reducible rfl
     rotate_left
     ·exact x9_put
     refine pure_ (i := 6) (N := some 33) (v := ?_) (a' := ?_) #[true, true, true, true, true, true, true, false, false, false, false, false] rfl rfl (any_of HT_.out (by kernel_rfl)) (fun _ _ _ h => h) (Or.inl ⟨by rfl, ?_⟩) ?_ ?_; rotate_left
     ·intro w'
      go_simp; with_reducible rfl
     rotate_left
     ·exact x9_put
     refine pure_ (i := 7) (N := some 34) (v := ?_) (a' := ?_) #[true, true, true, true, true, true, true, true, false, false, false, false] rfl rfl (any_of HT_.out (by kernel_rfl)) (fun _ _ _ h => h) (Or.inl ⟨by rfl, ?_⟩) ?_ ?_; rotate_left
     ·intro w'
      go_simp; with_reducible rfl
     rotate_left
     ·exact x9_put
     refine join_ (σ := Value × Nat) 1 y9_13 (fun s_ => [(35, s_.1), (7, .pointer (some ⟨s_.2, 0, none⟩)), (36, .agg #[.int .i64 a0_0, .int .i64 a0_1, .int .i64 a0_2, .int .i64 a0_3, s_.1])]) (fun s_ w' => (w'.cell? ⟨gb188, 0, none⟩ = some (.int .i64 a0_0) ∧ w'.cell? ⟨gb188, 1, none⟩ = some (.int .i64 a0_1) ∧ w'.cell? ⟨gb188, 2, none⟩ = some (.int .i64 a0_2) ∧ w'.cell? ⟨gb188, 3, none⟩ = some (.int .i64 a0_3)) ∧ (Kd.R (Kd.int .i64) 3 w' w.heap.size (fun _ => True) s_.1 y191) ∧ (w'.heap[gb188]? = some (.cells #[.int .i64 a0_0, .int .i64 a0_1, .int .i64 a0_2, .int .i64 a0_3] 35 (0, 0))) ∧ (w'.heap[gb189]? = some (.cells #[.int .i64 0, .int .i64 0, .int .i64 0, .int .i64 0, .slice none 0 0] 52 (0, 0))) ∧ (w'.heap[s_.2]? = some (.cells #[.int .i64 0, .int .i64 0, .int .i64 0, .int .i64 0, .slice none 0 0] 52 (0, 0))) ∧ (w.heap.size ≤ s_.2) ∧ (w.heap.size ≤ s_.2) ∧ (gb188 ≠ s_.2) ∧ (s_.2 ≠ gb188) ∧ (gb189 ≠ s_.2) ∧ (s_.2 ≠ gb189) ∧ (Below w.heap.size w w')) ?_ ?_
     rotate_left
     ·intro hCont
      refine two_ (i := 8) (j := 10) (Ni := some 35) (Nj := some 7) #[true, true, true, true, true, true, true, true, true, false, false, false] #[true, true, true, true, true, true, true, true, false, false, true, false] rfl rfl rfl rfl (two_of HT_.out (by kernel_rfl)) (by decide) (by decide) (fun K hK => ?_) (fun K hK => ?_)
      ·skip
       refine Kd.R_make_step (Kd.int .i64) _ 3 (by rfl) (N := 35) rfl 26 _ _ rfl ji11 rfl rfl Try.underlying26 (.int .i64 0) 8 info3 rfl (by decide) (by omega) 0 (ok := fun _ => True) (okp := fun _ => True) rfl (fun _ hk => hk) trivial (of_decide_eq_true (by first | (with_reducible assumption) | assumption)) (Nat.le_trans (Nat.mul_le_mul_right _ (of_decide_eq_true (by first | (with_reducible assumption) | assumption) : ji11.toNat ≤ 35184372088832)) (by omega)) (Below.refl _ _) (Nat.le_refl _) ?_
       intro v192 w21 ho22 hb hg_ hnew_; clear hg_ hnew_
       (first | rw [← Ny191.out] at ho22 | (simp only [Int.reduceToNat] at ho22; rw [← Ny191.out] at ho22))
       have n0_ := Aside0.mk (Kd.R_lower ho22 (below_size z9_6))
       have n1_ := Aside0.mk (blk_below (g := gb188) (o := .cells #[.int .i64 a0_0, .int .i64 a0_1, .int .i64 a0_2, .int .i64 a0_3] 35 (0, 0)) z9_2 hb)
       have n2_ := Aside0.mk (blk_below (g := gb189) (o := .cells #[.int .i64 0, .int .i64 0, .int .i64 0, .int .i64 0, .slice none 0 0] 52 (0, 0)) z9_4 hb)
       have n3_ := Aside0.mk (below_step z9_6 hb)
       clear BK188; clear BK189; clear HB; have HO193 := n0_; have BK188 := n1_; have BK189 := n2_; have HB := n3_; clear n0_ n1_ n2_ n3_; clear hb ho22
       obtain ⟨Ao23, co23, eo23⟩ := Kd.R_slice HO193.out
       (first | subst eo23 | (injection eo23 with f1_ f2_ f3_; have f4_ := f1_.symm; have f5_ := f3_.symm; clear f1_ f2_ f3_; subst f4_; subst f5_))
       refine hK.out _ _ ⟨(blk_cell BK188.out 0).trans rfl, (blk_cell BK188.out 1).trans rfl, (blk_cell BK188.out 2).trans rfl, (blk_cell BK188.out 3).trans rfl⟩ (fun hHeld => ?_)
       clear hK K
       refine norm_ (a' := ?_) ?_ ?_
       rotate_left
       ·show Act.put _ (some 35) _ = _
        simp only [Act.put, List.setIfInBounds_toArray, List.set_cons_zero, List.set_cons_succ, i64_w, i32_w]
        rfl
       refine pure_ (i := 9) (N := some 36) (v := ?_) (a' := ?_) #[true, true, true, true, true, true, true, true, true, true, false, false] rfl rfl (any_of HT_.out (by kernel_rfl)) (fun _ _ _ h => h) (Or.inl ⟨by rfl, ?_⟩) ?_ ?_; rotate_left
       ·intro w'
        go_simp; with_reducible rfl
       rotate_left
       ·exact x9_put
       refine one_ (i := 10) (N := some 7) y9_13 rfl rfl (one_of HT_.out (by kernel_rfl)) (by decide) (fun K hK => ?_)
       refine box_step ?hg (N := 7) ?hd (cs := #[.int .i64 0, .int .i64 0, .int .i64 0, .int .i64 0, .slice none 0 0]) (t := 52) ?hr ?_; (case hd => rfl); (case hg => rfl); (case hr => first | (go_simp; done) | (go_simp; rfl))
       intro gb194 hg w24 hbox hb
       have n0_ := Aside0.mk (Kd.R_below z9_19 hb)
       have n1_ := Aside0.mk (blk_below (g := gb188) (o := .cells #[.int .i64 a0_0, .int .i64 a0_1, .int .i64 a0_2, .int .i64 a0_3] 35 (0, 0)) z9_2 hb)
       have n2_ := Aside0.mk (blk_below (g := gb189) (o := .cells #[.int .i64 0, .int .i64 0, .int .i64 0, .int .i64 0, .slice none 0 0] 52 (0, 0)) z9_4 hb)
       have n3_ := Aside0.mk (below_step z9_6 hb)
       have n4_ := Aside0.mk (hbox)
       have n5_ := Aside0.mk ((by rw [hg]; exact (below_size z9_6) : w.heap.size ≤ gb194))
       have n6_ := Aside0.mk ((by rw [hg]; exact (below_size z9_6) : w.heap.size ≤ gb194))
       have n7_ := Aside0.mk ((by rw [hg]; exact Nat.ne_of_lt (blk_lt (g := gb188) (o := .cells #[.int .i64 a0_0, .int .i64 a0_1, .int .i64 a0_2, .int .i64 a0_3] 35 (0, 0)) z9_2) : gb188 ≠ gb194))
       have n8_ := Aside0.mk ((by rw [hg]; exact Nat.ne_of_gt (blk_lt (g := gb188) (o := .cells #[.int .i64 a0_0, .int .i64 a0_1, .int .i64 a0_2, .int .i64 a0_3] 35 (0, 0)) z9_2) : gb194 ≠ gb188))
       have n9_ := Aside0.mk ((by rw [hg]; exact Nat.ne_of_lt (blk_lt (g := gb189) (o := .cells #[.int .i64 0, .int .i64 0, .int .i64 0, .int .i64 0, .slice none 0 0] 52 (0, 0)) z9_4) : gb189 ≠ gb194))
       have n10_ := Aside0.mk ((by rw [hg]; exact Nat.ne_of_gt (blk_lt (g := gb189) (o := .cells #[.int .i64 0, .int .i64 0, .int .i64 0, .int .i64 0, .slice none 0 0] 52 (0, 0)) z9_4) : gb194 ≠ gb189))
       clear HO193; clear BK188; clear BK189; clear HB; have HO193 := n0_; have BK188 := n1_; have BK189 := n2_; have HB := n3_; have BK194 := n4_; have GW194 := n5_; have GE194 := n6_; have NB188_194 := n7_; have NB194_188 := n8_; have NB189_194 := n9_; have NB194_189 := n10_; clear n0_ n1_ n2_ n3_ n4_ n5_ n6_ n7_ n8_ n9_ n10_; clear hb hbox hg
       refine hK.out _ _ ⟨(blk_cell BK188.out 0).trans rfl, (blk_cell BK188.out 1).trans rfl, (blk_cell BK188.out 2).trans rfl, (blk_cell BK188.out 3).trans rfl⟩ (fun hHeld => ?_)
       clear hK K
       refine norm_ (a' := ?_) ?_ ?_
       rotate_left
       ·show Act.put _ (some 7) _ = _
        simp only [Act.put, List.setIfInBounds_toArray, List.set_cons_zero, List.set_cons_succ, i64_w, i32_w]
        rfl
       exact norm_ (by simp only [putAll, Act.put, List.setIfInBounds_toArray, List.set_cons_zero, List.set_cons_succ]) (hCont (.slice Ao23 y191.length co23, gb194) _ ⟨hHeld, z9_19, z9_2, z9_4, z9_12, GW194.out, GE194.out, NB188_194.out, NB194_188.out, NB189_194.out, NB194_189.out, z9_3⟩)
      ·skip
       refine box_step ?hg (N := 7) ?hd (cs := #[.int .i64 0, .int .i64 0, .int .i64 0, .int .i64 0, .slice none 0 0]) (t := 52) ?hr ?_; (case hd => rfl); (case hg => rfl); (case hr => first | (go_simp; done) | (go_simp; rfl))
       intro gb194 hg w21 hbox hb
       have n0_ := Aside0.mk (blk_below (g := gb188) (o := .cells #[.int .i64 a0_0, .int .i64 a0_1, .int .i64 a0_2, .int .i64 a0_3] 35 (0, 0)) z9_2 hb)
       have n1_ := Aside0.mk (blk_below (g := gb189) (o := .cells #[.int .i64 0, .int .i64 0, .int .i64 0, .int .i64 0, .slice none 0 0] 52 (0, 0)) z9_4 hb)
       have n2_ := Aside0.mk (below_step z9_6 hb)
       have n3_ := Aside0.mk (hbox)
       have n4_ := Aside0.mk ((by rw [hg]; exact (below_size z9_6) : w.heap.size ≤ gb194))
       have n5_ := Aside0.mk ((by rw [hg]; exact (below_size z9_6) : w.heap.size ≤ gb194))
       have n6_ := Aside0.mk ((by rw [hg]; exact Nat.ne_of_lt (blk_lt (g := gb188) (o := .cells #[.int .i64 a0_0, .int .i64 a0_1, .int .i64 a0_2, .int .i64 a0_3] 35 (0, 0)) z9_2) : gb188 ≠ gb194))
       have n7_ := Aside0.mk ((by rw [hg]; exact Nat.ne_of_gt (blk_lt (g := gb188) (o := .cells #[.int .i64 a0_0, .int .i64 a0_1, .int .i64 a0_2, .int .i64 a0_3] 35 (0, 0)) z9_2) : gb194 ≠ gb188))
       have n8_ := Aside0.mk ((by rw [hg]; exact Nat.ne_of_lt (blk_lt (g := gb189) (o := .cells #[.int .i64 0, .int .i64 0, .int .i64 0, .int .i64 0, .slice none 0 0] 52 (0, 0)) z9_4) : gb189 ≠ gb194))
       have n9_ := Aside0.mk ((by rw [hg]; exact Nat.ne_of_gt (blk_lt (g := gb189) (o := .cells #[.int .i64 0, .int .i64 0, .int .i64 0, .int .i64 0, .slice none 0 0] 52 (0, 0)) z9_4) : gb194 ≠ gb189))
       clear BK188; clear BK189; clear HB; have BK188 := n0_; have BK189 := n1_; have HB := n2_; have BK194 := n3_; have GW194 := n4_; have GE194 := n5_; have NB188_194 := n6_; have NB194_188 := n7_; have NB189_194 := n8_; have NB194_189 := n9_; clear n0_ n1_ n2_ n3_ n4_ n5_ n6_ n7_ n8_ n9_; clear hb hbox hg
       refine hK.out _ _ ⟨(blk_cell BK188.out 0).trans rfl, (blk_cell BK188.out 1).trans rfl, (blk_cell BK188.out 2).trans rfl, (blk_cell BK188.out 3).trans rfl⟩ (fun hHeld => ?_)
       clear hK K
       refine norm_ (a' := ?_) ?_ ?_
       rotate_left
       ·show Act.put _ (some 7) _ = _
        simp only [Act.put, List.setIfInBounds_toArray, List.set_cons_zero, List.set_cons_succ, i64_w, i32_w]
        rfl
       refine one_ (i := 8) (N := some 35) #[true, true, true, true, true, true, true, true, true, false, true, false] rfl rfl (one_of HT_.out (by kernel_rfl)) (by decide) (fun K hK => ?_)
       refine Kd.R_make_step (Kd.int .i64) _ 3 (by rfl) (N := 35) rfl 26 _ _ rfl ji11 rfl rfl Try.underlying26 (.int .i64 0) 8 info3 rfl (by decide) (by omega) 0 (ok := fun _ => True) (okp := fun _ => True) rfl (fun _ hk => hk) trivial (of_decide_eq_true (by first | (with_reducible assumption) | assumption)) (Nat.le_trans (Nat.mul_le_mul_right _ (of_decide_eq_true (by first | (with_reducible assumption) | assumption) : ji11.toNat ≤ 35184372088832)) (by omega)) (Below.refl _ _) (Nat.le_refl _) ?_
       intro v192 w22 ho23 hb hg_ hnew_; clear hg_ hnew_
       (first | rw [← Ny191.out] at ho23 | (simp only [Int.reduceToNat] at ho23; rw [← Ny191.out] at ho23))
       have n0_ := Aside0.mk (Kd.R_lower ho23 (below_size z9_3))
       have n1_ := Aside0.mk (blk_below (g := gb188) (o := .cells #[.int .i64 a0_0, .int .i64 a0_1, .int .i64 a0_2, .int .i64 a0_3] 35 (0, 0)) z9_2 hb)
       have n2_ := Aside0.mk (blk_below (g := gb189) (o := .cells #[.int .i64 0, .int .i64 0, .int .i64 0, .int .i64 0, .slice none 0 0] 52 (0, 0)) z9_4 hb)
       have n3_ := Aside0.mk (blk_below (g := gb194) (o := .cells #[.int .i64 0, .int .i64 0, .int .i64 0, .int .i64 0, .slice none 0 0] 52 (0, 0)) z9_12 hb)
       have n4_ := Aside0.mk (below_step z9_3 hb)
       clear BK188; clear BK189; clear BK194; clear HB; have HO193 := n0_; have BK188 := n1_; have BK189 := n2_; have BK194 := n3_; have HB := n4_; clear n0_ n1_ n2_ n3_ n4_; clear hb ho23
       obtain ⟨Ao24, co24, eo24⟩ := Kd.R_slice HO193.out
       (first | subst eo24 | (injection eo24 with f1_ f2_ f3_; have f4_ := f1_.symm; have f5_ := f3_.symm; clear f1_ f2_ f3_; subst f4_; subst f5_))
       refine hK.out _ _ ⟨(blk_cell BK188.out 0).trans rfl, (blk_cell BK188.out 1).trans rfl, (blk_cell BK188.out 2).trans rfl, (blk_cell BK188.out 3).trans rfl⟩ (fun hHeld => ?_)
       clear hK K
       refine norm_ (a' := ?_) ?_ ?_
       rotate_left
       ·show Act.put _ (some 35) _ = _
        simp only [Act.put, List.setIfInBounds_toArray, List.set_cons_zero, List.set_cons_succ, i64_w, i32_w]
        rfl
       refine pure_ (i := 9) (N := some 36) (v := ?_) (a' := ?_) y9_13 rfl rfl (any_of HT_.out (by kernel_rfl)) (fun _ _ _ h => h) (Or.inl ⟨by rfl, ?_⟩) ?_ ?_; rotate_left
       ·intro w'
        go_simp; with_reducible rfl
       rotate_left
       ·exact x9_put
       exact norm_ (by simp only [putAll, Act.put, List.setIfInBounds_toArray, List.set_cons_zero, List.set_cons_succ]) (hCont (.slice Ao24 y191.length co24, gb194) _ ⟨hHeld, z9_19, z9_2, z9_4, z9_12, GW194.out, GE194.out, NB188_194.out, NB194_188.out, NB189_194.out, NB194_189.out, z9_3⟩)
     rintro ⟨v192, gb194⟩ w25 ⟨hS_, h0_, h1_, h2_, h3_, h4_, h5_, h6_, h7_, h8_, h9_, h10_⟩
     have n0_ : Aside0 (Kd.R (Kd.int .i64) 3 w25 w.heap.size (fun _ => True) v192 y191) := ⟨h0_⟩
     have n1_ : Aside0 (w25.heap[gb188]? = some (.cells #[.int .i64 a0_0, .int .i64 a0_1, .int .i64 a0_2, .int .i64 a0_3] 35 (0, 0))) := ⟨h1_⟩
     have n2_ : Aside0 (w25.heap[gb189]? = some (.cells #[.int .i64 0, .int .i64 0, .int .i64 0, .int .i64 0, .slice none 0 0] 52 (0, 0))) := ⟨h2_⟩
     have n3_ : Aside0 (w25.heap[gb194]? = some (.cells #[.int .i64 0, .int .i64 0, .int .i64 0, .int .i64 0, .slice none 0 0] 52 (0, 0))) := ⟨h3_⟩
     have n4_ : Aside0 (w.heap.size ≤ gb194) := ⟨h4_⟩
     have n5_ : Aside0 (w.heap.size ≤ gb194) := ⟨h5_⟩
     have n6_ : Aside0 (gb188 ≠ gb194) := ⟨h6_⟩
     have n7_ : Aside0 (gb194 ≠ gb188) := ⟨h7_⟩
     have n8_ : Aside0 (gb189 ≠ gb194) := ⟨h8_⟩
     have n9_ : Aside0 (gb194 ≠ gb189) := ⟨h9_⟩
     have n10_ : Aside0 (Below w.heap.size w w25) := ⟨h10_⟩
     clear BK188; clear BK189; clear HB; clear h0_ h1_ h2_ h3_ h4_ h5_ h6_ h7_ h8_ h9_ h10_; have HO193 := n0_; have BK188 := n1_; have BK189 := n2_; have BK194 := n3_; have GW194 := n4_; have GE194 := n5_; have NB188_194 := n6_; have NB194_188 := n7_; have NB189_194 := n8_; have NB194_189 := n9_; have HB := n10_; clear n0_ n1_ n2_ n3_ n4_ n5_ n6_ n7_ n8_ n9_ n10_
     have hHeld : w25.cell? ⟨gb188, 0, none⟩ = some (.int .i64 a0_0) ∧ w25.cell? ⟨gb188, 1, none⟩ = some (.int .i64 a0_1) ∧ w25.cell? ⟨gb188, 2, none⟩ = some (.int .i64 a0_2) ∧ w25.cell? ⟨gb188, 3, none⟩ = some (.int .i64 a0_3) := hS_
     obtain ⟨Ao26, co26, eo26⟩ := Kd.R_slice HO193.out
     (first | subst eo26 | (injection eo26 with f1_ f2_ f3_; have f4_ := f1_.symm; have f5_ := f3_.symm; clear f1_ f2_ f3_; subst f4_; subst f5_))
     refine norm_ (a' := ?_) ?_ ?_
     rotate_left
     ·simp only [putAll, Act.put, List.setIfInBounds_toArray, List.set_cons_zero, List.set_cons_succ]
      rfl
     refine one_ (i := 11) (N := none) #[true, true, true, true, true, true, true, true, true, true, true, true] rfl rfl (one_of HT_.out (by kernel_rfl)) (by decide) (fun K hK => ?_)
     have hs27 : w25.cell? ⟨gb194, 0, none⟩ = some (.int .i64 0) := (blk_cell BK194.out 0).trans rfl
     have hfs27 := blk_frozen BK194.out 0
     have hns27_0 := NB188_194.out; have hns27_1 := NB189_194.out; have hms27_0 := NB194_188.out; have hms27_1 := NB194_189.out
     have hs28 : w25.cell? ⟨gb194, 1, none⟩ = some (.int .i64 0) := (blk_cell BK194.out 1).trans rfl
     have hfs28 := blk_frozen BK194.out 1
     have hns28_0 := NB188_194.out; have hns28_1 := NB189_194.out; have hms28_0 := NB194_188.out; have hms28_1 := NB194_189.out
     have hs29 : w25.cell? ⟨gb194, 2, none⟩ = some (.int .i64 0) := (blk_cell BK194.out 2).trans rfl
     have hfs29 := blk_frozen BK194.out 2
     have hns29_0 := NB188_194.out; have hns29_1 := NB189_194.out; have hms29_0 := NB194_188.out; have hms29_1 := NB194_189.out
     have hs30 : w25.cell? ⟨gb194, 3, none⟩ = some (.int .i64 0) := (blk_cell BK194.out 3).trans rfl
     have hfs30 := blk_frozen BK194.out 3
     have hns30_0 := NB188_194.out; have hns30_1 := NB189_194.out; have hms30_0 := NB194_188.out; have hms30_1 := NB194_189.out
     have hs31 : w25.cell? ⟨gb194, 4, none⟩ = some (.slice none 0 0) := (blk_cell BK194.out 4).trans rfl
     have hfs31 := blk_frozen BK194.out 4
     have hns31_0 := NB188_194.out; have hns31_1 := NB189_194.out; have hms31_0 := NB194_188.out; have hms31_1 := NB194_189.out
     refine skip_ (w1 := ?_) (by rfl) rfl ?_ ?_
     rotate_left
     ·go_simp
      rfl
     refine hK.out _ _ ⟨((cell_far (p := ⟨gb194, _, none⟩) NB188_194.out _).trans (((cell_far (p := ⟨gb194, _, none⟩) NB188_194.out _).trans (((cell_far (p := ⟨gb194, _, none⟩) NB188_194.out _).trans (((cell_far (p := ⟨gb194, _, none⟩) NB188_194.out _).trans (((cell_far (p := ⟨gb194, _, none⟩) NB188_194.out _).trans (hHeld.1)))))))))), ((cell_far (p := ⟨gb194, _, none⟩) NB188_194.out _).trans (((cell_far (p := ⟨gb194, _, none⟩) NB188_194.out _).trans (((cell_far (p := ⟨gb194, _, none⟩) NB188_194.out _).trans (((cell_far (p := ⟨gb194, _, none⟩) NB188_194.out _).trans (((cell_far (p := ⟨gb194, _, none⟩) NB188_194.out _).trans (hHeld.2.1)))))))))), ((cell_far (p := ⟨gb194, _, none⟩) NB188_194.out _).trans (((cell_far (p := ⟨gb194, _, none⟩) NB188_194.out _).trans (((cell_far (p := ⟨gb194, _, none⟩) NB188_194.out _).trans (((cell_far (p := ⟨gb194, _, none⟩) NB188_194.out _).trans (((cell_far (p := ⟨gb194, _, none⟩) NB188_194.out _).trans (hHeld.2.2.1)))))))))), ((cell_far (p := ⟨gb194, _, none⟩) NB188_194.out _).trans (((cell_far (p := ⟨gb194, _, none⟩) NB188_194.out _).trans (((cell_far (p := ⟨gb194, _, none⟩) NB188_194.out _).trans (((cell_far (p := ⟨gb194, _, none⟩) NB188_194.out _).trans (((cell_far (p := ⟨gb194, _, none⟩) NB188_194.out _).trans (hHeld.2.2.2))))))))))⟩ (fun hHeld => ?_)
     clear hK K
     refine done_ (done_of HT_.out (by kernel_rfl)) ?_
     try go_wp2
     go_loopg [39] k (fun kq v39 w' => ∃ (x39_1 : Int) (x190000_1 : Int) (x190001_1 : Int) (x190002_1 : Int) (x190003_1 : Int) (x195004_1 : List Int) (u195004 : Value), v39 = .int .i64 x39_1 ∧ Aside0 (impl_MaskBy.l0 kq l1 (wrap64 (a0_2 - a0_0)) l1 (l1.length : Int) x39_1 a0_0 a0_1 a0_2 a0_3 a0_0 a0_1 a0_2 a0_3 x195004_1 = some (r1, r2, r3, r4, r5, r6)) ∧ Aside0 (kq ≤ k) ∧ Aside0 (Kd.R (Kd.int .i64) 3 w' w.heap.size (fun _ => True) u195004 x195004_1) ∧ Aside0 (w'.heap[gb188]? = some (.cells #[.int .i64 a0_0, .int .i64 a0_1, .int .i64 a0_2, .int .i64 a0_3] 35 (0, 0))) ∧ Aside0 (w'.heap[gb189]? = some (.cells #[.int .i64 x190000_1, .int .i64 x190001_1, .int .i64 x190002_1, .int .i64 x190003_1, (.slice none 0 0)] 52 (0, 0))) ∧ Aside0 (w'.heap[gb194]? = some (.cells #[.int .i64 a0_0, .int .i64 a0_1, .int .i64 a0_2, .int .i64 a0_3, u195004] 52 (0, 0))) ∧ Aside0 (Below w.heap.size w w'))
     case atStart => exact ⟨(0), (0), (0), (0), (0), (y191), (.slice Ao26 y191.length co26), (by first | rfl | (simp; done) | (simp [*]; done)), H', ⟨Nat.le_refl _⟩, ⟨by (with_reducible repeat (first | apply Kd.R_alloc | apply Kd.R_drewN | apply Kd.R_drew)); exact Kd.R_mono (Kd.R_far (p := ⟨gb194, 4, none⟩) (Kd.R_far (p := ⟨gb194, 3, none⟩) (Kd.R_far (p := ⟨gb194, 2, none⟩) (Kd.R_far (p := ⟨gb194, 1, none⟩) (Kd.R_far (p := ⟨gb194, 0, none⟩) (Kd.R_types HO193.out BK194.out (by decide)) (fun _ hk => hk.2) (.int .i64 a0_0)) (fun _ hk => hk.2) (.int .i64 a0_1)) (fun _ hk => hk.2) (.int .i64 a0_2)) (fun _ hk => hk.2) (.int .i64 a0_3)) (fun _ hk => hk.2) (.slice Ao26 y191.length co26)) (fun _ hk => trivial)⟩, ⟨by (with_reducible repeat (first | refine blk_drewN ?_ _ | refine blk_drew ?_ | refine blk_alloc ?_ _)); refine blk_far ?_ NB188_194.out _; (with_reducible repeat (first | refine blk_drewN ?_ _ | refine blk_drew ?_ | refine blk_alloc ?_ _)); refine blk_far ?_ NB188_194.out _; (with_reducible repeat (first | refine blk_drewN ?_ _ | refine blk_drew ?_ | refine blk_alloc ?_ _)); refine blk_far ?_ NB188_194.out _; (with_reducible repeat (first | refine blk_drewN ?_ _ | refine blk_drew ?_ | refine blk_alloc ?_ _)); refine blk_far ?_ NB188_194.out _; (with_reducible repeat (first | refine blk_drewN ?_ _ | refine blk_drew ?_ | refine blk_alloc ?_ _)); refine blk_far ?_ NB188_194.out _; (with_reducible repeat (first | refine blk_drewN ?_ _ | refine blk_drew ?_ | refine blk_alloc ?_ _)); exact BK188.out⟩, ⟨by (with_reducible repeat (first | refine blk_drewN ?_ _ | refine blk_drew ?_ | refine blk_alloc ?_ _)); refine blk_far ?_ NB189_194.out _; (with_reducible repeat (first | refine blk_drewN ?_ _ | refine blk_drew ?_ | refine blk_alloc ?_ _)); refine blk_far ?_ NB189_194.out _; (with_reducible repeat (first | refine blk_drewN ?_ _ | refine blk_drew ?_ | refine blk_alloc ?_ _)); refine blk_far ?_ NB189_194.out _; (with_reducible repeat (first | refine blk_drewN ?_ _ | refine blk_drew ?_ | refine blk_alloc ?_ _)); refine blk_far ?_ NB189_194.out _; (with_reducible repeat (first | refine blk_drewN ?_ _ | refine blk_drew ?_ | refine blk_alloc ?_ _)); refine blk_far ?_ NB189_194.out _; (with_reducible repeat (first | refine blk_drewN ?_ _ | refine blk_drew ?_ | refine blk_alloc ?_ _)); exact BK189.out⟩, ⟨by (with_reducible repeat (first | refine blk_drewN ?_ _ | refine blk_drew ?_ | refine blk_alloc ?_ _)); refine blk_put (cs := #[.int .i64 a0_0, .int .i64 a0_1, .int .i64 a0_2, .int .i64 a0_3, .slice none 0 0]) ?_ 4 _ rfl; (with_reducible repeat (first | refine blk_drewN ?_ _ | refine blk_drew ?_ | refine blk_alloc ?_ _)); refine blk_put (cs := #[.int .i64 a0_0, .int .i64 a0_1, .int .i64 a0_2, .int .i64 0, .slice none 0 0]) ?_ 3 _ rfl; (with_reducible repeat (first | refine blk_drewN ?_ _ | refine blk_drew ?_ | refine blk_alloc ?_ _)); refine blk_put (cs := #[.int .i64 a0_0, .int .i64 a0_1, .int .i64 0, .int .i64 0, .slice none 0 0]) ?_ 2 _ rfl; (with_reducible repeat (first | refine blk_drewN ?_ _ | refine blk_drew ?_ | refine blk_alloc ?_ _)); refine blk_put (cs := #[.int .i64 a0_0, .int .i64 0, .int .i64 0, .int .i64 0, .slice none 0 0]) ?_ 1 _ rfl; (with_reducible repeat (first | refine blk_drewN ?_ _ | refine blk_drew ?_ | refine blk_alloc ?_ _)); refine blk_put (cs := #[.int .i64 0, .int .i64 0, .int .i64 0, .int .i64 0, .slice none 0 0]) ?_ 0 _ rfl; (with_reducible repeat (first | refine blk_drewN ?_ _ | refine blk_drew ?_ | refine blk_alloc ?_ _)); exact BK194.out⟩, ⟨by repeat (first | (with_reducible first | exact HB.out | apply below_alloc | apply pw_below_drewN | apply below_drew1 | refine below_set ?_ GE188.out | refine below_set ?_ GE189.out | refine below_set ?_ GE194.out) | exact HB.out)⟩⟩
     case round =>
      clear H'
      try clear c1
      try clear p2
      try clear c3
      try clear c3b0
      try clear c3b1
      try clear c3b2
      try clear c6
      try clear p6
      try clear c10
      try clear c12
      try clear c12b0
      try clear c12b1
      try clear c13
      try clear c13b0
      try clear c13b1
      try clear c16
      try clear hcz17_0
      try clear hcz17_1
      try clear hcz17_2
      try clear hcz17_3
      try clear hcz19_0
      try clear hcz19_1
      try clear hcz19_2
      try clear hcz19_3
      try clear hcz7_0
      try clear hcz7_1
      try clear hcz7_2
      try clear hcz7_3
      try clear hcz8_0
      try clear hcz8_1
      try clear hcz8_2
      try clear hcz8_3
      try clear hcz8_4
      try clear hfz17_0
      try clear hfz17_1
      try clear hfz17_2
      try clear hfz17_3
      try clear hfz19_0
      try clear hfz19_1
      try clear hfz19_2
      try clear hfz19_3
      try clear hfz7_0
      try clear hfz7_1
      try clear hfz7_2
      try clear hfz7_3
      try clear hfz8_0
      try clear hfz8_1
      try clear hfz8_2
      try clear hfz8_3
      try clear hfz8_4
      obtain ⟨x39_1, x190000_1, x190001_1, x190002_1, x190003_1, x195004_1, u195004, rfl, HA, HK1, HO_195004, BK188, BK189, BK194, HB⟩ := hrel
      cases gk with
      | zero => exact absurd HA.out (by simp [impl_MaskBy.l0])
      | succ k1 =>
       have H := HA.out; clear HA
       simp only [impl_MaskBy.l0] at H
       by_cases c32 : x39_1 < (l1.length : Int)
       ·rw [if_pos c32] at H
        have c32b0 : decide (x39_1 < (l1.length : Int)) = true := decide_eq_true c32
        clear c32
        by_cases c33 : 0 ≤ x39_1
        ·rw [if_pos c33] at H
         have c33b0 : decide (0 ≤ x39_1) = true := decide_eq_true c33
         clear c33
         by_cases c34 : x39_1 < (l1.length : Int)
         ·rw [if_pos c34] at H
          have c34b0 : decide (x39_1 < (l1.length : Int)) = true := decide_eq_true c34
          clear c34
          have HC35 := Aside0.mk H
          clear H
          have p195 : 0 ≤ (x39_1 : Int) := of_decide_eq_true (by first | (with_reducible assumption) | assumption)
          have q195 : x39_1 < (l1.length : Int) := of_decide_eq_true (by first | (with_reducible assumption) | assumption)
          obtain ⟨ad195, e195, hx195_0, hx195_1, hx195_2, hx195_3⟩ := at_T129 HR1.out x39_1 p195 q195
          cases e195
          replace hx195_0 := (HB.out.cell (World.block_lt_of_cell? w _ hx195_0)).trans hx195_0
          replace hx195_1 := (HB.out.cell (World.block_lt_of_cell? w _ hx195_1)).trans hx195_1
          replace hx195_2 := (HB.out.cell (World.block_lt_of_cell? w _ hx195_2)).trans hx195_2
          replace hx195_3 := (HB.out.cell (World.block_lt_of_cell? w _ hx195_3)).trans hx195_3
          replace p195 := eq_true p195
          replace q195 := eq_true q195
          go_upto_region 10 with (first | ((with_reducible refine gate_dst (N := 9) rfl ?_); refine box_event ?hg (N := 9) ?hd (cs := #[.int .i64 0, .int .i64 0, .int .i64 0, .int .i64 0]) (t := 129) ?hr ?_; (case hd => rfl); (case hg => rfl); (case hr => first | (go_simp; done) | (go_simp; rfl)); intro gb196 hg w36 hbox hb; have n0_ := Aside0.mk (Kd.R_below z9_18 hb); have n1_ := Aside0.mk (blk_below (g := gb188) (o := .cells #[.int .i64 a0_0, .int .i64 a0_1, .int .i64 a0_2, .int .i64 a0_3] 35 (0, 0)) z9_2 hb); have n2_ := Aside0.mk (blk_below (g := gb189) (o := .cells #[.int .i64 x190000_1, .int .i64 x190001_1, .int .i64 x190002_1, .int .i64 x190003_1, .slice none 0 0] 52 (0, 0)) z9_4 hb); have n3_ := Aside0.mk (blk_below (g := gb194) (o := .cells #[.int .i64 a0_0, .int .i64 a0_1, .int .i64 a0_2, .int .i64 a0_3, u195004] 52 (0, 0)) z9_12 hb); have n4_ := Aside0.mk (below_step z9_3 hb); have n5_ := Aside0.mk (hbox); have n6_ := Aside0.mk ((by rw [hg]; exact (below_size z9_3) : w.heap.size ≤ gb196)); have n7_ := Aside0.mk ((by rw [hg]; exact (below_size z9_3) : w.heap.size ≤ gb196)); have n8_ := Aside0.mk ((by rw [hg]; exact Nat.ne_of_lt (blk_lt (g := gb188) (o := .cells #[.int .i64 a0_0, .int .i64 a0_1, .int .i64 a0_2, .int .i64 a0_3] 35 (0, 0)) z9_2) : gb188 ≠ gb196)); have n9_ := Aside0.mk ((by rw [hg]; exact Nat.ne_of_gt (blk_lt (g := gb188) (o := .cells #[.int .i64 a0_0, .int .i64 a0_1, .int .i64 a0_2, .int .i64 a0_3] 35 (0, 0)) z9_2) : gb196 ≠ gb188)); have n10_ := Aside0.mk ((by rw [hg]; exact Nat.ne_of_lt (blk_lt (g := gb189) (o := .cells #[.int .i64 x190000_1, .int .i64 x190001_1, .int .i64 x190002_1, .int .i64 x190003_1, .slice none 0 0] 52 (0, 0)) z9_4) : gb189 ≠ gb196)); have n11_ := Aside0.mk ((by rw [hg]; exact Nat.ne_of_gt (blk_lt (g := gb189) (o := .cells #[.int .i64 x190000_1, .int .i64 x190001_1, .int .i64 x190002_1, .int .i64 x190003_1, .slice none 0 0] 52 (0, 0)) z9_4) : gb196 ≠ gb189)); have n12_ := Aside0.mk ((by rw [hg]; exact Nat.ne_of_lt (blk_lt (g := gb194) (o := .cells #[.int .i64 a0_0, .int .i64 a0_1, .int .i64 a0_2, .int .i64 a0_3, u195004] 52 (0, 0)) z9_12) : gb194 ≠ gb196)); have n13_ := Aside0.mk ((by rw [hg]; exact Nat.ne_of_gt (blk_lt (g := gb194) (o := .cells #[.int .i64 a0_0, .int .i64 a0_1, .int .i64 a0_2, .int .i64 a0_3, u195004] 52 (0, 0)) z9_12) : gb196 ≠ gb194)); clear HO_195004; clear BK188; clear BK189; clear BK194; clear HB; have HO_195004 := n0_; have BK188 := n1_; have BK189 := n2_; have BK194 := n3_; have HB := n4_; have BK196 := n5_; have GW196 := n6_; have GE196 := n7_; have NB188_196 := n8_; have NB196_188 := n9_; have NB189_196 := n10_; have NB196_189 := n11_; have NB194_196 := n12_; have NB196_194 := n13_; clear n0_ n1_ n2_ n3_ n4_ n5_ n6_ n7_ n8_ n9_ n10_ n11_ n12_ n13_; clear hb hbox hg; have hnb37 := NB196_188.out; have hnc37 := NB188_196.out; have hnb38 := NB196_189.out; have hnc38 := NB189_196.out; have hnb39 := NB196_194.out; have hnc39 := NB194_196.out; have hcz40_0 : w36.cell? ⟨gb196, 0, none⟩ = some (.int .i64 0) := (blk_cell BK196.out 0).trans rfl; have hcz40_1 : w36.cell? ⟨gb196, 1, none⟩ = some (.int .i64 0) := (blk_cell BK196.out 1).trans rfl; have hcz40_2 : w36.cell? ⟨gb196, 2, none⟩ = some (.int .i64 0) := (blk_cell BK196.out 2).trans rfl; have hcz40_3 : w36.cell? ⟨gb196, 3, none⟩ = some (.int .i64 0) := (blk_cell BK196.out 3).trans rfl; have hfz40_0 := blk_frozen BK196.out 0; have hfz40_1 := blk_frozen BK196.out 1; have hfz40_2 := blk_frozen BK196.out 2; have hfz40_3 := blk_frozen BK196.out 3))
          (try simp only [Act.put, List.setIfInBounds_toArray, List.set_cons_zero, List.set_cons_succ])
          go_cut [63] (fun v63 wc => ∃ (kq : Nat) (x63_34 : Bool), v63 = .bool x63_34 ∧ Aside0 (impl_MaskBy.j1 kq l1 (wrap64 (a0_2 - a0_0)) l1 (l1.length : Int) x39_1 x63_34 a0_0 a0_1 a0_2 a0_3 a0_0 a0_1 a0_2 a0_3 x195004_1 ((rd_T129 l1 x39_1).f0) ((rd_T129 l1 x39_1).f1) ((rd_T129 l1 x39_1).f2) ((rd_T129 l1 x39_1).f3) = some (r1, r2, r3, r4, r5, r6)) ∧ Aside0 (kq ≤ k1) ∧ Aside0 (Kd.R (Kd.int .i64) 3 wc w.heap.size (fun _ => True) u195004 x195004_1) ∧ Aside0 (wc.heap[gb188]? = some (.cells #[.int .i64 a0_0, .int .i64 a0_1, .int .i64 a0_2, .int .i64 a0_3] 35 (0, 0))) ∧ Aside0 (wc.heap[gb189]? = some (.cells #[.int .i64 x190000_1, .int .i64 x190001_1, .int .i64 x190002_1, .int .i64 x190003_1, (.slice none 0 0)] 52 (0, 0))) ∧ Aside0 (wc.heap[gb194]? = some (.cells #[.int .i64 a0_0, .int .i64 a0_1, .int .i64 a0_2, .int .i64 a0_3, u195004] 52 (0, 0))) ∧ Aside0 (wc.heap[gb196]? = some (.cells #[.int .i64 ((rd_T129 l1 x39_1).f0), .int .i64 ((rd_T129 l1 x39_1).f1), .int .i64 ((rd_T129 l1 x39_1).f2), .int .i64 ((rd_T129 l1 x39_1).f3)] 129 (0, 0))) ∧ Aside0 (Below w.heap.size w wc))
          case first =>
           have H := HC35.out; clear HC35
           replace H := Option.bind_eq_some_iff.mp H
           obtain ⟨t197, A410, H⟩ := H
           replace H : (if t197 = true then (if ((rd_T129 l1 x39_1).f2) > a0_2 then (impl_MaskBy.j1 k1 l1 (wrap64 (a0_2 - a0_0)) l1 (l1.length : Int) x39_1 true a0_0 a0_1 a0_2 a0_3 a0_0 a0_1 a0_2 a0_3 x195004_1 ((rd_T129 l1 x39_1).f0) ((rd_T129 l1 x39_1).f1) ((rd_T129 l1 x39_1).f2) ((rd_T129 l1 x39_1).f3)) else ((impl_inRange.f ((rd_T129 l1 x39_1).f3) 1 15).bind fun t198 => (impl_MaskBy.j1 k1 l1 (wrap64 (a0_2 - a0_0)) l1 (l1.length : Int) x39_1 (!t198) a0_0 a0_1 a0_2 a0_3 a0_0 a0_1 a0_2 a0_3 x195004_1 ((rd_T129 l1 x39_1).f0) ((rd_T129 l1 x39_1).f1) ((rd_T129 l1 x39_1).f2) ((rd_T129 l1 x39_1).f3)))) else (impl_MaskBy.j1 k1 l1 (wrap64 (a0_2 - a0_0)) l1 (l1.length : Int) x39_1 true a0_0 a0_1 a0_2 a0_3 a0_0 a0_1 a0_2 a0_3 x195004_1 ((rd_T129 l1 x39_1).f0) ((rd_T129 l1 x39_1).f1) ((rd_T129 l1 x39_1).f2) ((rd_T129 l1 x39_1).f3))) = some (r1, r2, r3, r4, r5, r6) := H
           have A41 := Aside0.mk A410
           clear A410
           by_cases c42 : t197 = true
           ·subst c42
            have H1 : (if ((rd_T129 l1 x39_1).f2) > a0_2 then (impl_MaskBy.j1 k1 l1 (wrap64 (a0_2 - a0_0)) l1 (l1.length : Int) x39_1 true a0_0 a0_1 a0_2 a0_3 a0_0 a0_1 a0_2 a0_3 x195004_1 ((rd_T129 l1 x39_1).f0) ((rd_T129 l1 x39_1).f1) ((rd_T129 l1 x39_1).f2) ((rd_T129 l1 x39_1).f3)) else ((impl_inRange.f ((rd_T129 l1 x39_1).f3) 1 15).bind fun t198 => (impl_MaskBy.j1 k1 l1 (wrap64 (a0_2 - a0_0)) l1 (l1.length : Int) x39_1 (!t198) a0_0 a0_1 a0_2 a0_3 a0_0 a0_1 a0_2 a0_3 x195004_1 ((rd_T129 l1 x39_1).f0) ((rd_T129 l1 x39_1).f1) ((rd_T129 l1 x39_1).f2) ((rd_T129 l1 x39_1).f3)))) = some (r1, r2, r3, r4, r5, r6) := by rw [if_pos rfl] at H; exact H
            clear H; have H := H1; clear H1
            by_cases c43 : ((rd_T129 l1 x39_1).f2) > a0_2
            ·rw [if_pos c43] at H
             have c43b0 : decide (a0_2 < ((rd_T129 l1 x39_1).f2)) = true := decide_eq_true c43
             clear c43
             (first | rw [c43b0] | (simp only [i64_w, i32_w]; rw [c43b0]) | skip)
             have H' := Aside0.mk H
             clear H; have hnb44 := NB188_189.out; have hnc44 := NB189_188.out; have hnb45 := NB188_194.out; have hnc45 := NB194_188.out; have hnb46 := NB188_196.out; have hnc46 := NB196_188.out
             have hcz47_0 : w36.cell? ⟨gb188, 0, none⟩ = some (.int .i64 a0_0) := (blk_cell BK188.out 0).trans rfl
             have hcz47_1 : w36.cell? ⟨gb188, 1, none⟩ = some (.int .i64 a0_1) := (blk_cell BK188.out 1).trans rfl
             have hcz47_2 : w36.cell? ⟨gb188, 2, none⟩ = some (.int .i64 a0_2) := (blk_cell BK188.out 2).trans rfl
             have hcz47_3 : w36.cell? ⟨gb188, 3, none⟩ = some (.int .i64 a0_3) := (blk_cell BK188.out 3).trans rfl
             have hfz47_0 := blk_frozen BK188.out 0
             have hfz47_1 := blk_frozen BK188.out 1
             have hfz47_2 := blk_frozen BK188.out 2
             have hfz47_3 := blk_frozen BK188.out 3
             have hnb48 := NB196_189.out; have hnc48 := NB189_196.out; have hnb49 := NB196_194.out; have hnc49 := NB194_196.out
             have hcz50_0 : w36.cell? ⟨gb196, 0, none⟩ = some (.int .i64 0) := (blk_cell BK196.out 0).trans rfl
             have hcz50_1 : w36.cell? ⟨gb196, 1, none⟩ = some (.int .i64 0) := (blk_cell BK196.out 1).trans rfl
             have hcz50_2 : w36.cell? ⟨gb196, 2, none⟩ = some (.int .i64 0) := (blk_cell BK196.out 2).trans rfl
             have hcz50_3 : w36.cell? ⟨gb196, 3, none⟩ = some (.int .i64 0) := (blk_cell BK196.out 3).trans rfl
             have hfz50_0 := blk_frozen BK196.out 0
             have hfz50_1 := blk_frozen BK196.out 1
             have hfz50_2 := blk_frozen BK196.out 2
             have hfz50_3 := blk_frozen BK196.out 3
             go_wp2_with (first | ((with_reducible refine gate_callee (f := 106) rfl ?_); refine goesL_ (some 49) rfl rfl Try.func106 (by kernel_rfl) rfl #[.agg #[.int .i64 a0_0, .int .i64 a0_1, .int .i64 a0_2, .int .i64 a0_3], .agg #[.int .i64 ((rd_T129 l1 x39_1).f1), .int .i64 ((rd_T129 l1 x39_1).f0)]] rfl z9_14 ?_; (with_reducible refine (impl_InBox.calls a0_0 a0_1 a0_2 a0_3 ((rd_T129 l1 x39_1).f1) ((rd_T129 l1 x39_1).f0) true _ A41.out).mono ?_); rintro e w51 ⟨rfl, hb⟩; refine ⟨_, rfl, ?_⟩; have n0_ := Aside0.mk (Kd.R_below z9_16 hb); have n1_ := Aside0.mk (blk_below (g := gb188) (o := .cells #[.int .i64 a0_0, .int .i64 a0_1, .int .i64 a0_2, .int .i64 a0_3] 35 (0, 0)) z9_8 hb); have n2_ := Aside0.mk (blk_below (g := gb189) (o := .cells #[.int .i64 x190000_1, .int .i64 x190001_1, .int .i64 x190002_1, .int .i64 x190003_1, .slice none 0 0] 52 (0, 0)) z9_9 hb); have n3_ := Aside0.mk (blk_below (g := gb194) (o := .cells #[.int .i64 a0_0, .int .i64 a0_1, .int .i64 a0_2, .int .i64 a0_3, u195004] 52 (0, 0)) z9_10 hb); have n4_ := Aside0.mk (blk_below (g := gb196) (o := .cells #[.int .i64 ((rd_T129 l1 x39_1).f0), .int .i64 ((rd_T129 l1 x39_1).f1), .int .i64 ((rd_T129 l1 x39_1).f2), .int .i64 ((rd_T129 l1 x39_1).f3)] 129 (0, 0)) z9_5 hb); have n5_ := Aside0.mk (below_step z9_17 hb); clear HO_195004; clear BK188; clear BK189; clear BK194; clear BK196; clear HB; have HO_195004 := n0_; have BK188 := n1_; have BK189 := n2_; have BK194 := n3_; have BK196 := n4_; have HB := n5_; clear n0_ n1_ n2_ n3_ n4_ n5_; (try clear hb); (try clear hb2); (try clear hk); (try clear hi); have hcz52_0 : w51.cell? ⟨gb196, 0, none⟩ = some (.int .i64 ((rd_T129 l1 x39_1).f0)) := (blk_cell BK196.out 0).trans rfl; have hcz52_1 : w51.cell? ⟨gb196, 1, none⟩ = some (.int .i64 ((rd_T129 l1 x39_1).f1)) := (blk_cell BK196.out 1).trans rfl; have hcz52_2 : w51.cell? ⟨gb196, 2, none⟩ = some (.int .i64 ((rd_T129 l1 x39_1).f2)) := (blk_cell BK196.out 2).trans rfl; have hcz52_3 : w51.cell? ⟨gb196, 3, none⟩ = some (.int .i64 ((rd_T129 l1 x39_1).f3)) := (blk_cell BK196.out 3).trans rfl; have hfz52_0 := blk_frozen BK196.out 0; have hfz52_1 := blk_frozen BK196.out 1; have hfz52_2 := blk_frozen BK196.out 2; have hfz52_3 := blk_frozen BK196.out 3; have hcz53_0 : w51.cell? ⟨gb188, 0, none⟩ = some (.int .i64 a0_0) := (blk_cell BK188.out 0).trans rfl; have hcz53_1 : w51.cell? ⟨gb188, 1, none⟩ = some (.int .i64 a0_1) := (blk_cell BK188.out 1).trans rfl; have hcz53_2 : w51.cell? ⟨gb188, 2, none⟩ = some (.int .i64 a0_2) := (blk_cell BK188.out 2).trans rfl; have hcz53_3 : w51.cell? ⟨gb188, 3, none⟩ = some (.int .i64 a0_3) := (blk_cell BK188.out 3).trans rfl; have hfz53_0 := blk_frozen BK188.out 0; have hfz53_1 := blk_frozen BK188.out 1; have hfz53_2 := blk_frozen BK188.out 2; have hfz53_3 := blk_frozen BK188.out 3))
             go_meet
             case rel => exact ⟨_, (true), (by first | rfl | (simp; done) | (simp [*]; done)), H', ⟨by have := HK1.out; first | omega | exact Nat.le_refl _⟩, ⟨by (with_reducible repeat (first | apply Kd.R_alloc | apply Kd.R_drewN | apply Kd.R_drew)); exact HO_195004.out⟩, ⟨by (with_reducible repeat (first | refine blk_drewN ?_ _ | refine blk_drew ?_ | refine blk_alloc ?_ _)); exact BK188.out⟩, ⟨by (with_reducible repeat (first | refine blk_drewN ?_ _ | refine blk_drew ?_ | refine blk_alloc ?_ _)); exact BK189.out⟩, ⟨by (with_reducible repeat (first | refine blk_drewN ?_ _ | refine blk_drew ?_ | refine blk_alloc ?_ _)); exact BK194.out⟩, ⟨by (with_reducible repeat (first | refine blk_drewN ?_ _ | refine blk_drew ?_ | refine blk_alloc ?_ _)); exact BK196.out⟩, ⟨by repeat (first | (with_reducible first | exact HB.out | apply below_alloc | apply pw_below_drewN | apply below_drew1 | refine below_set ?_ GE188.out | refine below_set ?_ GE189.out | refine below_set ?_ GE194.out | refine below_set ?_ GE196.out) | exact HB.out)⟩⟩
            ·rw [if_neg c43] at H
             have c43b0 : decide (a0_2 < ((rd_T129 l1 x39_1).f2)) = false := decide_eq_false c43
             clear c43
             (first | rw [c43b0] | (simp only [i64_w, i32_w]; rw [c43b0]) | skip)
             replace H := Option.bind_eq_some_iff.mp H
             obtain ⟨t198, A540, H⟩ := H
             replace H : (impl_MaskBy.j1 k1 l1 (wrap64 (a0_2 - a0_0)) l1 (l1.length : Int) x39_1 (!t198) a0_0 a0_1 a0_2 a0_3 a0_0 a0_1 a0_2 a0_3 x195004_1 ((rd_T129 l1 x39_1).f0) ((rd_T129 l1 x39_1).f1) ((rd_T129 l1 x39_1).f2) ((rd_T129 l1 x39_1).f3)) = some (r1, r2, r3, r4, r5, r6) := H
             have A54 := Aside0.mk A540
             clear A540
             have H' := Aside0.mk H
             clear H; have hnb55 := NB188_189.out; have hnc55 := NB189_188.out; have hnb56 := NB188_194.out; have hnc56 := NB194_188.out; have hnb57 := NB188_196.out; have hnc57 := NB196_188.out
             have hcz58_0 : w36.cell? ⟨gb188, 0, none⟩ = some (.int .i64 a0_0) := (blk_cell BK188.out 0).trans rfl
             have hcz58_1 : w36.cell? ⟨gb188, 1, none⟩ = some (.int .i64 a0_1) := (blk_cell BK188.out 1).trans rfl
             have hcz58_2 : w36.cell? ⟨gb188, 2, none⟩ = some (.int .i64 a0_2) := (blk_cell BK188.out 2).trans rfl
             have hcz58_3 : w36.cell? ⟨gb188, 3, none⟩ = some (.int .i64 a0_3) := (blk_cell BK188.out 3).trans rfl
             have hfz58_0 := blk_frozen BK188.out 0
             have hfz58_1 := blk_frozen BK188.out 1
             have hfz58_2 := blk_frozen BK188.out 2
             have hfz58_3 := blk_frozen BK188.out 3
             have hnb59 := NB196_189.out; have hnc59 := NB189_196.out; have hnb60 := NB196_194.out; have hnc60 := NB194_196.out
             have hcz61_0 : w36.cell? ⟨gb196, 0, none⟩ = some (.int .i64 0) := (blk_cell BK196.out 0).trans rfl
             have hcz61_1 : w36.cell? ⟨gb196, 1, none⟩ = some (.int .i64 0) := (blk_cell BK196.out 1).trans rfl
             have hcz61_2 : w36.cell? ⟨gb196, 2, none⟩ = some (.int .i64 0) := (blk_cell BK196.out 2).trans rfl
             have hcz61_3 : w36.cell? ⟨gb196, 3, none⟩ = some (.int .i64 0) := (blk_cell BK196.out 3).trans rfl
             have hfz61_0 := blk_frozen BK196.out 0
             have hfz61_1 := blk_frozen BK196.out 1
             have hfz61_2 := blk_frozen BK196.out 2
             have hfz61_3 := blk_frozen BK196.out 3
             go_wp2_with (first | ((with_reducible refine gate_callee (f := 106) rfl ?_); refine goesL_ (some 49) rfl rfl Try.func106 (by kernel_rfl) rfl #[.agg #[.int .i64 a0_0, .int .i64 a0_1, .int .i64 a0_2, .int .i64 a0_3], .agg #[.int .i64 ((rd_T129 l1 x39_1).f1), .int .i64 ((rd_T129 l1 x39_1).f0)]] rfl z9_14 ?_; (with_reducible refine (impl_InBox.calls a0_0 a0_1 a0_2 a0_3 ((rd_T129 l1 x39_1).f1) ((rd_T129 l1 x39_1).f0) true _ A41.out).mono ?_); rintro e w62 ⟨rfl, hb⟩; refine ⟨_, rfl, ?_⟩; have n0_ := Aside0.mk (Kd.R_below z9_16 hb); have n1_ := Aside0.mk (blk_below (g := gb188) (o := .cells #[.int .i64 a0_0, .int .i64 a0_1, .int .i64 a0_2, .int .i64 a0_3] 35 (0, 0)) z9_8 hb); have n2_ := Aside0.mk (blk_below (g := gb189) (o := .cells #[.int .i64 x190000_1, .int .i64 x190001_1, .int .i64 x190002_1, .int .i64 x190003_1, .slice none 0 0] 52 (0, 0)) z9_9 hb); have n3_ := Aside0.mk (blk_below (g := gb194) (o := .cells #[.int .i64 a0_0, .int .i64 a0_1, .int .i64 a0_2, .int .i64 a0_3, u195004] 52 (0, 0)) z9_10 hb); have n4_ := Aside0.mk (blk_below (g := gb196) (o := .cells #[.int .i64 ((rd_T129 l1 x39_1).f0), .int .i64 ((rd_T129 l1 x39_1).f1), .int .i64 ((rd_T129 l1 x39_1).f2), .int .i64 ((rd_T129 l1 x39_1).f3)] 129 (0, 0)) z9_5 hb); have n5_ := Aside0.mk (below_step z9_17 hb); clear HO_195004; clear BK188; clear BK189; clear BK194; clear BK196; clear HB; have HO_195004 := n0_; have BK188 := n1_; have BK189 := n2_; have BK194 := n3_; have BK196 := n4_; have HB := n5_; clear n0_ n1_ n2_ n3_ n4_ n5_; (try clear hb); (try clear hb2); (try clear hk); (try clear hi); have hcz63_0 : w62.cell? ⟨gb196, 0, none⟩ = some (.int .i64 ((rd_T129 l1 x39_1).f0)) := (blk_cell BK196.out 0).trans rfl; have hcz63_1 : w62.cell? ⟨gb196, 1, none⟩ = some (.int .i64 ((rd_T129 l1 x39_1).f1)) := (blk_cell BK196.out 1).trans rfl; have hcz63_2 : w62.cell? ⟨gb196, 2, none⟩ = some (.int .i64 ((rd_T129 l1 x39_1).f2)) := (blk_cell BK196.out 2).trans rfl; have hcz63_3 : w62.cell? ⟨gb196, 3, none⟩ = some (.int .i64 ((rd_T129 l1 x39_1).f3)) := (blk_cell BK196.out 3).trans rfl; have hfz63_0 := blk_frozen BK196.out 0; have hfz63_1 := blk_frozen BK196.out 1; have hfz63_2 := blk_frozen BK196.out 2; have hfz63_3 := blk_frozen BK196.out 3; have hcz64_0 : w62.cell? ⟨gb188, 0, none⟩ = some (.int .i64 a0_0) := (blk_cell BK188.out 0).trans rfl; have hcz64_1 : w62.cell? ⟨gb188, 1, none⟩ = some (.int .i64 a0_1) := (blk_cell BK188.out 1).trans rfl; have hcz64_2 : w62.cell? ⟨gb188, 2, none⟩ = some (.int .i64 a0_2) := (blk_cell BK188.out 2).trans rfl; have hcz64_3 : w62.cell? ⟨gb188, 3, none⟩ = some (.int .i64 a0_3) := (blk_cell BK188.out 3).trans rfl; have hfz64_0 := blk_frozen BK188.out 0; have hfz64_1 := blk_frozen BK188.out 1; have hfz64_2 := blk_frozen BK188.out 2; have hfz64_3 := blk_frozen BK188.out 3) | (go_at_call 107; (with_reducible refine (impl_inRange.calls ((rd_T129 l1 x39_1).f3) 1 15 t198 _ A54.out).mono ?_); rintro e w' ⟨rfl, ⟨nd, rfl⟩⟩))
             go_meet
             case rel => exact ⟨_, (!t198), (by first | rfl | (simp; done) | (simp [*]; done)), H', ⟨by have := HK1.out; first | omega | exact Nat.le_refl _⟩, ⟨by (with_reducible repeat (first | apply Kd.R_alloc | apply Kd.R_drewN | apply Kd.R_drew)); exact HO_195004.out⟩, ⟨by (with_reducible repeat (first | refine blk_drewN ?_ _ | refine blk_drew ?_ | refine blk_alloc ?_ _)); exact BK188.out⟩, ⟨by (with_reducible repeat (first | refine blk_drewN ?_ _ | refine blk_drew ?_ | refine blk_alloc ?_ _)); exact BK189.out⟩, ⟨by (with_reducible repeat (first | refine blk_drewN ?_ _ | refine blk_drew ?_ | refine blk_alloc ?_ _)); exact BK194.out⟩, ⟨by (with_reducible repeat (first | refine blk_drewN ?_ _ | refine blk_drew ?_ | refine blk_alloc ?_ _)); exact BK196.out⟩, ⟨by repeat (first | (with_reducible first | exact HB.out | apply below_alloc | apply pw_below_drewN | apply below_drew1 | refine below_set ?_ GE188.out | refine below_set ?_ GE189.out | refine below_set ?_ GE194.out | refine below_set ?_ GE196.out) | exact HB.out)⟩⟩
           ·replace c42 := Bool.eq_false_iff.mpr c42
            subst c42
            have H1 : (impl_MaskBy.j1 k1 l1 (wrap64 (a0_2 - a0_0)) l1 (l1.length : Int) x39_1 true a0_0 a0_1 a0_2 a0_3 a0_0 a0_1 a0_2 a0_3 x195004_1 ((rd_T129 l1 x39_1).f0) ((rd_T129 l1 x39_1).f1) ((rd_T129 l1 x39_1).f2) ((rd_T129 l1 x39_1).f3)) = some (r1, r2, r3, r4, r5, r6) := by rw [if_neg (show ¬ (false = true) by decide)] at H; exact H
            clear H; have H := H1; clear H1
            have H' := Aside0.mk H
            clear H; have hnb65 := NB188_189.out; have hnc65 := NB189_188.out; have hnb66 := NB188_194.out; have hnc66 := NB194_188.out; have hnb67 := NB188_196.out; have hnc67 := NB196_188.out
            have hcz68_0 : w36.cell? ⟨gb188, 0, none⟩ = some (.int .i64 a0_0) := (blk_cell BK188.out 0).trans rfl
            have hcz68_1 : w36.cell? ⟨gb188, 1, none⟩ = some (.int .i64 a0_1) := (blk_cell BK188.out 1).trans rfl
            have hcz68_2 : w36.cell? ⟨gb188, 2, none⟩ = some (.int .i64 a0_2) := (blk_cell BK188.out 2).trans rfl
            have hcz68_3 : w36.cell? ⟨gb188, 3, none⟩ = some (.int .i64 a0_3) := (blk_cell BK188.out 3).trans rfl
            have hfz68_0 := blk_frozen BK188.out 0
            have hfz68_1 := blk_frozen BK188.out 1
            have hfz68_2 := blk_frozen BK188.out 2
            have hfz68_3 := blk_frozen BK188.out 3
            have hnb69 := NB196_189.out; have hnc69 := NB189_196.out; have hnb70 := NB196_194.out; have hnc70 := NB194_196.out
            have hcz71_0 : w36.cell? ⟨gb196, 0, none⟩ = some (.int .i64 0) := (blk_cell BK196.out 0).trans rfl
            have hcz71_1 : w36.cell? ⟨gb196, 1, none⟩ = some (.int .i64 0) := (blk_cell BK196.out 1).trans rfl
            have hcz71_2 : w36.cell? ⟨gb196, 2, none⟩ = some (.int .i64 0) := (blk_cell BK196.out 2).trans rfl
            have hcz71_3 : w36.cell? ⟨gb196, 3, none⟩ = some (.int .i64 0) := (blk_cell BK196.out 3).trans rfl
            have hfz71_0 := blk_frozen BK196.out 0
            have hfz71_1 := blk_frozen BK196.out 1
            have hfz71_2 := blk_frozen BK196.out 2
            have hfz71_3 := blk_frozen BK196.out 3
            go_wp2_with (first | ((with_reducible refine gate_callee (f := 106) rfl ?_); refine goesL_ (some 49) rfl rfl Try.func106 (by kernel_rfl) rfl #[.agg #[.int .i64 a0_0, .int .i64 a0_1, .int .i64 a0_2, .int .i64 a0_3], .agg #[.int .i64 ((rd_T129 l1 x39_1).f1), .int .i64 ((rd_T129 l1 x39_1).f0)]] rfl z9_14 ?_; (with_reducible refine (impl_InBox.calls a0_0 a0_1 a0_2 a0_3 ((rd_T129 l1 x39_1).f1) ((rd_T129 l1 x39_1).f0) false _ A41.out).mono ?_); rintro e w72 ⟨rfl, hb⟩; refine ⟨_, rfl, ?_⟩; have n0_ := Aside0.mk (Kd.R_below z9_16 hb); have n1_ := Aside0.mk (blk_below (g := gb188) (o := .cells #[.int .i64 a0_0, .int .i64 a0_1, .int .i64 a0_2, .int .i64 a0_3] 35 (0, 0)) z9_8 hb); have n2_ := Aside0.mk (blk_below (g := gb189) (o := .cells #[.int .i64 x190000_1, .int .i64 x190001_1, .int .i64 x190002_1, .int .i64 x190003_1, .slice none 0 0] 52 (0, 0)) z9_9 hb); have n3_ := Aside0.mk (blk_below (g := gb194) (o := .cells #[.int .i64 a0_0, .int .i64 a0_1, .int .i64 a0_2, .int .i64 a0_3, u195004] 52 (0, 0)) z9_10 hb); have n4_ := Aside0.mk (blk_below (g := gb196) (o := .cells #[.int .i64 ((rd_T129 l1 x39_1).f0), .int .i64 ((rd_T129 l1 x39_1).f1), .int .i64 ((rd_T129 l1 x39_1).f2), .int .i64 ((rd_T129 l1 x39_1).f3)] 129 (0, 0)) z9_5 hb); have n5_ := Aside0.mk (below_step z9_17 hb); clear HO_195004; clear BK188; clear BK189; clear BK194; clear BK196; clear HB; have HO_195004 := n0_; have BK188 := n1_; have BK189 := n2_; have BK194 := n3_; have BK196 := n4_; have HB := n5_; clear n0_ n1_ n2_ n3_ n4_ n5_; (try clear hb); (try clear hb2); (try clear hk); (try clear hi)))
            go_meet
            case rel => exact ⟨_, (true), (by first | rfl | (simp; done) | (simp [*]; done)), H', ⟨by have := HK1.out; first | omega | exact Nat.le_refl _⟩, ⟨by (with_reducible repeat (first | apply Kd.R_alloc | apply Kd.R_drewN | apply Kd.R_drew)); exact HO_195004.out⟩, ⟨by (with_reducible repeat (first | refine blk_drewN ?_ _ | refine blk_drew ?_ | refine blk_alloc ?_ _)); exact BK188.out⟩, ⟨by (with_reducible repeat (first | refine blk_drewN ?_ _ | refine blk_drew ?_ | refine blk_alloc ?_ _)); exact BK189.out⟩, ⟨by (with_reducible repeat (first | refine blk_drewN ?_ _ | refine blk_drew ?_ | refine blk_alloc ?_ _)); exact BK194.out⟩, ⟨by (with_reducible repeat (first | refine blk_drewN ?_ _ | refine blk_drew ?_ | refine blk_alloc ?_ _)); exact BK196.out⟩, ⟨by repeat (first | (with_reducible first | exact HB.out | apply below_alloc | apply pw_below_drewN | apply below_drew1 | refine below_set ?_ GE188.out | refine below_set ?_ GE189.out | refine below_set ?_ GE194.out | refine below_set ?_ GE196.out) | exact HB.out)⟩⟩
          case rest =>
           clear HC35; try clear c1
           try clear p1
           try clear q1
           try clear hx1
           try clear p2
           try clear c3
           try clear c3b0
           try clear c3b1
           try clear c3b2
           try clear c4
           try clear c5
           try clear c6
           try clear p6
           try clear c7
           try clear c10
           try clear c12
           try clear c12b0
           try clear c12b1
           try clear c13
           try clear c13b0
           try clear c13b1
           try clear c16
           try clear p19
           try clear q19
           try clear hx19
           try clear c32
           try clear c32b0
           try clear c33
           try clear c33b0
           try clear c34
           try clear c34b0
           try clear c35
           try clear c37
           try clear c38
           try clear c39
           try clear c42
           try clear c43
           try clear c43b0
           try clear c44
           try clear c45
           try clear c46
           try clear c48
           try clear c49
           try clear c55
           try clear c56
           try clear c57
           try clear c59
           try clear c60
           try clear p64
           try clear c65
           try clear c66
           try clear c67
           try clear c69
           try clear c70
           try clear hcz17_0
           try clear hcz17_1
           try clear hcz17_2
           try clear hcz17_3
           try clear hcz19_0
           try clear hcz19_1
           try clear hcz19_2
           try clear hcz19_3
           try clear hcz40_0
           try clear hcz40_1
           try clear hcz40_2
           try clear hcz40_3
           try clear hcz47_0
           try clear hcz47_1
           try clear hcz47_2
           try clear hcz47_3
           try clear hcz50_0
           try clear hcz50_1
           try clear hcz50_2
           try clear hcz50_3
           try clear hcz52_0
           try clear hcz52_1
           try clear hcz52_2
           try clear hcz52_3
           try clear hcz53_0
           try clear hcz53_1
           try clear hcz53_2
           try clear hcz53_3
           try clear hcz58_0
           try clear hcz58_1
           try clear hcz58_2
           try clear hcz58_3
           try clear hcz61_0
           try clear hcz61_1
           try clear hcz61_2
           try clear hcz61_3
           try clear hcz63_0
           try clear hcz63_1
           try clear hcz63_2
           try clear hcz63_3
           try clear hcz64_0
           try clear hcz64_1
           try clear hcz64_2
           try clear hcz64_3
           try clear hcz68_0
           try clear hcz68_1
           try clear hcz68_2
           try clear hcz68_3
           try clear hcz71_0
           try clear hcz71_1
           try clear hcz71_2
           try clear hcz71_3
           try clear hcz7_0
           try clear hcz7_1
           try clear hcz7_2
           try clear hcz7_3
           try clear hcz8_0
           try clear hcz8_1
           try clear hcz8_2
           try clear hcz8_3
           try clear hcz8_4
           try clear hfz17_0
           try clear hfz17_1
           try clear hfz17_2
           try clear hfz17_3
           try clear hfz19_0
           try clear hfz19_1
           try clear hfz19_2
           try clear hfz19_3
           try clear hfz40_0
           try clear hfz40_1
           try clear hfz40_2
           try clear hfz40_3
           try clear hfz47_0
           try clear hfz47_1
           try clear hfz47_2
           try clear hfz47_3
           try clear hfz50_0
           try clear hfz50_1
           try clear hfz50_2
           try clear hfz50_3
           try clear hfz52_0
           try clear hfz52_1
           try clear hfz52_2
           try clear hfz52_3
           try clear hfz53_0
           try clear hfz53_1
           try clear hfz53_2
           try clear hfz53_3
           try clear hfz58_0
           try clear hfz58_1
           try clear hfz58_2
           try clear hfz58_3
           try clear hfz61_0
           try clear hfz61_1
           try clear hfz61_2
           try clear hfz61_3
           try clear hfz63_0
           try clear hfz63_1
           try clear hfz63_2
           try clear hfz63_3
           try clear hfz64_0
           try clear hfz64_1
           try clear hfz64_2
           try clear hfz64_3
           try clear hfz68_0
           try clear hfz68_1
           try clear hfz68_2
           try clear hfz68_3
           try clear hfz71_0
           try clear hfz71_1
           try clear hfz71_2
           try clear hfz71_3
           try clear hfz7_0
           try clear hfz7_1
           try clear hfz7_2
           try clear hfz7_3
           try clear hfz8_0
           try clear hfz8_1
           try clear hfz8_2
           try clear hfz8_3
           try clear hfz8_4
           try clear hx195_0
           try clear hx195_1
           try clear hx195_2
           try clear hx195_3
           try clear p195
           try clear p2
           try clear p6
           try clear q195
           obtain ⟨kq, x63_34, rfl, HA, HJ34, HO_195004, BK188, BK189, BK194, BK196, HB⟩ := hcut
           cases kq with
           | zero => exact absurd HA.out (by simp [impl_MaskBy.j1])
           | succ kj34 =>
            have H := HA.out; clear HA
            simp only [impl_MaskBy.j1] at H
            by_cases c73 : x63_34 = true
            ·subst c73
             have H1 : (some (0, 0, 0, 0, ([] : List Int), false)) = some (r1, r2, r3, r4, r5, r6) := by rw [if_pos rfl] at H; exact H
             clear H; have H := H1; clear H1
             simp only [Option.some.injEq, Prod.mk.injEq] at H
             obtain ⟨rfl, rfl, rfl, rfl, rfl, rfl⟩ := H
             have hnb74 := NB189_188.out; have hnc74 := NB188_189.out; have hnb75 := NB189_194.out; have hnc75 := NB194_189.out; have hnb76 := NB189_196.out; have hnc76 := NB196_189.out
             have hcz77_0 : wc.cell? ⟨gb189, 0, none⟩ = some (.int .i64 x190000_1) := (blk_cell BK189.out 0).trans rfl
             have hcz77_1 : wc.cell? ⟨gb189, 1, none⟩ = some (.int .i64 x190001_1) := (blk_cell BK189.out 1).trans rfl
             have hcz77_2 : wc.cell? ⟨gb189, 2, none⟩ = some (.int .i64 x190002_1) := (blk_cell BK189.out 2).trans rfl
             have hcz77_3 : wc.cell? ⟨gb189, 3, none⟩ = some (.int .i64 x190003_1) := (blk_cell BK189.out 3).trans rfl
             have hcz77_4 : wc.cell? ⟨gb189, 4, none⟩ = some (.slice none 0 0) := (blk_cell BK189.out 4).trans rfl
             have hfz77_0 := blk_frozen BK189.out 0
             have hfz77_1 := blk_frozen BK189.out 1
             have hfz77_2 := blk_frozen BK189.out 2
             have hfz77_3 := blk_frozen BK189.out 3
             have hfz77_4 := blk_frozen BK189.out 4
             go_wp2
             refine bodyPost_ret (results_ct rfl _ _ gb189 52 #[.int .i64 0, .int .i64 0, .int .i64 0, .int .i64 0, .slice none 0 0] (0, 0) _ rfl z9_11 Try.underlying52 rfl (by kernel_rfl)) rfl ?_
             exact ⟨_, by first | rfl | (simp [errW_none, errW_some] <;> rfl) | (simp only [← hji11]; first | rfl | (simp [errW_none, errW_some] <;> rfl)) | (simp [*, errW_none, errW_some] <;> rfl), by first | exact Kd.R_nil _ _ _ _ _ | exact Kd.N_nil _ _ _ _ _ | exact Kd.V_nil _ _ _ _ _ | exact Kd.Q_nil _ _ _ _ _ | exact Kd.S_nil _ _ _ _ _, by repeat (first | (with_reducible first | exact HB.out | apply below_alloc | apply pw_below_drewN | apply below_drew1 | refine below_set ?_ GE188.out | refine below_set ?_ GE189.out | refine below_set ?_ GE194.out | refine below_set ?_ GE196.out) | exact HB.out)⟩
            ·replace c73 := Bool.eq_false_iff.mpr c73
             subst c73
             have H1 : (impl_MaskBy.l1 kj34 l1 (wrap64 (a0_2 - a0_0)) ((rd_T129 l1 x39_1).f1) l1 (l1.length : Int) x39_1 a0_0 a0_1 a0_2 a0_3 a0_0 a0_1 a0_2 a0_3 x195004_1 ((rd_T129 l1 x39_1).f0) ((rd_T129 l1 x39_1).f1) ((rd_T129 l1 x39_1).f2) ((rd_T129 l1 x39_1).f3)) = some (r1, r2, r3, r4, r5, r6) := by rw [if_neg (show ¬ (false = true) by decide)] at H; exact H
             clear H; have H := H1; clear H1
             have H' := Aside0.mk H
             clear H; have hnb78 := NB196_188.out; have hnc78 := NB188_196.out; have hnb79 := NB196_189.out; have hnc79 := NB189_196.out; have hnb80 := NB196_194.out; have hnc80 := NB194_196.out
             have hcz81_0 : wc.cell? ⟨gb196, 0, none⟩ = some (.int .i64 ((rd_T129 l1 x39_1).f0)) := (blk_cell BK196.out 0).trans rfl
             have hcz81_1 : wc.cell? ⟨gb196, 1, none⟩ = some (.int .i64 ((rd_T129 l1 x39_1).f1)) := (blk_cell BK196.out 1).trans rfl
             have hcz81_2 : wc.cell? ⟨gb196, 2, none⟩ = some (.int .i64 ((rd_T129 l1 x39_1).f2)) := (blk_cell BK196.out 2).trans rfl
             have hcz81_3 : wc.cell? ⟨gb196, 3, none⟩ = some (.int .i64 ((rd_T129 l1 x39_1).f3)) := (blk_cell BK196.out 3).trans rfl
             have hfz81_0 := blk_frozen BK196.out 0
             have hfz81_1 := blk_frozen BK196.out 1
             have hfz81_2 := blk_frozen BK196.out 2
             have hfz81_3 := blk_frozen BK196.out 3
             go_wp2
             go_loopg [10] kj34 (fun kq v10 w' => ∃ (x10_3 : Int) (x195004_3 : List Int) (u195004 : Value), v10 = .int .i64 x10_3 ∧ Aside0 (impl_MaskBy.l1 kq l1 (wrap64 (a0_2 - a0_0)) x10_3 l1 (l1.length : Int) x39_1 a0_0 a0_1 a0_2 a0_3 a0_0 a0_1 a0_2 a0_3 x195004_3 ((rd_T129 l1 x39_1).f0) ((rd_T129 l1 x39_1).f1) ((rd_T129 l1 x39_1).f2) ((rd_T129 l1 x39_1).f3) = some (r1, r2, r3, r4, r5, r6)) ∧ Aside0 (kq ≤ kj34) ∧ Aside0 (Kd.R (Kd.int .i64) 3 w' w.heap.size (fun _ => True) u195004 x195004_3) ∧ Aside0 (w'.heap[gb188]? = some (.cells #[.int .i64 a0_0, .int .i64 a0_1, .int .i64 a0_2, .int .i64 a0_3] 35 (0, 0))) ∧ Aside0 (w'.heap[gb189]? = some (.cells #[.int .i64 x190000_1, .int .i64 x190001_1, .int .i64 x190002_1, .int .i64 x190003_1, (.slice none 0 0)] 52 (0, 0))) ∧ Aside0 (w'.heap[gb194]? = some (.cells #[.int .i64 a0_0, .int .i64 a0_1, .int .i64 a0_2, .int .i64 a0_3, u195004] 52 (0, 0))) ∧ Aside0 (w'.heap[gb196]? = some (.cells #[.int .i64 ((rd_T129 l1 x39_1).f0), .int .i64 ((rd_T129 l1 x39_1).f1), .int .i64 ((rd_T129 l1 x39_1).f2), .int .i64 ((rd_T129 l1 x39_1).f3)] 129 (0, 0))) ∧ Aside0 (Below w.heap.size w w'))
             case atStart => exact ⟨(((rd_T129 l1 x39_1).f1)), (x195004_1), (u195004), (by first | rfl | (simp; done) | (simp [*]; done)), H', ⟨Nat.le_refl _⟩, ⟨by (with_reducible repeat (first | apply Kd.R_alloc | apply Kd.R_drewN | apply Kd.R_drew)); exact HO_195004.out⟩, ⟨by (with_reducible repeat (first | refine blk_drewN ?_ _ | refine blk_drew ?_ | refine blk_alloc ?_ _)); exact BK188.out⟩, ⟨by (with_reducible repeat (first | refine blk_drewN ?_ _ | refine blk_drew ?_ | refine blk_alloc ?_ _)); exact BK189.out⟩, ⟨by (with_reducible repeat (first | refine blk_drewN ?_ _ | refine blk_drew ?_ | refine blk_alloc ?_ _)); exact BK194.out⟩, ⟨by (with_reducible repeat (first | refine blk_drewN ?_ _ | refine blk_drew ?_ | refine blk_alloc ?_ _)); exact BK196.out⟩, ⟨by repeat (first | (with_reducible first | exact HB.out | apply below_alloc | apply pw_below_drewN | apply below_drew1 | refine below_set ?_ GE188.out | refine below_set ?_ GE189.out | refine below_set ?_ GE194.out | refine below_set ?_ GE196.out) | exact HB.out)⟩⟩
             case round =>
              clear H'
              try clear c1
              try clear p1
              try clear q1
              try clear hx1
              try clear p2
              try clear c3
              try clear c3b0
              try clear c3b1
              try clear c3b2
              try clear c4
              try clear c5
              try clear c6
              try clear p6
              try clear c7
              try clear c8
              try clear c10
              try clear c12
              try clear c12b0
              try clear c12b1
              try clear c13
              try clear c13b0
              try clear c13b1
              try clear c16
              try clear p19
              try clear q19
              try clear hx19
              try clear c32
              try clear c32b0
              try clear c33
              try clear c33b0
              try clear c34
              try clear c34b0
              try clear c35
              try clear c37
              try clear c38
              try clear c39
              try clear c42
              try clear c43
              try clear c43b0
              try clear c44
              try clear c45
              try clear c46
              try clear c48
              try clear c49
              try clear c55
              try clear c56
              try clear c57
              try clear c59
              try clear c60
              try clear p64
              try clear c65
              try clear c66
              try clear c67
              try clear c69
              try clear c70
              try clear c73
              try clear c74
              try clear c75
              try clear c76
              try clear c78
              try clear c79
              try clear c80
              try clear hcz17_0
              try clear hcz17_1
              try clear hcz17_2
              try clear hcz17_3
              try clear hcz19_0
              try clear hcz19_1
              try clear hcz19_2
              try clear hcz19_3
              try clear hcz40_0
              try clear hcz40_1
              try clear hcz40_2
              try clear hcz40_3
              try clear hcz47_0
              try clear hcz47_1
              try clear hcz47_2
              try clear hcz47_3
              try clear hcz50_0
              try clear hcz50_1
              try clear hcz50_2
              try clear hcz50_3
              try clear hcz52_0
              try clear hcz52_1
              try clear hcz52_2
              try clear hcz52_3
              try clear hcz53_0
              try clear hcz53_1
              try clear hcz53_2
              try clear hcz53_3
              try clear hcz58_0
              try clear hcz58_1
              try clear hcz58_2
              try clear hcz58_3
              try clear hcz61_0
              try clear hcz61_1
              try clear hcz61_2
              try clear hcz61_3
              try clear hcz63_0
              try clear hcz63_1
              try clear hcz63_2
              try clear hcz63_3
              try clear hcz64_0
              try clear hcz64_1
              try clear hcz64_2
              try clear hcz64_3
              try clear hcz68_0
              try clear hcz68_1
              try clear hcz68_2
              try clear hcz68_3
              try clear hcz71_0
              try clear hcz71_1
              try clear hcz71_2
              try clear hcz71_3
              try clear hcz77_0
              try clear hcz77_1
              try clear hcz77_2
              try clear hcz77_3
              try clear hcz77_4
              try clear hcz7_0
              try clear hcz7_1
              try clear hcz7_2
              try clear hcz7_3
              try clear hcz81_0
              try clear hcz81_1
              try clear hcz81_2
              try clear hcz81_3
              try clear hcz8_0
              try clear hcz8_1
              try clear hcz8_2
              try clear hcz8_3
              try clear hcz8_4
              try clear hfz17_0
              try clear hfz17_1
              try clear hfz17_2
              try clear hfz17_3
              try clear hfz19_0
              try clear hfz19_1
              try clear hfz19_2
              try clear hfz19_3
              try clear hfz40_0
              try clear hfz40_1
              try clear hfz40_2
              try clear hfz40_3
              try clear hfz47_0
              try clear hfz47_1
              try clear hfz47_2
              try clear hfz47_3
              try clear hfz50_0
              try clear hfz50_1
              try clear hfz50_2
              try clear hfz50_3
              try clear hfz52_0
              try clear hfz52_1
              try clear hfz52_2
              try clear hfz52_3
              try clear hfz53_0
              try clear hfz53_1
              try clear hfz53_2
              try clear hfz53_3
              try clear hfz58_0
              try clear hfz58_1
              try clear hfz58_2
              try clear hfz58_3
              try clear hfz61_0
              try clear hfz61_1
              try clear hfz61_2
              try clear hfz61_3
              try clear hfz63_0
              try clear hfz63_1
              try clear hfz63_2
              try clear hfz63_3
              try clear hfz64_0
              try clear hfz64_1
              try clear hfz64_2
              try clear hfz64_3
              try clear hfz68_0
              try clear hfz68_1
              try clear hfz68_2
              try clear hfz68_3
              try clear hfz71_0
              try clear hfz71_1
              try clear hfz71_2
              try clear hfz71_3
              try clear hfz77_0
              try clear hfz77_1
              try clear hfz77_2
              try clear hfz77_3
              try clear hfz77_4
              try clear hfz7_0
              try clear hfz7_1
              try clear hfz7_2
              try clear hfz7_3
              try clear hfz81_0
              try clear hfz81_1
              try clear hfz81_2
              try clear hfz81_3
              try clear hfz8_0
              try clear hfz8_1
              try clear hfz8_2
              try clear hfz8_3
              try clear hfz8_4
              try clear hx195_0
              try clear hx195_1
              try clear hx195_2
              try clear hx195_3
              try clear p1
              try clear p19
              try clear p195
              try clear p2
              try clear p6
              try clear p64
              try clear q1
              try clear q19
              try clear q195
              obtain ⟨x10_3, x195004_3, u195004, rfl, HA, HK3, HO_195004, BK188, BK189, BK194, BK196, HB⟩ := hrel
              cases gk with
              | zero => exact absurd HA.out (by simp [impl_MaskBy.l1])
              | succ k3 =>
               have H := HA.out; clear HA
               simp only [impl_MaskBy.l1] at H
               by_cases c82 : x10_3 < ((rd_T129 l1 x39_1).f2)
               ·rw [if_pos c82] at H
                have c82b0 : decide (x10_3 < ((rd_T129 l1 x39_1).f2)) = true := decide_eq_true c82
                clear c82
                obtain ⟨ji83, hji83⟩ : ∃ j_ : Int, (wrap64 ((wrap64 ((wrap64 ((wrap64 (((rd_T129 l1 x39_1).f0) - a0_1)) * (wrap64 (a0_2 - a0_0)))) + x10_3)) - a0_0)) = j_ := ⟨_, rfl⟩
                replace H : (if 0 ≤ (ji83) then (if (ji83) < (x195004_3.length : Int) then (impl_MaskBy.l1 k3 l1 (wrap64 (a0_2 - a0_0)) (wrap64 (x10_3 + 1)) l1 (l1.length : Int) x39_1 a0_0 a0_1 a0_2 a0_3 a0_0 a0_1 a0_2 a0_3 (x195004_3.set ((ji83) : Int).toNat ((rd_T129 l1 x39_1).f3)) ((rd_T129 l1 x39_1).f0) ((rd_T129 l1 x39_1).f1) ((rd_T129 l1 x39_1).f2) ((rd_T129 l1 x39_1).f3)) else (none)) else (none)) = some (r1, r2, r3, r4, r5, r6) := by first | (rw [hji83] at H; exact H) | (simp only [hji83] at H ⊢; exact H)
                have hji83w : (IntKind.i64.wrap ((wrap64 ((wrap64 ((wrap64 (((rd_T129 l1 x39_1).f0) - a0_1)) * (wrap64 (a0_2 - a0_0)))) + x10_3)) - a0_0)) = ji83 := (i64_w _).trans hji83
                by_cases c84 : 0 ≤ (ji83)
                ·rw [if_pos c84] at H
                 have c84b0 : decide (0 ≤ (ji83)) = true := decide_eq_true c84
                 clear c84
                 by_cases c85 : (ji83) < (x195004_3.length : Int)
                 ·rw [if_pos c85] at H
                  have c85b0 : decide ((ji83) < (x195004_3.length : Int)) = true := decide_eq_true c85
                  clear c85
                  obtain ⟨y199, hy199⟩ : ∃ y_ : List Int, y_ = (x195004_3.set ((ji83) : Int).toNat ((rd_T129 l1 x39_1).f3)) := ⟨_, rfl⟩
                  replace H : (impl_MaskBy.l1 k3 l1 (wrap64 (a0_2 - a0_0)) (wrap64 (x10_3 + 1)) l1 (l1.length : Int) x39_1 a0_0 a0_1 a0_2 a0_3 a0_0 a0_1 a0_2 a0_3 y199 ((rd_T129 l1 x39_1).f0) ((rd_T129 l1 x39_1).f1) ((rd_T129 l1 x39_1).f2) ((rd_T129 l1 x39_1).f3)) = some (r1, r2, r3, r4, r5, r6) := by first | (rw [hy199]; with_reducible exact H) | (have H2_ := (Option.bind_some _ _).symm.trans H; rw [hy199]; with_reducible exact H2_) | (have H2_ := (Option.bind_some _ _).symm.trans H; with_reducible exact H2_) | with_reducible exact H | (rw [hy199]; exact H) | exact H
                  have Ny199 := Aside0.mk hy199
                  clear hy199
                  have H' := Aside0.mk H
                  clear H; have hnb87 := NB196_188.out; have hnc87 := NB188_196.out; have hnb88 := NB196_189.out; have hnc88 := NB189_196.out; have hnb89 := NB196_194.out; have hnc89 := NB194_196.out
                  have hcz90_0 : wr.cell? ⟨gb196, 0, none⟩ = some (.int .i64 ((rd_T129 l1 x39_1).f0)) := (blk_cell BK196.out 0).trans rfl
                  have hcz90_1 : wr.cell? ⟨gb196, 1, none⟩ = some (.int .i64 ((rd_T129 l1 x39_1).f1)) := (blk_cell BK196.out 1).trans rfl
                  have hcz90_2 : wr.cell? ⟨gb196, 2, none⟩ = some (.int .i64 ((rd_T129 l1 x39_1).f2)) := (blk_cell BK196.out 2).trans rfl
                  have hcz90_3 : wr.cell? ⟨gb196, 3, none⟩ = some (.int .i64 ((rd_T129 l1 x39_1).f3)) := (blk_cell BK196.out 3).trans rfl
                  have hfz90_0 := blk_frozen BK196.out 0
                  have hfz90_1 := blk_frozen BK196.out 1
                  have hfz90_2 := blk_frozen BK196.out 2
                  have hfz90_3 := blk_frozen BK196.out 3
                  have hnb91 := NB194_188.out; have hnc91 := NB188_194.out; have hnb92 := NB194_189.out; have hnc92 := NB189_194.out
                  have hcz93_0 : wr.cell? ⟨gb194, 0, none⟩ = some (.int .i64 a0_0) := (blk_cell BK194.out 0).trans rfl
                  have hcz93_1 : wr.cell? ⟨gb194, 1, none⟩ = some (.int .i64 a0_1) := (blk_cell BK194.out 1).trans rfl
                  have hcz93_2 : wr.cell? ⟨gb194, 2, none⟩ = some (.int .i64 a0_2) := (blk_cell BK194.out 2).trans rfl
                  have hcz93_3 : wr.cell? ⟨gb194, 3, none⟩ = some (.int .i64 a0_3) := (blk_cell BK194.out 3).trans rfl
                  have hcz93_4 : wr.cell? ⟨gb194, 4, none⟩ = some (u195004) := (blk_cell BK194.out 4).trans rfl
                  have hfz93_0 := blk_frozen BK194.out 0
                  have hfz93_1 := blk_frozen BK194.out 1
                  have hfz93_2 := blk_frozen BK194.out 2
                  have hfz93_3 := blk_frozen BK194.out 3
                  have hfz93_4 := blk_frozen BK194.out 4
                  have hnb94 := NB188_189.out; have hnc94 := NB189_188.out
                  have hcz95_0 : wr.cell? ⟨gb188, 0, none⟩ = some (.int .i64 a0_0) := (blk_cell BK188.out 0).trans rfl
                  have hcz95_1 : wr.cell? ⟨gb188, 1, none⟩ = some (.int .i64 a0_1) := (blk_cell BK188.out 1).trans rfl
                  have hcz95_2 : wr.cell? ⟨gb188, 2, none⟩ = some (.int .i64 a0_2) := (blk_cell BK188.out 2).trans rfl
                  have hcz95_3 : wr.cell? ⟨gb188, 3, none⟩ = some (.int .i64 a0_3) := (blk_cell BK188.out 3).trans rfl
                  have hfz95_0 := blk_frozen BK188.out 0
                  have hfz95_1 := blk_frozen BK188.out 1
                  have hfz95_2 := blk_frozen BK188.out 2
                  have hfz95_3 := blk_frozen BK188.out 3
                  have p86 : 0 ≤ ((ji83) : Int) := of_decide_eq_true (by first | (with_reducible assumption) | assumption)
                  have q86 : ((ji83) : Int) < ((x195004_3.length : Int) : Int) := of_decide_eq_true (by first | (with_reducible assumption) | assumption)
                  obtain ⟨go86, co86, eo86, gb86, gl86, cl86, HG86⟩ := Kd.R_form HO_195004.out (by omega)
                  (first | cases eo86 | (injection eo86 with ea_ en_ ec_; (first | subst ea_ | (injection ea_ with ea_; subst ea_)); subst ec_; clear en_))
                  have GB86 := Aside0.mk gb86
                  have GG86 := Aside0.mk HG86
                  clear gb86 gl86 HG86
                  obtain ⟨hx86_0, hf86_0⟩ := Kd.R_celln 0 HO_195004.out ((ji83) : Int) p86 q86
                  replace p86 := eq_true p86
                  replace q86 := eq_true q86
                  have HP96 := Kd.R_putg HO_195004.out ((ji83) : Int) ((rd_T129 l1 x39_1).f3)
                  go_wp2_with (first | ((with_reducible refine gate_store (t := 3) (p := 89) rfl ?_); refine store_event (t := 3) (p := 89) (v := ?vo_w97) (w1 := (wr.setCell ⟨go86, ((ji83) : Int).toNat, none⟩ (.int .i64 ((rd_T129 l1 x39_1).f3)))) ?hg ?ho ?hn ?hr ?_; (case ho => rfl); (case hg => rfl); (case hn => rfl); (case hr => first | (go_simp; done) | (go_simp; rfl) | (obtain ⟨Aq_, cq_, eq_⟩ := Kd.R_slice HO_195004.out; subst eq_; first | (go_simp; done) | (go_simp; rfl))); intro w97 hw; have hg : wr.grownBy w97 (some go86) := (by rw [hw]; exact HP96.2); have hp_ : Kd.R (Kd.int .i64) 3 w97 w.heap.size (fun _ => True) (.slice (some ⟨go86, 0, none⟩) x195004_3.length co86) y199 := (by rw [hw, Ny199.out]; exact HP96.1); clear HP96; have n0_ := Aside0.mk (hp_); have n1_ := Aside0.mk (blk_grown (g := gb188) (o := .cells #[.int .i64 a0_0, .int .i64 a0_1, .int .i64 a0_2, .int .i64 a0_3] 35 (0, 0)) z9_2 hg (Kd.R_ne HO_195004.out BK188.out (by decide))); have n2_ := Aside0.mk (blk_grown (g := gb189) (o := .cells #[.int .i64 x190000_1, .int .i64 x190001_1, .int .i64 x190002_1, .int .i64 x190003_1, .slice none 0 0] 52 (0, 0)) z9_4 hg (Kd.R_ne HO_195004.out BK189.out (by decide))); have n3_ := Aside0.mk (blk_grown (g := gb194) (o := .cells #[.int .i64 a0_0, .int .i64 a0_1, .int .i64 a0_2, .int .i64 a0_3, .slice (some ⟨go86, 0, none⟩) x195004_3.length co86] 52 (0, 0)) z9_12 hg (Kd.R_ne HO_195004.out BK194.out (by decide))); have n4_ := Aside0.mk (blk_grown (g := gb196) (o := .cells #[.int .i64 ((rd_T129 l1 x39_1).f0), .int .i64 ((rd_T129 l1 x39_1).f1), .int .i64 ((rd_T129 l1 x39_1).f2), .int .i64 ((rd_T129 l1 x39_1).f3)] 129 (0, 0)) (by (with_reducible repeat (first | refine blk_drewN ?_ _ | refine blk_drew ?_ | refine blk_alloc ?_ _)); exact BK196.out) hg (Kd.R_ne HO_195004.out BK196.out (by decide))); have n5_ := Aside0.mk ((by rw [hw]; exact below_set (HB.out) GB86.out : Below w.heap.size w w97)); clear HO_195004; clear BK188; clear BK189; clear BK194; clear BK196; clear HB; have HO_195004 := n0_; have BK188 := n1_; have BK189 := n2_; have BK194 := n3_; have BK196 := n4_; have HB := n5_; clear n0_ n1_ n2_ n3_ n4_ n5_; clear hg hw hp_))
                  go_roundg k3
                  case measure => have := HK1.out; have := HJ34.out; have := HK3.out; omega
                  case rel => exact ⟨(wrap64 (x10_3 + 1)), (y199), (.slice (some ⟨go86, 0, none⟩) x195004_3.length co86), (by first | rfl | (simp; done) | (simp [*]; done)), H', ⟨by have := HK1.out; have := HJ34.out; have := HK3.out; omega⟩, ⟨by (with_reducible repeat (first | apply Kd.R_alloc | apply Kd.R_drewN | apply Kd.R_drew)); exact HO_195004.out⟩, ⟨by (with_reducible repeat (first | refine blk_drewN ?_ _ | refine blk_drew ?_ | refine blk_alloc ?_ _)); exact BK188.out⟩, ⟨by (with_reducible repeat (first | refine blk_drewN ?_ _ | refine blk_drew ?_ | refine blk_alloc ?_ _)); exact BK189.out⟩, ⟨by (with_reducible repeat (first | refine blk_drewN ?_ _ | refine blk_drew ?_ | refine blk_alloc ?_ _)); exact BK194.out⟩, ⟨by (with_reducible repeat (first | refine blk_drewN ?_ _ | refine blk_drew ?_ | refine blk_alloc ?_ _)); exact BK196.out⟩, ⟨by repeat (first | (with_reducible first | exact HB.out | apply below_alloc | apply pw_below_drewN | apply below_drew1 | refine below_set ?_ GE188.out | refine below_set ?_ GE189.out | refine below_set ?_ GE194.out | refine below_set ?_ GE196.out) | exact HB.out)⟩⟩
                 ·rw [if_neg c85] at H
                  exact absurd H (by simp)
                ·rw [if_neg c84] at H
                 exact absurd H (by simp)
               ·rw [if_neg c82] at H
                have c82b0 : decide (x10_3 < ((rd_T129 l1 x39_1).f2)) = false := decide_eq_false c82
                clear c82
                have H' := Aside0.mk H
                clear H; have hnb98 := NB196_188.out; have hnc98 := NB188_196.out; have hnb99 := NB196_189.out; have hnc99 := NB189_196.out; have hnb100 := NB196_194.out; have hnc100 := NB194_196.out
                have hcz101_0 : wr.cell? ⟨gb196, 0, none⟩ = some (.int .i64 ((rd_T129 l1 x39_1).f0)) := (blk_cell BK196.out 0).trans rfl
                have hcz101_1 : wr.cell? ⟨gb196, 1, none⟩ = some (.int .i64 ((rd_T129 l1 x39_1).f1)) := (blk_cell BK196.out 1).trans rfl
                have hcz101_2 : wr.cell? ⟨gb196, 2, none⟩ = some (.int .i64 ((rd_T129 l1 x39_1).f2)) := (blk_cell BK196.out 2).trans rfl
                have hcz101_3 : wr.cell? ⟨gb196, 3, none⟩ = some (.int .i64 ((rd_T129 l1 x39_1).f3)) := (blk_cell BK196.out 3).trans rfl
                have hfz101_0 := blk_frozen BK196.out 0
                have hfz101_1 := blk_frozen BK196.out 1
                have hfz101_2 := blk_frozen BK196.out 2
                have hfz101_3 := blk_frozen BK196.out 3
                go_wp2
                go_roundg k3
                case measure => have := HK1.out; have := HJ34.out; have := HK3.out; omega
                case rel => exact ⟨(wrap64 (x39_1 + 1)), (x190000_1), (x190001_1), (x190002_1), (x190003_1), (x195004_3), (u195004), (by first | rfl | (simp; done) | (simp [*]; done)), H', ⟨by have := HK1.out; have := HJ34.out; have := HK3.out; omega⟩, ⟨by (with_reducible repeat (first | apply Kd.R_alloc | apply Kd.R_drewN | apply Kd.R_drew)); exact HO_195004.out⟩, ⟨by (with_reducible repeat (first | refine blk_drewN ?_ _ | refine blk_drew ?_ | refine blk_alloc ?_ _)); exact BK188.out⟩, ⟨by (with_reducible repeat (first | refine blk_drewN ?_ _ | refine blk_drew ?_ | refine blk_alloc ?_ _)); exact BK189.out⟩, ⟨by (with_reducible repeat (first | refine blk_drewN ?_ _ | refine blk_drew ?_ | refine blk_alloc ?_ _)); exact BK194.out⟩, ⟨by repeat (first | (with_reducible first | exact HB.out | apply below_alloc | apply pw_below_drewN | apply below_drew1 | refine below_set ?_ GE188.out | refine below_set ?_ GE189.out | refine below_set ?_ GE194.out | refine below_set ?_ GE196.out) | exact HB.out)⟩⟩
         ·rw [if_neg c34] at H
          exact absurd H (by simp)
        ·rw [if_neg c33] at H
         exact absurd H (by simp)
       ·rw [if_neg c32] at H
        have c32b0 : decide (x39_1 < (l1.length : Int)) = false := decide_eq_false c32
        clear c32
        replace H := Option.bind_eq_some_iff.mp H
        obtain ⟨t200, A1020, H⟩ := H
        replace H : ((impl_Run.f k1 t200 l1).bind fun t203 => (if t203 = true then (some (a0_0, a0_1, a0_2, a0_3, x195004_1, true)) else (some (0, 0, 0, 0, ([] : List Int), false)))) = some (r1, r2, r3, r4, r5, r6) := H
        have A102 := Aside0.mk A1020
        clear A1020
        replace H := Option.bind_eq_some_iff.mp H
        obtain ⟨t203, A1030, H⟩ := H
        replace H : (if t203 = true then (some (a0_0, a0_1, a0_2, a0_3, x195004_1, true)) else (some (0, 0, 0, 0, ([] : List Int), false))) = some (r1, r2, r3, r4, r5, r6) := H
        have A103 := Aside0.mk A1030
        clear A1030
        by_cases c104 : t203 = true
        ·subst c104
         have H1 : (some (a0_0, a0_1, a0_2, a0_3, x195004_1, true)) = some (r1, r2, r3, r4, r5, r6) := by rw [if_pos rfl] at H; exact H
         clear H; have H := H1; clear H1
         simp only [Option.some.injEq, Prod.mk.injEq] at H
         obtain ⟨rfl, rfl, rfl, rfl, rfl, rfl⟩ := H
         have hnb105 := NB194_188.out; have hnc105 := NB188_194.out; have hnb106 := NB194_189.out; have hnc106 := NB189_194.out
         have hcz107_0 : wr.cell? ⟨gb194, 0, none⟩ = some (.int .i64 a0_0) := (blk_cell BK194.out 0).trans rfl
         have hcz107_1 : wr.cell? ⟨gb194, 1, none⟩ = some (.int .i64 a0_1) := (blk_cell BK194.out 1).trans rfl
         have hcz107_2 : wr.cell? ⟨gb194, 2, none⟩ = some (.int .i64 a0_2) := (blk_cell BK194.out 2).trans rfl
         have hcz107_3 : wr.cell? ⟨gb194, 3, none⟩ = some (.int .i64 a0_3) := (blk_cell BK194.out 3).trans rfl
         have hcz107_4 : wr.cell? ⟨gb194, 4, none⟩ = some (u195004) := (blk_cell BK194.out 4).trans rfl
         have hfz107_0 := blk_frozen BK194.out 0
         have hfz107_1 := blk_frozen BK194.out 1
         have hfz107_2 := blk_frozen BK194.out 2
         have hfz107_3 := blk_frozen BK194.out 3
         have hfz107_4 := blk_frozen BK194.out 4
         obtain ⟨Ao108, co108, eo108⟩ := Kd.R_slice HO_195004.out
         subst eo108
         go_wp2_with (first | ((with_reducible refine gate_callee (f := 109) rfl ?_); refine goesL_ (some 92) rfl rfl Try.func109 (by kernel_rfl) rfl #[.agg #[.int .i64 a0_0, .int .i64 a0_1, .int .i64 a0_2, .int .i64 a0_3, .slice Ao108 x195004_1.length co108]] rfl z9_14 ?_; (with_reducible refine (impl_RunsOf.calls k1 a0_0 a0_1 a0_2 a0_3 _ _ x195004_1 t200 _ ?side1 ?side2 A102.out).mono ?_); (case side1 => repeat (first | exact (Kd.R_reads' HO_195004.out).2.2 | (with_reducible refine Kd.C_alloc ?_ _) | (with_reducible refine Kd.C_drewN ?_ _) | (with_reducible refine Kd.C_drew ?_))); (case side2 => exact (Kd.R_reads' HO_195004.out).2.1); rintro e w109 ⟨v201, rfl, ho0, hb⟩; refine ⟨_, rfl, ?_⟩; have n0_ := Aside0.mk (Kd.R_below z9_18 hb); have n1_ := Aside0.mk (Kd.R_lower ho0 (below_size z9_3)); have n2_ := Aside0.mk (blk_below (g := gb188) (o := .cells #[.int .i64 a0_0, .int .i64 a0_1, .int .i64 a0_2, .int .i64 a0_3] 35 (0, 0)) z9_2 hb); have n3_ := Aside0.mk (blk_below (g := gb189) (o := .cells #[.int .i64 x190000_1, .int .i64 x190001_1, .int .i64 x190002_1, .int .i64 x190003_1, .slice none 0 0] 52 (0, 0)) z9_4 hb); have n4_ := Aside0.mk (blk_below (g := gb194) (o := .cells #[.int .i64 a0_0, .int .i64 a0_1, .int .i64 a0_2, .int .i64 a0_3, .slice Ao108 x195004_1.length co108] 52 (0, 0)) z9_12 hb); have n5_ := Aside0.mk (below_step z9_3 hb); clear HO_195004; clear BK188; clear BK189; clear BK194; clear HB; have HO_195004 := n0_; have HO202 := n1_; have BK188 := n2_; have BK189 := n3_; have BK194 := n4_; have HB := n5_; clear n0_ n1_ n2_ n3_ n4_ n5_; (try clear hb); (try clear hb2); (try clear hk); (try clear hi); (try clear ho0); obtain ⟨Ao110, co110, eo110⟩ := Kd.R_slice HO202.out; subst eo110) | ((with_reducible refine gate_callee (f := 108) rfl ?_); refine goesL_ (some 94) rfl rfl Try.func108 (by kernel_rfl) rfl #[.slice Ao110 t200.length co110, .slice A1 l1.length c1] rfl z9_14 ?_; (with_reducible refine (impl_Run.calls k1 _ _ t200 _ _ l1 true _ ?side1 ?side2 ?side3 ?side4 A103.out).mono ?_); (case side1 => repeat (first | exact (Kd.R_reads' HO202.out).2.2 | (with_reducible refine Kd.C_alloc ?_ _) | (with_reducible refine Kd.C_drewN ?_ _) | (with_reducible refine Kd.C_drew ?_))); (case side2 => exact (Kd.R_reads' HO202.out).2.1); (case side3 => repeat (first | exact (Kd.C_below HR1.out HB.out) | (with_reducible refine Kd.C_alloc ?_ _) | (with_reducible refine Kd.C_drewN ?_ _) | (with_reducible refine Kd.C_drew ?_))); (case side4 => exact HC1.out); rintro e w' ⟨rfl, ⟨nd, rfl⟩⟩; refine ⟨_, rfl, ?_⟩; (try (rw [drewN_self w109]; generalize hq_ : World.drewN w109 _ = w109; have n0_ : Aside0 (Kd.R k129 129 w109 w.heap.size (fun _ => True) (.slice Ao110 t200.length co110) t200) := ⟨by rw [← hq_]; exact (by (with_reducible repeat (first | apply Kd.R_alloc | apply Kd.R_drewN | apply Kd.R_drew)); exact HO202.out)⟩; have n1_ : Aside0 (Kd.R (Kd.int .i64) 3 w109 w.heap.size (fun _ => True) (.slice Ao108 x195004_1.length co108) x195004_1) := ⟨by rw [← hq_]; exact z9_18⟩; have n2_ : Aside0 (w109.heap[gb188]? = some (.cells #[.int .i64 a0_0, .int .i64 a0_1, .int .i64 a0_2, .int .i64 a0_3] 35 (0, 0))) := ⟨by rw [← hq_]; exact z9_2⟩; have n3_ : Aside0 (w109.heap[gb189]? = some (.cells #[.int .i64 x190000_1, .int .i64 x190001_1, .int .i64 x190002_1, .int .i64 x190003_1, .slice none 0 0] 52 (0, 0))) := ⟨by rw [← hq_]; exact z9_4⟩; have n4_ : Aside0 (w109.heap[gb194]? = some (.cells #[.int .i64 a0_0, .int .i64 a0_1, .int .i64 a0_2, .int .i64 a0_3, .slice Ao108 x195004_1.length co108] 52 (0, 0))) := ⟨by rw [← hq_]; exact z9_12⟩; have n5_ : Aside0 (Below w.heap.size w w109) := ⟨by rw [← hq_]; exact z9_3⟩; clear HO202 HO_195004 BK188 BK189 BK194 HB hq_; have HO202 := n0_; have HO_195004 := n1_; have BK188 := n2_; have BK189 := n3_; have BK194 := n4_; have HB := n5_; clear n0_ n1_ n2_ n3_ n4_ n5_)); (try have hcy111_0 : w109.cell? ⟨gb194, 0, none⟩ = some (.int .i64 a0_0) := (blk_cell BK194.out 0).trans rfl); (try have hcy111_1 : w109.cell? ⟨gb194, 1, none⟩ = some (.int .i64 a0_1) := (blk_cell BK194.out 1).trans rfl); (try have hcy111_2 : w109.cell? ⟨gb194, 2, none⟩ = some (.int .i64 a0_2) := (blk_cell BK194.out 2).trans rfl); (try have hcy111_3 : w109.cell? ⟨gb194, 3, none⟩ = some (.int .i64 a0_3) := (blk_cell BK194.out 3).trans rfl); (try have hcy111_4 : w109.cell? ⟨gb194, 4, none⟩ = some (.slice Ao108 x195004_1.length co108) := (blk_cell BK194.out 4).trans rfl); (try have hcy113_0 : w109.cell? ⟨gb189, 0, none⟩ = some (.int .i64 x190000_1) := (blk_cell BK189.out 0).trans rfl); (try have hcy113_1 : w109.cell? ⟨gb189, 1, none⟩ = some (.int .i64 x190001_1) := (blk_cell BK189.out 1).trans rfl); (try have hcy113_2 : w109.cell? ⟨gb189, 2, none⟩ = some (.int .i64 x190002_1) := (blk_cell BK189.out 2).trans rfl); (try have hcy113_3 : w109.cell? ⟨gb189, 3, none⟩ = some (.int .i64 x190003_1) := (blk_cell BK189.out 3).trans rfl); (try have hcy113_4 : w109.cell? ⟨gb189, 4, none⟩ = some (.slice none 0 0) := (blk_cell BK189.out 4).trans rfl); have hcz111_0 : w109.cell? ⟨gb194, 0, none⟩ = some (.int .i64 a0_0) := (blk_cell BK194.out 0).trans rfl; have hcz111_1 : w109.cell? ⟨gb194, 1, none⟩ = some (.int .i64 a0_1) := (blk_cell BK194.out 1).trans rfl; have hcz111_2 : w109.cell? ⟨gb194, 2, none⟩ = some (.int .i64 a0_2) := (blk_cell BK194.out 2).trans rfl; have hcz111_3 : w109.cell? ⟨gb194, 3, none⟩ = some (.int .i64 a0_3) := (blk_cell BK194.out 3).trans rfl; have hcz111_4 : w109.cell? ⟨gb194, 4, none⟩ = some (.slice Ao108 x195004_1.length co108) := (blk_cell BK194.out 4).trans rfl; have hfz111_0 := blk_frozen BK194.out 0; have hfz111_1 := blk_frozen BK194.out 1; have hfz111_2 := blk_frozen BK194.out 2; have hfz111_3 := blk_frozen BK194.out 3; have hfz111_4 := blk_frozen BK194.out 4; have hnb112 := NB189_188.out; have hnc112 := NB188_189.out; have hcz113_0 : w109.cell? ⟨gb189, 0, none⟩ = some (.int .i64 x190000_1) := (blk_cell BK189.out 0).trans rfl; have hcz113_1 : w109.cell? ⟨gb189, 1, none⟩ = some (.int .i64 x190001_1) := (blk_cell BK189.out 1).trans rfl; have hcz113_2 : w109.cell? ⟨gb189, 2, none⟩ = some (.int .i64 x190002_1) := (blk_cell BK189.out 2).trans rfl; have hcz113_3 : w109.cell? ⟨gb189, 3, none⟩ = some (.int .i64 x190003_1) := (blk_cell BK189.out 3).trans rfl; have hcz113_4 : w109.cell? ⟨gb189, 4, none⟩ = some (.slice none 0 0) := (blk_cell BK189.out 4).trans rfl; have hfz113_0 := blk_frozen BK189.out 0; have hfz113_1 := blk_frozen BK189.out 1; have hfz113_2 := blk_frozen BK189.out 2; have hfz113_3 := blk_frozen BK189.out 3; have hfz113_4 := blk_frozen BK189.out 4))
         refine bodyPost_ret (results_ct rfl _ _ gb189 52 #[.int .i64 a0_0, .int .i64 a0_1, .int .i64 a0_2, .int .i64 a0_3, .slice Ao108 x195004_1.length co108] (0, 0) _ rfl (by (with_reducible repeat (first | refine blk_drewN ?_ _ | refine blk_drew ?_ | refine blk_alloc ?_ _)); refine blk_put (cs := #[.int .i64 a0_0, .int .i64 a0_1, .int .i64 a0_2, .int .i64 a0_3, .slice none 0 0]) ?_ 4 _ rfl; (with_reducible repeat (first | refine blk_drewN ?_ _ | refine blk_drew ?_ | refine blk_alloc ?_ _)); refine blk_put (cs := #[.int .i64 a0_0, .int .i64 a0_1, .int .i64 a0_2, .int .i64 x190003_1, .slice none 0 0]) ?_ 3 _ rfl; (with_reducible repeat (first | refine blk_drewN ?_ _ | refine blk_drew ?_ | refine blk_alloc ?_ _)); refine blk_put (cs := #[.int .i64 a0_0, .int .i64 a0_1, .int .i64 x190002_1, .int .i64 x190003_1, .slice none 0 0]) ?_ 2 _ rfl; (with_reducible repeat (first | refine blk_drewN ?_ _ | refine blk_drew ?_ | refine blk_alloc ?_ _)); refine blk_put (cs := #[.int .i64 a0_0, .int .i64 x190001_1, .int .i64 x190002_1, .int .i64 x190003_1, .slice none 0 0]) ?_ 1 _ rfl; (with_reducible repeat (first | refine blk_drewN ?_ _ | refine blk_drew ?_ | refine blk_alloc ?_ _)); refine blk_put (cs := #[.int .i64 x190000_1, .int .i64 x190001_1, .int .i64 x190002_1, .int .i64 x190003_1, .slice none 0 0]) ?_ 0 _ rfl; (with_reducible repeat (first | refine blk_drewN ?_ _ | refine blk_drew ?_ | refine blk_alloc ?_ _)); exact BK189.out) Try.underlying52 rfl (by kernel_rfl)) rfl ?_
         exact ⟨_, by first | rfl | (simp [errW_none, errW_some] <;> rfl) | (simp only [← hji11]; first | rfl | (simp [errW_none, errW_some] <;> rfl)) | (simp [*, errW_none, errW_some] <;> rfl), by (with_reducible repeat (first | apply Kd.R_alloc | apply Kd.R_drewN | apply Kd.R_drew)); exact Kd.R_mono (Kd.R_far (p := ⟨gb189, 4, none⟩) (Kd.R_far (p := ⟨gb189, 3, none⟩) (Kd.R_far (p := ⟨gb189, 2, none⟩) (Kd.R_far (p := ⟨gb189, 1, none⟩) (Kd.R_far (p := ⟨gb189, 0, none⟩) (Kd.R_types HO_195004.out BK189.out (by decide)) (fun _ hk => hk.2) (.int .i64 a0_0)) (fun _ hk => hk.2) (.int .i64 a0_1)) (fun _ hk => hk.2) (.int .i64 a0_2)) (fun _ hk => hk.2) (.int .i64 a0_3)) (fun _ hk => hk.2) (.slice Ao108 x195004_1.length co108)) (fun _ hk => trivial), by repeat (first | (with_reducible first | exact HB.out | apply below_alloc | apply pw_below_drewN | apply below_drew1 | refine below_set ?_ GE188.out | refine below_set ?_ GE189.out | refine below_set ?_ GE194.out) | exact HB.out)⟩
        ·replace c104 := Bool.eq_false_iff.mpr c104
         subst c104
         have H1 : (some (0, 0, 0, 0, ([] : List Int), false)) = some (r1, r2, r3, r4, r5, r6) := by rw [if_neg (show ¬ (false = true) by decide)] at H; exact H
         clear H; have H := H1; clear H1
         simp only [Option.some.injEq, Prod.mk.injEq] at H
         obtain ⟨rfl, rfl, rfl, rfl, rfl, rfl⟩ := H
         have hnb114 := NB194_188.out; have hnc114 := NB188_194.out; have hnb115 := NB194_189.out; have hnc115 := NB189_194.out
         have hcz116_0 : wr.cell? ⟨gb194, 0, none⟩ = some (.int .i64 a0_0) := (blk_cell BK194.out 0).trans rfl
         have hcz116_1 : wr.cell? ⟨gb194, 1, none⟩ = some (.int .i64 a0_1) := (blk_cell BK194.out 1).trans rfl
         have hcz116_2 : wr.cell? ⟨gb194, 2, none⟩ = some (.int .i64 a0_2) := (blk_cell BK194.out 2).trans rfl
         have hcz116_3 : wr.cell? ⟨gb194, 3, none⟩ = some (.int .i64 a0_3) := (blk_cell BK194.out 3).trans rfl
         have hcz116_4 : wr.cell? ⟨gb194, 4, none⟩ = some (u195004) := (blk_cell BK194.out 4).trans rfl
         have hfz116_0 := blk_frozen BK194.out 0
         have hfz116_1 := blk_frozen BK194.out 1
         have hfz116_2 := blk_frozen BK194.out 2
         have hfz116_3 := blk_frozen BK194.out 3
         have hfz116_4 := blk_frozen BK194.out 4
         obtain ⟨Ao117, co117, eo117⟩ := Kd.R_slice HO_195004.out
         subst eo117
         go_wp2_with (first | ((with_reducible refine gate_callee (f := 109) rfl ?_); refine goesL_ (some 92) rfl rfl Try.func109 (by kernel_rfl) rfl #[.agg #[.int .i64 a0_0, .int .i64 a0_1, .int .i64 a0_2, .int .i64 a0_3, .slice Ao117 x195004_1.length co117]] rfl z9_14 ?_; (with_reducible refine (impl_RunsOf.calls k1 a0_0 a0_1 a0_2 a0_3 _ _ x195004_1 t200 _ ?side1 ?side2 A102.out).mono ?_); (case side1 => repeat (first | exact (Kd.R_reads' HO_195004.out).2.2 | (with_reducible refine Kd.C_alloc ?_ _) | (with_reducible refine Kd.C_drewN ?_ _) | (with_reducible refine Kd.C_drew ?_))); (case side2 => exact (Kd.R_reads' HO_195004.out).2.1); rintro e w118 ⟨v201, rfl, ho0, hb⟩; refine ⟨_, rfl, ?_⟩; have n0_ := Aside0.mk (Kd.R_below z9_18 hb); have n1_ := Aside0.mk (Kd.R_lower ho0 (below_size z9_3)); have n2_ := Aside0.mk (blk_below (g := gb188) (o := .cells #[.int .i64 a0_0, .int .i64 a0_1, .int .i64 a0_2, .int .i64 a0_3] 35 (0, 0)) z9_2 hb); have n3_ := Aside0.mk (blk_below (g := gb189) (o := .cells #[.int .i64 x190000_1, .int .i64 x190001_1, .int .i64 x190002_1, .int .i64 x190003_1, .slice none 0 0] 52 (0, 0)) z9_4 hb); have n4_ := Aside0.mk (blk_below (g := gb194) (o := .cells #[.int .i64 a0_0, .int .i64 a0_1, .int .i64 a0_2, .int .i64 a0_3, .slice Ao117 x195004_1.length co117] 52 (0, 0)) z9_12 hb); have n5_ := Aside0.mk (below_step z9_3 hb); clear HO_195004; clear BK188; clear BK189; clear BK194; clear HB; have HO_195004 := n0_; have HO202 := n1_; have BK188 := n2_; have BK189 := n3_; have BK194 := n4_; have HB := n5_; clear n0_ n1_ n2_ n3_ n4_ n5_; (try clear hb); (try clear hb2); (try clear hk); (try clear hi); (try clear ho0); obtain ⟨Ao119, co119, eo119⟩ := Kd.R_slice HO202.out; subst eo119) | ((with_reducible refine gate_callee (f := 108) rfl ?_); refine goesL_ (some 94) rfl rfl Try.func108 (by kernel_rfl) rfl #[.slice Ao119 t200.length co119, .slice A1 l1.length c1] rfl z9_14 ?_; (with_reducible refine (impl_Run.calls k1 _ _ t200 _ _ l1 false _ ?side1 ?side2 ?side3 ?side4 A103.out).mono ?_); (case side1 => repeat (first | exact (Kd.R_reads' HO202.out).2.2 | (with_reducible refine Kd.C_alloc ?_ _) | (with_reducible refine Kd.C_drewN ?_ _) | (with_reducible refine Kd.C_drew ?_))); (case side2 => exact (Kd.R_reads' HO202.out).2.1); (case side3 => repeat (first | exact (Kd.C_below HR1.out HB.out) | (with_reducible refine Kd.C_alloc ?_ _) | (with_reducible refine Kd.C_drewN ?_ _) | (with_reducible refine Kd.C_drew ?_))); (case side4 => exact HC1.out); rintro e w' ⟨rfl, ⟨nd, rfl⟩⟩; refine ⟨_, rfl, ?_⟩; (try (rw [drewN_self w118]; generalize hq_ : World.drewN w118 _ = w118; have n0_ : Aside0 (Kd.R k129 129 w118 w.heap.size (fun _ => True) (.slice Ao119 t200.length co119) t200) := ⟨by rw [← hq_]; exact (by (with_reducible repeat (first | apply Kd.R_alloc | apply Kd.R_drewN | apply Kd.R_drew)); exact HO202.out)⟩; have n1_ : Aside0 (Kd.R (Kd.int .i64) 3 w118 w.heap.size (fun _ => True) (.slice Ao117 x195004_1.length co117) x195004_1) := ⟨by rw [← hq_]; exact z9_18⟩; have n2_ : Aside0 (w118.heap[gb188]? = some (.cells #[.int .i64 a0_0, .int .i64 a0_1, .int .i64 a0_2, .int .i64 a0_3] 35 (0, 0))) := ⟨by rw [← hq_]; exact z9_2⟩; have n3_ : Aside0 (w118.heap[gb189]? = some (.cells #[.int .i64 x190000_1, .int .i64 x190001_1, .int .i64 x190002_1, .int .i64 x190003_1, .slice none 0 0] 52 (0, 0))) := ⟨by rw [← hq_]; exact z9_4⟩; have n4_ : Aside0 (w118.heap[gb194]? = some (.cells #[.int .i64 a0_0, .int .i64 a0_1, .int .i64 a0_2, .int .i64 a0_3, .slice Ao117 x195004_1.length co117] 52 (0, 0))) := ⟨by rw [← hq_]; exact z9_12⟩; have n5_ : Aside0 (Below w.heap.size w w118) := ⟨by rw [← hq_]; exact z9_3⟩; clear HO202 HO_195004 BK188 BK189 BK194 HB hq_; have HO202 := n0_; have HO_195004 := n1_; have BK188 := n2_; have BK189 := n3_; have BK194 := n4_; have HB := n5_; clear n0_ n1_ n2_ n3_ n4_ n5_)); (try have hcy121_0 : w118.cell? ⟨gb189, 0, none⟩ = some (.int .i64 x190000_1) := (blk_cell BK189.out 0).trans rfl); (try have hcy121_1 : w118.cell? ⟨gb189, 1, none⟩ = some (.int .i64 x190001_1) := (blk_cell BK189.out 1).trans rfl); (try have hcy121_2 : w118.cell? ⟨gb189, 2, none⟩ = some (.int .i64 x190002_1) := (blk_cell BK189.out 2).trans rfl); (try have hcy121_3 : w118.cell? ⟨gb189, 3, none⟩ = some (.int .i64 x190003_1) := (blk_cell BK189.out 3).trans rfl); (try have hcy121_4 : w118.cell? ⟨gb189, 4, none⟩ = some (.slice none 0 0) := (blk_cell BK189.out 4).trans rfl); have hnb120 := NB189_188.out; have hnc120 := NB188_189.out; have hcz121_0 : w118.cell? ⟨gb189, 0, none⟩ = some (.int .i64 x190000_1) := (blk_cell BK189.out 0).trans rfl; have hcz121_1 : w118.cell? ⟨gb189, 1, none⟩ = some (.int .i64 x190001_1) := (blk_cell BK189.out 1).trans rfl; have hcz121_2 : w118.cell? ⟨gb189, 2, none⟩ = some (.int .i64 x190002_1) := (blk_cell BK189.out 2).trans rfl; have hcz121_3 : w118.cell? ⟨gb189, 3, none⟩ = some (.int .i64 x190003_1) := (blk_cell BK189.out 3).trans rfl; have hcz121_4 : w118.cell? ⟨gb189, 4, none⟩ = some (.slice none 0 0) := (blk_cell BK189.out 4).trans rfl; have hfz121_0 := blk_frozen BK189.out 0; have hfz121_1 := blk_frozen BK189.out 1; have hfz121_2 := blk_frozen BK189.out 2; have hfz121_3 := blk_frozen BK189.out 3; have hfz121_4 := blk_frozen BK189.out 4))
         refine bodyPost_ret (results_ct rfl _ _ gb189 52 #[.int .i64 0, .int .i64 0, .int .i64 0, .int .i64 0, .slice none 0 0] (0, 0) _ rfl z9_11 Try.underlying52 rfl (by kernel_rfl)) rfl ?_
         exact ⟨_, by first | rfl | (simp [errW_none, errW_some] <;> rfl) | (simp only [← hji11]; first | rfl | (simp [errW_none, errW_some] <;> rfl)) | (simp [*, errW_none, errW_some] <;> rfl), by first | exact Kd.R_nil _ _ _ _ _ | exact Kd.N_nil _ _ _ _ _ | exact Kd.V_nil _ _ _ _ _ | exact Kd.Q_nil _ _ _ _ _ | exact Kd.S_nil _ _ _ _ _, by repeat (first | (with_reducible first | exact HB.out | apply below_alloc | apply pw_below_drewN | apply below_drew1 | refine below_set ?_ GE188.out | refine below_set ?_ GE189.out | refine below_set ?_ GE194.out) | exact HB.out)⟩
    ·rw [if_neg c13] at H
     exact absurd H (by simp)
   ·rw [if_neg c12] at H
    exact absurd H (by simp)
  ·replace c10 := Bool.eq_false_iff.mpr c10
   subst c10
   have H1 : (some (0, 0, 0, 0, ([] : List Int), false)) = some (r1, r2, r3, r4, r5, r6) := by rw [if_neg (show ¬ (false = true) by decide)] at H; exact H
   clear H; have H := H1; clear H1
   simp only [Option.some.injEq, Prod.mk.injEq] at H
   obtain ⟨rfl, rfl, rfl, rfl, rfl, rfl⟩ := H
   go_enter Try.func35, Try.ntmps35
   go_wp2_with (first | ((with_reducible refine gate_dst (N := 2) rfl ?_); refine box_event ?hg (N := 2) ?hd (cs := #[.int .i64 a0_0, .int .i64 a0_1, .int .i64 a0_2, .int .i64 a0_3]) (t := 35) ?hr ?_; (case hd => rfl); (case hg => rfl); (case hr => first | (go_simp; done) | (go_simp; rfl)); intro gb188 hg w122 hbox hb; have n0_ := Aside0.mk (below_step z9_15 hb); have n1_ := Aside0.mk (hbox); have n2_ := Aside0.mk ((by rw [hg]; exact (below_size z9_15) : w.heap.size ≤ gb188)); have n3_ := Aside0.mk ((by rw [hg]; exact (below_size z9_15) : w.heap.size ≤ gb188)); clear HB; have HB := n0_; have BK188 := n1_; have GW188 := n2_; have GE188 := n3_; clear n0_ n1_ n2_ n3_; clear hb hbox hg) | ((with_reducible refine gate_dst (N := 4) rfl ?_); refine box_event ?hg (N := 4) ?hd (cs := #[.int .i64 0, .int .i64 0, .int .i64 0, .int .i64 0, .slice none 0 0]) (t := 52) ?hr ?_; (case hd => rfl); (case hg => rfl); (case hr => first | (go_simp; done) | (go_simp; rfl)); intro gb189 hg w123 hbox hb; have n0_ := Aside0.mk (blk_below (g := gb188) (o := .cells #[.int .i64 a0_0, .int .i64 a0_1, .int .i64 a0_2, .int .i64 a0_3] 35 (0, 0)) z9_2 hb); have n1_ := Aside0.mk (below_step z9_7 hb); have n2_ := Aside0.mk (hbox); have n3_ := Aside0.mk ((by rw [hg]; exact (below_size z9_7) : w.heap.size ≤ gb189)); have n4_ := Aside0.mk ((by rw [hg]; exact (below_size z9_7) : w.heap.size ≤ gb189)); have n5_ := Aside0.mk ((by rw [hg]; exact Nat.ne_of_lt (blk_lt (g := gb188) (o := .cells #[.int .i64 a0_0, .int .i64 a0_1, .int .i64 a0_2, .int .i64 a0_3] 35 (0, 0)) z9_2) : gb188 ≠ gb189)); have n6_ := Aside0.mk ((by rw [hg]; exact Nat.ne_of_gt (blk_lt (g := gb188) (o := .cells #[.int .i64 a0_0, .int .i64 a0_1, .int .i64 a0_2, .int .i64 a0_3] 35 (0, 0)) z9_2) : gb189 ≠ gb188)); clear BK188; clear HB; have BK188 := n0_; have HB := n1_; have BK189 := n2_; have GW189 := n3_; have GE189 := n4_; have NB188_189 := n5_; have NB189_188 := n6_; clear n0_ n1_ n2_ n3_ n4_ n5_ n6_; clear hb hbox hg; have hnb124 := NB188_189.out; have hnc124 := NB189_188.out; have hcz125_0 : w123.cell? ⟨gb188, 0, none⟩ = some (.int .i64 a0_0) := (blk_cell BK188.out 0).trans rfl; have hcz125_1 : w123.cell? ⟨gb188, 1, none⟩ = some (.int .i64 a0_1) := (blk_cell BK188.out 1).trans rfl; have hcz125_2 : w123.cell? ⟨gb188, 2, none⟩ = some (.int .i64 a0_2) := (blk_cell BK188.out 2).trans rfl; have hcz125_3 : w123.cell? ⟨gb188, 3, none⟩ = some (.int .i64 a0_3) := (blk_cell BK188.out 3).trans rfl; have hfz125_0 := blk_frozen BK188.out 0; have hfz125_1 := blk_frozen BK188.out 1; have hfz125_2 := blk_frozen BK188.out 2; have hfz125_3 := blk_frozen BK188.out 3) | ((with_reducible refine gate_callee (f := 105) rfl ?_); refine goesL_ (some 19) rfl rfl Try.func105 (by kernel_rfl) rfl #[.agg #[.int .i64 a0_0, .int .i64 a0_1, .int .i64 a0_2, .int .i64 a0_3]] rfl z9_14 ?_; (with_reducible refine (impl_isMaskBox.calls a0_0 a0_1 a0_2 a0_3 false _ A9.out).mono ?_); rintro e w126 ⟨rfl, hb⟩; refine ⟨_, rfl, ?_⟩; have n0_ := Aside0.mk (blk_below (g := gb188) (o := .cells #[.int .i64 a0_0, .int .i64 a0_1, .int .i64 a0_2, .int .i64 a0_3] 35 (0, 0)) z9_2 hb); have n1_ := Aside0.mk (blk_below (g := gb189) (o := .cells #[.int .i64 0, .int .i64 0, .int .i64 0, .int .i64 0, .slice none 0 0] 52 (0, 0)) z9_4 hb); have n2_ := Aside0.mk (below_step z9_6 hb); clear BK188; clear BK189; clear HB; have BK188 := n0_; have BK189 := n1_; have HB := n2_; clear n0_ n1_ n2_; (try clear hb); (try clear hb2); (try clear hk); (try clear hi); have hcz127_0 : w126.cell? ⟨gb189, 0, none⟩ = some (.int .i64 0) := (blk_cell BK189.out 0).trans rfl; have hcz127_1 : w126.cell? ⟨gb189, 1, none⟩ = some (.int .i64 0) := (blk_cell BK189.out 1).trans rfl; have hcz127_2 : w126.cell? ⟨gb189, 2, none⟩ = some (.int .i64 0) := (blk_cell BK189.out 2).trans rfl; have hcz127_3 : w126.cell? ⟨gb189, 3, none⟩ = some (.int .i64 0) := (blk_cell BK189.out 3).trans rfl; have hcz127_4 : w126.cell? ⟨gb189, 4, none⟩ = some (.slice none 0 0) := (blk_cell BK189.out 4).trans rfl; have hfz127_0 := blk_frozen BK189.out 0; have hfz127_1 := blk_frozen BK189.out 1; have hfz127_2 := blk_frozen BK189.out 2; have hfz127_3 := blk_frozen BK189.out 3; have hfz127_4 := blk_frozen BK189.out 4))
   refine bodyPost_ret (results_ct rfl _ _ gb189 52 #[.int .i64 0, .int .i64 0, .int .i64 0, .int .i64 0, .slice none 0 0] (0, 0) _ rfl z9_13 Try.underlying52 rfl (by kernel_rfl)) rfl ?_
   exact ⟨_, by first | rfl | (simp [errW_none, errW_some] <;> rfl) | (simp [*, errW_none, errW_some] <;> rfl), by first | exact Kd.R_nil _ _ _ _ _ | exact Kd.N_nil _ _ _ _ _ | exact Kd.V_nil _ _ _ _ _ | exact Kd.Q_nil _ _ _ _ _ | exact Kd.S_nil _ _ _ _ _, by repeat (first | (with_reducible first | exact HB.out | apply below_alloc | apply pw_below_drewN | apply below_drew1 | refine below_set ?_ GE188.out | refine below_set ?_ GE189.out) | exact HB.out)⟩

end Go.Proofs.Ytgdlbilpfmjeaaa.MFnExactMaskBy
