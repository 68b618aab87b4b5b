/- Functions of the program as Lean functions, and the proof that a call comes to just these: machine text of this session's own program (myprint.py). -/
import Derived.Test.YtghbenapnhcllaaMFnMasksx0
import Derived.Test.YtghbenapnhcllaaMFnMasksx2
import Derived.Test.YtghbenapnhcllaaMFnMasksx14
import Derived.Test.YtghbenapnhcllaaMFnMasksx15
namespace Go.Proofs.Ytghbenapnhcllaa.MFnMasks
open Go.RowKit Go.Proofs.YtghbenapnhcllaaW.PrintWords Go.Proofs.YtghbenapnhcllaaW.PrintLast Go.Proofs.YtghbenapnhcllaaW.PrintMore
attribute [local go_sem] max2_int min2_int max_two min_two max_three min_three max_four min_four   -- for this text's walks alone
set_option linter.unusedVariables false
set_option linter.unusedSimpArgs false

attribute [local go_sem high] eqA63
def y16_13 : Array Bool := (bA 12 2047)
theorem x16_put {P : Prop} (h : P := by simp only [Act.put, List.setIfInBounds_toArray, List.set_cons_zero, List.set_cons_succ, i64_w, i32_w]; rfl) : P := h
theorem z16_2 {P : Prop} (h : P := by repeat (first | (with_reducible first | exact HB.out | apply below_alloc | apply pw_below_drewN | apply below_drew1 | refine below_set ?_ GE434.out | refine below_set ?_ GE435.out | refine below_set ?_ GE440.out) | exact HB.out)) : P := h
theorem z16_3 {P : Prop} (h : P := by repeat (first | (with_reducible first | exact HB.out | apply below_alloc | apply pw_below_drewN | apply below_drew1 | refine below_set ?_ GE434.out | refine below_set ?_ GE435.out | refine below_set ?_ GE440.out | refine below_set ?_ GE442.out) | exact HB.out)) : P := h
theorem z16_4 {P : Prop} (h : P := by repeat (first | (with_reducible first | exact HB.out | apply below_alloc | apply pw_below_drewN | apply below_drew1 | refine below_set ?_ GE434.out | refine below_set ?_ GE435.out) | exact HB.out)) : P := h
theorem z16_5 {P : Prop} (h : P := by repeat (first | (with_reducible first | exact HB.out | apply below_alloc | apply pw_below_drewN | apply below_drew1 | refine below_set ?_ GE434.out) | exact HB.out)) : P := h
theorem z16_6 {P : Prop} (h : P := by (with_reducible repeat (first | refine blk_drewN ?_ _ | refine blk_drew ?_ | refine blk_alloc ?_ _ | refine blk_far ?_ NB434_442.out _)); exact BK434.out) : P := h
theorem z16_7 {P : Prop} (h : P := by (with_reducible repeat (first | refine blk_drewN ?_ _ | refine blk_drew ?_ | refine blk_alloc ?_ _ | refine blk_far ?_ NB435_442.out _)); exact BK435.out) : P := h
theorem z16_8 {P : Prop} (h : P := by (with_reducible repeat (first | refine blk_drewN ?_ _ | refine blk_drew ?_ | refine blk_alloc ?_ _ | refine blk_far ?_ NB440_442.out _)); exact BK440.out) : P := h
theorem z16_11 {P : Prop} (h : P := by (with_reducible repeat (first | apply Kd.R_alloc | apply Kd.R_drewN | apply Kd.R_drew)); exact (Kd.R_mono (R_f4 (Kd.R_types HO_441004.out BK442.out (by decide)) (fun _ hk => hk.2)) (fun _ h_ => h_.1))) : P := h
theorem z16_12 {P : Prop} (h : P := by apply blk_fin; (focus ((with_reducible repeat (first | apply blk_putQ | refine blk_drewN ?_ _ | refine blk_drew ?_ | refine blk_alloc ?_ _)); exact BK435.out)); first | (simp only [List.setIfInBounds_toArray, List.set_cons_zero, List.set_cons_succ]; done) | rfl) : P := h
theorem z16_13 {P : Prop} (h : P := by apply blk_fin; (focus ((with_reducible repeat (first | apply blk_putQ | refine blk_drewN ?_ _ | refine blk_drew ?_ | refine blk_alloc ?_ _)); exact BK442.out)); first | (simp only [List.setIfInBounds_toArray, List.set_cons_zero, List.set_cons_succ]; done) | rfl) : P := h
theorem z16_15 {P : Prop} (h : P := by first | rfl | (simp [errW_none, errW_some] <;> rfl) | (simp only [← hji11]; first | rfl | (simp [errW_none, errW_some] <;> rfl)) | (simp [*, errW_none, errW_some] <;> rfl)) : P := h
theorem z16_17 {P : Prop} (h : P := by repeat (first | exact (Kd.R_reads' HO_441004.out).2.2 | (with_reducible refine Kd.C_alloc ?_ _) | (with_reducible refine Kd.C_drewN ?_ _) | (with_reducible refine Kd.C_drew ?_))) : P := h
theorem z16_18 {P : Prop} (h : P := by repeat (first | exact (Kd.R_reads' HO448.out).2.2 | (with_reducible refine Kd.C_alloc ?_ _) | (with_reducible refine Kd.C_drewN ?_ _) | (with_reducible refine Kd.C_drew ?_))) : P := h
theorem z16_19 {P : Prop} (h : P := by repeat (first | exact (Kd.C_below HR1.out HB.out) | (with_reducible refine Kd.C_alloc ?_ _) | (with_reducible refine Kd.C_drewN ?_ _) | (with_reducible refine Kd.C_drew ?_))) : P := h
/-! ### impl_MaskBy: function 45 -/
mutual
def impl_MaskBy.l0 : Nat → List (S95) → Int → List (S95) → Int → Int → Int → Int → Int → Int → Int → Int → Int → Int → List Int → Option (Int × Int × Int × Int × List Int × Bool)
 | 0, _, _, _, _, _, _, _, _, _, _, _, _, _, _ => none
 | k + 1, x1, x6, x37, x38, x39, x435000, x435001, x435002, x435003, x441000, x441001, x441002, x441003, x441004 => if x39 < x38 then (if 0 ≤ x39 then (if x39 < (x37.length : Int) then ((impl_InBox.f x435000 x435001 x435002 x435003 ((rd_T95 x37 x39).f1) ((rd_T95 x37 x39).f0)).bind fun t443 => (if t443 = true then (if ((rd_T95 x37 x39).f2) > x435002 then (impl_MaskBy.j1 k x1 x6 x37 x38 x39 true x435000 x435001 x435002 x435003 x441000 x441001 x441002 x441003 x441004 ((rd_T95 x37 x39).f0) ((rd_T95 x37 x39).f1) ((rd_T95 x37 x39).f2) ((rd_T95 x37 x39).f3)) else ((impl_inRange.f ((rd_T95 x37 x39).f3) 1 15).bind fun t444 => (impl_MaskBy.j1 k x1 x6 x37 x38 x39 (!t444) x435000 x435001 x435002 x435003 x441000 x441001 x441002 x441003 x441004 ((rd_T95 x37 x39).f0) ((rd_T95 x37 x39).f1) ((rd_T95 x37 x39).f2) ((rd_T95 x37 x39).f3)))) else (impl_MaskBy.j1 k x1 x6 x37 x38 x39 true x435000 x435001 x435002 x435003 x441000 x441001 x441002 x441003 x441004 ((rd_T95 x37 x39).f0) ((rd_T95 x37 x39).f1) ((rd_T95 x37 x39).f2) ((rd_T95 x37 x39).f3)))) else (none)) else (none)) else ((impl_RunsOf.f k x441000 x441001 x441002 x441003 x441004).bind fun t446 => ((impl_Run.f k t446 x1).bind fun t449 => (if t449 = true then (some (x441000, x441001, x441002, x441003, x441004, true)) else (some (0, 0, 0, 0, ([] : List Int), false)))))
def impl_MaskBy.j1 : Nat → List (S95) → Int → List (S95) → Int → Int → Bool → Int → Int → Int → Int → Int → Int → Int → Int → List Int → Int → Int → Int → Int → Option (Int × Int × Int × Int × List Int × Bool)
 | 0, _, _, _, _, _, _, _, _, _, _, _, _, _, _, _, _, _, _, _ => none
 | k + 1, x1, x6, x37, x38, x39, x63, x435000, x435001, x435002, x435003, x441000, x441001, x441002, x441003, x441004, x443000, x443001, x443002, x443003 => if x63 = true then (some (0, 0, 0, 0, ([] : List Int), false)) else (impl_MaskBy.l1 k x1 x6 x443001 x37 x38 x39 x435000 x435001 x435002 x435003 x441000 x441001 x441002 x441003 x441004 x443000 x443001 x443002 x443003)
def impl_MaskBy.l1 : Nat → List (S95) → Int → Int → List (S95) → Int → Int → Int → Int → Int → Int → Int → Int → Int → Int → List Int → Int → Int → Int → Int → Option (Int × Int × Int × Int × List Int × Bool)
 | 0, _, _, _, _, _, _, _, _, _, _, _, _, _, _, _, _, _, _, _ => none
 | k + 1, x1, x6, x10, x37, x38, x39, x435000, x435001, x435002, x435003, x441000, x441001, x441002, x441003, x441004, x443000, x443001, x443002, x443003 => if x10 < x443002 then (if 0 ≤ (wrap64 ((wrap64 ((wrap64 ((wrap64 (x443000 - x435001)) * x6)) + x10)) - x435000)) then (if (wrap64 ((wrap64 ((wrap64 ((wrap64 (x443000 - x435001)) * x6)) + x10)) - x435000)) < (x441004.length : Int) then (impl_MaskBy.l1 k x1 x6 (wrap64 (x10 + 1)) x37 x38 x39 x435000 x435001 x435002 x435003 x441000 x441001 x441002 x441003 (x441004.set ((wrap64 ((wrap64 ((wrap64 ((wrap64 (x443000 - x435001)) * x6)) + x10)) - x435000)) : Int).toNat x443003) x443000 x443001 x443002 x443003) else (none)) else (none)) else (impl_MaskBy.l0 k x1 x6 x37 x38 (wrap64 (x39 + 1)) x435000 x435001 x435002 x435003 x441000 x441001 x441002 x441003 x441004)
end
def impl_MaskBy.f (k : Nat) (a0_0 : Int) (a0_1 : Int) (a0_2 : Int) (a0_3 : Int) (l1 : List (S95)) : Option (Int × Int × Int × Int × List Int × Bool) := if (a0_0 == 0 && (a0_1 == 0 && (a0_2 == 0 && (a0_3 == 0)))) = true then (some (0, 0, 0, 0, ([] : List Int), ((l1.length : Int) == 0))) else ((impl_isMaskBox.f a0_0 a0_1 a0_2 a0_3).bind fun t436 => (if t436 = true then (if 0 ≤ (wrap64 ((wrap64 (a0_2 - a0_0)) * (wrap64 (a0_3 - a0_1)))) then (if (wrap64 ((wrap64 (a0_2 - a0_0)) * (wrap64 (a0_3 - a0_1))) : Int).toNat ≤ 35184372088832 then (impl_MaskBy.l0 k l1 (wrap64 (a0_2 - a0_0)) l1 (l1.length : Int) 0 a0_0 a0_1 a0_2 a0_3 a0_0 a0_1 a0_2 a0_3 (List.replicate (wrap64 ((wrap64 (a0_2 - a0_0)) * (wrap64 (a0_3 - a0_1))) : Int).toNat 0)) else (none)) else (none)) else (some (0, 0, 0, 0, ([] : List Int), false))))
theorem impl_MaskBy.mono_l : ∀ k, (∀ y0 y1 y2 y3 y4 y5 y6 y7 y8 y9 y10 y11 y12 y13, LeO (impl_MaskBy.l0 k y0 y1 y2 y3 y4 y5 y6 y7 y8 y9 y10 y11 y12 y13) (impl_MaskBy.l0 (k + 1) y0 y1 y2 y3 y4 y5 y6 y7 y8 y9 y10 y11 y12 y13)) ∧ (∀ y0 y1 y2 y3 y4 y5 y6 y7 y8 y9 y10 y11 y12 y13 y14 y15 y16 y17 y18, LeO (impl_MaskBy.j1 k y0 y1 y2 y3 y4 y5 y6 y7 y8 y9 y10 y11 y12 y13 y14 y15 y16 y17 y18) (impl_MaskBy.j1 (k + 1) y0 y1 y2 y3 y4 y5 y6 y7 y8 y9 y10 y11 y12 y13 y14 y15 y16 y17 y18)) ∧ (∀ y0 y1 y2 y3 y4 y5 y6 y7 y8 y9 y10 y11 y12 y13 y14 y15 y16 y17 y18, LeO (impl_MaskBy.l1 k y0 y1 y2 y3 y4 y5 y6 y7 y8 y9 y10 y11 y12 y13 y14 y15 y16 y17 y18) (impl_MaskBy.l1 (k + 1) y0 y1 y2 y3 y4 y5 y6 y7 y8 y9 y10 y11 y12 y13 y14 y15 y16 y17 y18))
 | 0 => ⟨fun _ _ _ _ _ _ _ _ _ _ _ _ _ _ r h => by simp [impl_MaskBy.l0] at h, fun _ _ _ _ _ _ _ _ _ _ _ _ _ _ _ _ _ _ _ r h => by simp [impl_MaskBy.j1] at h, fun _ _ _ _ _ _ _ _ _ _ _ _ _ _ _ _ _ _ _ r h => by simp [impl_MaskBy.l1] at h⟩
 | k + 1 => by
  obtain ⟨ih0, ih1, ih2⟩ := impl_MaskBy.mono_l k
  refine ⟨?_, ?_, ?_⟩
  ·intro y0 y1 y2 y3 y4 y5 y6 y7 y8 y9 y10 y11 y12 y13
   unfold impl_MaskBy.l0
   with_reducible repeat' first | apply ih0 | apply ih1 | apply ih2 | apply impl_Run.mono | apply impl_RunsOf.mono | exact LeO.refl _ | exact LeO.none _ | refine LeO.ite ?_ ?_ | refine LeO.bind ?_ (fun _ => ?_)
  ·intro y0 y1 y2 y3 y4 y5 y6 y7 y8 y9 y10 y11 y12 y13 y14 y15 y16 y17 y18
   unfold impl_MaskBy.j1
   with_reducible repeat' first | apply ih0 | apply ih1 | apply ih2 | apply impl_Run.mono | apply impl_RunsOf.mono | exact LeO.refl _ | exact LeO.none _ | refine LeO.ite ?_ ?_ | refine LeO.bind ?_ (fun _ => ?_)
  ·intro y0 y1 y2 y3 y4 y5 y6 y7 y8 y9 y10 y11 y12 y13 y14 y15 y16 y17 y18
   unfold impl_MaskBy.l1
   with_reducible repeat' first | apply ih0 | apply ih1 | apply ih2 | apply impl_Run.mono | apply impl_RunsOf.mono | exact LeO.refl _ | exact LeO.none _ | refine LeO.ite ?_ ?_ | refine LeO.bind ?_ (fun _ => ?_)
theorem impl_MaskBy.mono : ∀ a0 a1 a2 a3 a4 k, LeO (impl_MaskBy.f k a0 a1 a2 a3 a4) (impl_MaskBy.f (k + 1) a0 a1 a2 a3 a4) := by
 intro a0 a1 a2 a3 a4 k; obtain ⟨ih0, ih1, ih2⟩ := impl_MaskBy.mono_l k
 unfold impl_MaskBy.f
 with_reducible repeat' first | apply ih0 | apply ih1 | apply ih2 | apply impl_Run.mono | apply impl_RunsOf.mono | exact LeO.refl _ | exact LeO.none _ | refine LeO.ite ?_ ?_ | refine LeO.bind ?_ (fun _ => ?_)
def impl_MaskBy.T6 : Bool × List (List Nat × List Nat) := (true, [([], []), ([], []), ([], []), ([2], [2]), ([], []), ([4], [4]), ([3, 5], [3, 5]), ([1, 6], [1, 6]), ([7, 7], [7]), ([0, 8], [0, 8]), ([], []), ([10, 9, 0, 1, 2, 3, 4, 5, 6, 7, 8, 9, 10], [9, 10])])
def impl_MaskBy.B6 : List Nat := [0, 0, 0, 4, 0, 16, 60, 126, 254, 511, 0, 2047]
theorem impl_MaskBy.tab6 : rtab .any (opsOf Try.f45 6) = impl_MaskBy.T6 := by kernel_rfl
theorem impl_MaskBy.bits6 : waitsOk impl_MaskBy.T6.2 impl_MaskBy.B6 = true := by kernel_rfl
set_option maxHeartbeats 8000000 in
set_option maxRecDepth 100000 in
theorem impl_MaskBy.calls (k : Nat) (a0_0 : Int) (a0_1 : Int) (a0_2 : Int) (a0_3 : Int) (A1 : Option Addr) (c1 : Nat) (l1 : List (S95)) (r1 : Int) (r2 : Int) (r3 : Int) (r4 : Int) (r5 : List Int) (r6 : Bool) (w : World) (hr1 : Kd.C k95 w A1 l1.length l1) (hc1 : l1.length ≤ c1) (h : impl_MaskBy.f k a0_0 a0_1 a0_2 a0_3 l1 = some (r1, r2, r3, r4, r5, r6)) :
  Calls Try.prog 45 #[.agg #[.int .i64 a0_0, .int .i64 a0_1, .int .i64 a0_2, .int .i64 a0_3], .slice A1 l1.length c1] w fun e w' => ∃ v4_ : Value, e = .returned (.tuple #[.agg #[.int .i64 r1, .int .i64 r2, .int .i64 r3, .int .i64 r4, v4_], .bool r6]) ∧ Kd.R (Kd.int .i64) 3 w' w.heap.size (fun _ => True) v4_ r5 ∧ Below w.heap.size w w' := by
 have hu63 := Try.underlying63; have hu65 := Try.underlying65; have hu95 := Try.underlying95; have hu52 := Try.underlying52; have HR1 := mk0 hr1; have HC1 := mk0 hc1; clear hr1 hc1; have HB := mk0 (Below.refl w.heap.size w)
 have H := h; unfold impl_MaskBy.f at H
 clear h
 by_cases c3 : (a0_0 == 0 && (a0_1 == 0 && (a0_2 == 0 && (a0_3 == 0)))) = true
 ·rw [if_pos c3] at H
  have c3b0 : (a0_0 == 0 && (a0_1 == 0 && (a0_2 == 0 && (a0_3 == 0)))) = true := c3
  (try (have c3b1 : decide (a0_0 = 0 && (a0_1 == 0 && (a0_2 == 0 && (a0_3 == 0)))) = true := by simpa using c3))
  (try (have c3b2 : (a0_0 == 0 && (a0_1 == 0 && (a0_2 == 0 && (a0_3 == 0)))) = true := by simpa using c3))
  clear c3; simp only [Option.some.injEq, Prod.mk.injEq] at H; obtain ⟨rfl, rfl, rfl, rfl, rfl, rfl⟩ := H; go_enter Try.func45, Try.ntmps45
  go_wp2_with (first | ((with_reducible refine gate_dst (N := 2) rfl ?_); refine boxz (cs := #[.int .i64 a0_0, .int .i64 a0_1, .int .i64 a0_2, .int .i64 a0_3]) (t := 63) rfl ?_; intro gb434 hg w4 hbox hb; have GW434 := mk0 (ge_go (a := w.heap.size) hg (below_size q_149)); have GE434 := GW434; replace HB := bS q_149 hb; have BK434 := mk0 (hbox); clear hb hbox hg) | ((with_reducible refine gate_dst (N := 4) rfl ?_); refine boxz (cs := #[.int .i64 0, .int .i64 0, .int .i64 0, .int .i64 0, .slice none 0 0]) (t := 65) rfl ?_; intro gb435 hg w5 hbox hb; have GW435 := mk0 (ge_go (a := w.heap.size) hg (below_size z16_5)); have GE435 := GW435; have NB434_435 := mk0 (nb_lt hg (blk_ltB BK434 (pkb BK434))); have NB435_434 := mk0 (nb_gt hg (blk_ltB BK434 (pkb BK434))); replace BK434 := bB BK434 hb; replace HB := bS z16_5 hb; have BK435 := mk0 (hbox); clear hb hbox hg; have hnb6 := NB434_435.out; have hnc6 := NB435_434.out; obtain ⟨_, _, _, _, _, _, _, _⟩ := be_4 BK434.out; obtain ⟨_, _, _, _, _, _, _, _, _, _⟩ := be_5 BK435.out))
  refine bodyPost_ret (results_ct rfl _ _ gb435 65 #[.int .i64 0, .int .i64 0, .int .i64 0, .int .i64 0, .slice none 0 0] (0, 0) _ rfl z16_12 Try.underlying65 rfl (by kernel_rfl)) rfl ?_
  exact ⟨_, (by first | rfl | (simp [errW_none, errW_some] <;> rfl) | (simp [*, errW_none, errW_some] <;> rfl)), q_70, z16_4⟩
 rw [if_neg c3] at H
 have c3b0 : (a0_0 == 0 && (a0_1 == 0 && (a0_2 == 0 && (a0_3 == 0)))) = false := by simpa using c3
 (try (have c3b1 : decide (a0_0 = 0 && (a0_1 == 0 && (a0_2 == 0 && (a0_3 == 0)))) = false := by simpa using c3))
 (try (have c3b2 : (a0_0 == 0 && (a0_1 == 0 && (a0_2 == 0 && (a0_3 == 0)))) = false := by simpa using c3))
 (try (have c3b3 : ¬ (a0_0 = 0 && (a0_1 == 0 && (a0_2 == 0 && (a0_3 == 0)))) := by simpa using c3))
 clear c3; obtain ⟨t436, A9, H⟩ := bnd H
 try dsimp only at H
 by_cases c10 : t436 = true
 rotate_left
 ·replace c10 := Bool.eq_false_iff.mpr c10; subst c10; rw [if_neg (show ¬ (false = true) by decide)] at H
  simp only [Option.some.injEq, Prod.mk.injEq] at H; obtain ⟨rfl, rfl, rfl, rfl, rfl, rfl⟩ := H
  go_enter Try.func45, Try.ntmps45
  go_wp2_with (first | ((with_reducible refine gate_dst (N := 2) rfl ?_); refine boxz (cs := #[.int .i64 a0_0, .int .i64 a0_1, .int .i64 a0_2, .int .i64 a0_3]) (t := 63) rfl ?_; intro gb434 hg w122 hbox hb; have GW434 := mk0 (ge_go (a := w.heap.size) hg (below_size q_149)); have GE434 := GW434; replace HB := bS q_149 hb; have BK434 := mk0 (hbox); clear hb hbox hg) | ((with_reducible refine gate_dst (N := 4) rfl ?_); refine boxz (cs := #[.int .i64 0, .int .i64 0, .int .i64 0, .int .i64 0, .slice none 0 0]) (t := 65) rfl ?_; intro gb435 hg w123 hbox hb; have GW435 := mk0 (ge_go (a := w.heap.size) hg (below_size z16_5)); have GE435 := GW435; have NB434_435 := mk0 (nb_lt hg (blk_ltB BK434 (pkb BK434))); have NB435_434 := mk0 (nb_gt hg (blk_ltB BK434 (pkb BK434))); replace BK434 := bB BK434 hb; replace HB := bS z16_5 hb; have BK435 := mk0 (hbox); clear hb hbox hg; have hnb124 := NB434_435.out; have hnc124 := NB435_434.out; obtain ⟨_, _, _, _, _, _, _, _⟩ := be_4 BK434.out) | ((with_reducible refine gate_callee (f := 88) rfl ?_); refine gl_ (some 19) Try.func88 #[.agg #[.int .i64 a0_0, .int .i64 a0_1, .int .i64 a0_2, .int .i64 a0_3]] rfl q_0 ?_; (with_reducible refine (impl_isMaskBox.calls a0_0 a0_1 a0_2 a0_3 false _ A9.out).mono ?_); rintro e w126 ⟨rfl, hb⟩; refine ⟨_, rfl, ?_⟩; replace BK434 := bB BK434 hb; replace BK435 := bB BK435 hb; replace HB := bS z16_4 hb; clear hb; obtain ⟨_, _, _, _, _, _, _, _, _, _⟩ := be_5 BK435.out))
  refine bodyPost_ret (results_ct rfl _ _ gb435 65 #[.int .i64 0, .int .i64 0, .int .i64 0, .int .i64 0, .slice none 0 0] (0, 0) _ rfl z16_12 Try.underlying65 rfl (by kernel_rfl)) rfl ?_
  exact ⟨_, (by first | rfl | (simp [errW_none, errW_some] <;> rfl) | (simp [*, errW_none, errW_some] <;> rfl)), q_70, z16_4⟩
 subst c10; rw [if_pos rfl] at H
 obtain ⟨ji11, hji11⟩ : ∃ j_ : Int, (wrap64 ((wrap64 (a0_2 - a0_0)) * (wrap64 (a0_3 - a0_1)))) = j_ := ⟨_, rfl⟩
 replace H : (if 0 ≤ (ji11) then (if (ji11 : Int).toNat ≤ 35184372088832 then (impl_MaskBy.l0 k l1 (wrap64 (a0_2 - a0_0)) l1 (l1.length : Int) 0 a0_0 a0_1 a0_2 a0_3 a0_0 a0_1 a0_2 a0_3 (List.replicate (ji11 : Int).toNat 0)) else (none)) else (none)) = some (r1, r2, r3, r4, r5, r6) := by first | (rw [hji11] at H; exact H) | (simp only [hji11] at H ⊢; exact H)
 (try rw [hji11] at A9)
 have hji11w : (IntKind.i64.wrap ((wrap64 (a0_2 - a0_0)) * (wrap64 (a0_3 - a0_1)))) = ji11 := (i64_w _).trans hji11
 by_cases c12 : 0 ≤ (ji11)
 rotate_left
 ·rw [if_neg c12] at H
  exact absurd H (by simp)
 rw [if_pos c12] at H; have c12b0 := eq_true c12; have c12b1 := decide_eq_true c12; clear c12
 by_cases c13 : (ji11 : Int).toNat ≤ 35184372088832
 rotate_left
 ·rw [if_neg c13] at H
  exact absurd H (by simp)
 rw [if_pos c13] at H; have c13b0 := eq_true c13; have c13b1 := decide_eq_true c13; clear c13
 obtain ⟨y437, hy_⟩ : ∃ y_ : List Int, y_ = (List.replicate (ji11 : Int).toNat 0) := ⟨_, rfl⟩
 replace H : (impl_MaskBy.l0 k l1 (wrap64 (a0_2 - a0_0)) l1 (l1.length : Int) 0 a0_0 a0_1 a0_2 a0_3 a0_0 a0_1 a0_2 a0_3 y437) = some (r1, r2, r3, r4, r5, r6) := q_69
 have Ny437 := mk0 hy_; clear hy_
 have H' := mk0 H
 clear H; go_enter Try.func45, Try.ntmps45
 try go_wp2_with (first | ((with_reducible refine gate_dst (N := 2) rfl ?_); refine boxz (cs := #[.int .i64 a0_0, .int .i64 a0_1, .int .i64 a0_2, .int .i64 a0_3]) (t := 63) rfl ?_; intro gb434 hg w14 hbox hb; have GW434 := mk0 (ge_go (a := w.heap.size) hg (below_size q_149)); have GE434 := GW434; replace HB := bS q_149 hb; have BK434 := mk0 (hbox); clear hb hbox hg) | ((with_reducible refine gate_dst (N := 4) rfl ?_); refine boxz (cs := #[.int .i64 0, .int .i64 0, .int .i64 0, .int .i64 0, .slice none 0 0]) (t := 65) rfl ?_; intro gb435 hg w15 hbox hb; have GW435 := mk0 (ge_go (a := w.heap.size) hg (below_size z16_5)); have GE435 := GW435; have NB434_435 := mk0 (nb_lt hg (blk_ltB BK434 (pkb BK434))); have NB435_434 := mk0 (nb_gt hg (blk_ltB BK434 (pkb BK434))); replace BK434 := bB BK434 hb; replace HB := bS z16_5 hb; have BK435 := mk0 (hbox); clear hb hbox hg; have hnb16 := NB434_435.out; have hnc16 := NB435_434.out; obtain ⟨_, _, _, _, _, _, _, _⟩ := be_4 BK434.out) | ((with_reducible refine gate_callee (f := 88) rfl ?_); refine gl_ (some 19) Try.func88 #[.agg #[.int .i64 a0_0, .int .i64 a0_1, .int .i64 a0_2, .int .i64 a0_3]] rfl q_0 ?_; (with_reducible refine (impl_isMaskBox.calls a0_0 a0_1 a0_2 a0_3 true _ A9.out).mono ?_); rintro e w18 ⟨rfl, hb⟩; refine ⟨_, rfl, ?_⟩; replace BK434 := bB BK434 hb; replace BK435 := bB BK435 hb; replace HB := bS z16_4 hb; clear hb; obtain ⟨_, _, _, _, _, _, _, _⟩ := be_4 BK434.out))
 replace BK434 := mk0 (blk_drew BK434.out); replace BK435 := mk0 (blk_drew BK435.out); replace HB := mk0 (below_drew1 HB.out)
 refine start_ (n := 12) (S := fun w' => w'.cell? ⟨gb434, 0, none⟩ = some (.int .i64 a0_0) ∧ w'.cell? ⟨gb434, 1, none⟩ = some (.int .i64 a0_1) ∧ w'.cell? ⟨gb434, 2, none⟩ = some (.int .i64 a0_2) ∧ w'.cell? ⟨gb434, 3, none⟩ = some (.int .i64 a0_3)) (ds := []) #[false, false, false, false, false, false, false, false, false, false, false, false] (by kernel_rfl) rfl rfl ⟨(blk_cell BK434.out 0).trans rfl, (blk_cell BK434.out 1).trans rfl, (blk_cell BK434.out 2).trans rfl, (blk_cell BK434.out 3).trans rfl⟩ (fun hHeld => ?_); refine with_tabW impl_MaskBy.tab6 impl_MaskBy.bits6 (fun HT_ HW_ => ?_)
 generalize w18.drew = w20 at BK434 BK435 HB hHeld ⊢
 refine pzx (i := 1) (N := 28) (bA 12 2) HT_ ?_; refine pzx (i := 2) (N := 29) (bA 12 6) HT_ ?_; refine pzx (i := 4) (N := 31) (bA 12 22) HT_ ?_
 refine take_ (i := 0) (N := some 27) (v := ?_) (a' := ?_) (bA 12 23) rfl rfl (take_ofW HT_.out HW_.out (by kernel_rfl)) (fun _ _ _ h => h) (Or.inl ⟨by rfl, ?_⟩) hHeld ?_ ?_
 rotate_left
 ·rintro w' ⟨s0, s1, s2, s3⟩
  go_simp; with_reducible rfl
 rotate_left
 ·exact x16_put
 refine take_ (i := 3) (N := some 30) (v := ?_) (a' := ?_) (bA 12 31) rfl rfl (take_ofW HT_.out HW_.out (by kernel_rfl)) (fun _ _ _ h => h) (Or.inl ⟨by rfl, ?_⟩) hHeld ?_ ?_
 rotate_left
 ·rintro w' ⟨s0, s1, s2, s3⟩
  go_simp; with_reducible rfl
 rotate_left
 ·exact x16_put
 refine take_ (i := 5) (N := some 32) (v := ?_) (a' := ?_) (bA 12 63) rfl rfl (take_ofW HT_.out HW_.out (by kernel_rfl)) (fun _ _ _ h => h) (Or.inl ⟨by rfl, ?_⟩) hHeld ?_ ?_
 rotate_left
 ·rintro w' ⟨s0, s1, s2, s3⟩
  go_simp; with_reducible rfl
 rotate_left
 ·exact x16_put
 refine pzx (i := 6) (N := 33) (bA 12 127) HT_ ?_; refine pzx (i := 7) (N := 34) (bA 12 255) HT_ ?_
 refine join_ (σ := Value × Nat) 1 y16_13 (fun s_ => [(35, s_.1), (7, .pointer (some ⟨s_.2, 0, none⟩)), (36, .agg #[.int .i64 a0_0, .int .i64 a0_1, .int .i64 a0_2, .int .i64 a0_3, s_.1])]) (fun s_ w' => (w'.cell? ⟨gb434, 0, none⟩ = some (.int .i64 a0_0) ∧ w'.cell? ⟨gb434, 1, none⟩ = some (.int .i64 a0_1) ∧ w'.cell? ⟨gb434, 2, none⟩ = some (.int .i64 a0_2) ∧ w'.cell? ⟨gb434, 3, none⟩ = some (.int .i64 a0_3)) ∧ (Kd.R (Kd.int .i64) 3 w' w.heap.size (fun _ => True) s_.1 y437) ∧ (w'.heap[gb434]? = some (.cells #[.int .i64 a0_0, .int .i64 a0_1, .int .i64 a0_2, .int .i64 a0_3] 63 (0, 0))) ∧ (w'.heap[gb435]? = some (.cells #[.int .i64 0, .int .i64 0, .int .i64 0, .int .i64 0, .slice none 0 0] 65 (0, 0))) ∧ (w'.heap[s_.2]? = some (.cells #[.int .i64 0, .int .i64 0, .int .i64 0, .int .i64 0, .slice none 0 0] 65 (0, 0))) ∧ (w.heap.size ≤ s_.2) ∧ (w.heap.size ≤ s_.2) ∧ (gb434 ≠ s_.2) ∧ (s_.2 ≠ gb434) ∧ (gb435 ≠ s_.2) ∧ (s_.2 ≠ gb435) ∧ (Below w.heap.size w w')) ?_ ?_
 rotate_left
 ·intro hCont
  refine two_ (i := 8) (j := 10) (Ni := some 35) (Nj := some 7) (bA 12 511) (bA 12 1279) rfl rfl rfl rfl (two_of HT_.out (by kernel_rfl)) (by decide) (by decide) (fun K hK => ?_) (fun K hK => ?_)
  ·skip
   refine Kd.R_make_step (Kd.int .i64) _ 3 (by rfl) (N := 35) rfl 22 _ _ rfl ji11 rfl rfl Try.underlying22 (.int .i64 0) 8 info3 rfl (by decide) (by omega) 0 (ok := fun _ => True) (okp := fun _ => True) rfl (fun _ hk => hk) trivial (of_decide_eq_true (by first | (with_reducible assumption) | assumption)) (Nat.le_trans (Nat.mul_le_mul_right _ (of_decide_eq_true (by first | (with_reducible assumption) | assumption) : ji11.toNat ≤ 35184372088832)) (by omega)) (Below.refl _ _) (Nat.le_refl _) ?_
   intro v438 w21 ho22 hb hg_ hnew_; clear hg_ hnew_
   (first | rw [← Ny437.out] at ho22 | (simp only [Int.reduceToNat] at ho22; rw [← Ny437.out] at ho22))
   have HO439 := mk0 (Kd.R_lower ho22 (below_size z16_4)); replace BK434 := bB BK434 hb; replace BK435 := bB BK435 hb; replace HB := bS z16_4 hb; clear hb ho22; obtain ⟨Ao23, co23, eo23⟩ := Kd.R_slice HO439.out
   (first | subst eo23 | (injection eo23 with f1_ f2_ f3_; have f4_ := f1_.symm; have f5_ := f3_.symm; clear f1_ f2_ f3_; subst f4_; subst f5_))
   refine hK.out _ _ ⟨(blk_cell BK434.out 0).trans rfl, (blk_cell BK434.out 1).trans rfl, (blk_cell BK434.out 2).trans rfl, (blk_cell BK434.out 3).trans rfl⟩ (fun hHeld => ?_); clear hK K
   refine norm_ (a' := ?_) ?_ ?_
   rotate_left
   ·show Act.put _ (some 35) _ = _
    simp only [Act.put, List.setIfInBounds_toArray, List.set_cons_zero, List.set_cons_succ, i64_w, i32_w]
    rfl
   refine pzx (i := 9) (N := 36) (bA 12 1023) HT_ ?_
   refine one_ (i := 10) (N := some 7) y16_13 rfl rfl (one_of HT_.out (by kernel_rfl)) (by decide) (fun K hK => ?_)
   refine box_step ?hg (N := 7) ?hd (cs := #[.int .i64 0, .int .i64 0, .int .i64 0, .int .i64 0, .slice none 0 0]) (t := 65) ?hr ?_; (case hd => rfl); (case hg => rfl); (case hr => first | (go_simp; done) | (go_simp; rfl))
   intro gb440 hg w24 hbox hb; replace HO439 := bR HO439 hb; have BK440 := mk0 (hbox); have GW440 := mk0 (ge_go (a := w.heap.size) hg (below_size z16_4)); have GE440 := mk0 (ge_go (a := w.heap.size) hg (below_size z16_4)); replace HB := bS z16_4 hb; have NB434_440 := mk0 (nb_lt hg (blk_ltB BK434 (pkb BK434))); have NB440_434 := mk0 (nb_gt hg (blk_ltB BK434 (pkb BK434))); replace BK434 := bB BK434 hb; have NB435_440 := mk0 (nb_lt hg (blk_ltB BK435 (pkb BK435))); have NB440_435 := mk0 (nb_gt hg (blk_ltB BK435 (pkb BK435))); replace BK435 := bB BK435 hb; clear hb hbox hg; refine hK.out _ _ ⟨(blk_cell BK434.out 0).trans rfl, (blk_cell BK434.out 1).trans rfl, (blk_cell BK434.out 2).trans rfl, (blk_cell BK434.out 3).trans rfl⟩ (fun hHeld => ?_); clear hK K
   refine norm_ (a' := ?_) ?_ ?_
   rotate_left
   ·show Act.put _ (some 7) _ = _
    simp only [Act.put, List.setIfInBounds_toArray, List.set_cons_zero, List.set_cons_succ, i64_w, i32_w]
    rfl
   exact norm_ (by simp only [putAll, Act.put, List.setIfInBounds_toArray, List.set_cons_zero, List.set_cons_succ]) (hCont (.slice Ao23 y437.length co23, gb440) _ ⟨hHeld, (pkR HO439), (pkb BK434), (pkb BK435), (pkb BK440), GW440.out, GE440.out, NB434_440.out, NB440_434.out, NB435_440.out, NB440_435.out, z16_2⟩)
  skip
  refine box_step ?hg (N := 7) ?hd (cs := #[.int .i64 0, .int .i64 0, .int .i64 0, .int .i64 0, .slice none 0 0]) (t := 65) ?hr ?_; (case hd => rfl); (case hg => rfl); (case hr => first | (go_simp; done) | (go_simp; rfl))
  intro gb440 hg w21 hbox hb; have BK440 := mk0 (hbox); have GW440 := mk0 (ge_go (a := w.heap.size) hg (below_size z16_4)); have GE440 := mk0 (ge_go (a := w.heap.size) hg (below_size z16_4)); replace HB := bS z16_4 hb; have NB434_440 := mk0 (nb_lt hg (blk_ltB BK434 (pkb BK434))); have NB440_434 := mk0 (nb_gt hg (blk_ltB BK434 (pkb BK434))); replace BK434 := bB BK434 hb; have NB435_440 := mk0 (nb_lt hg (blk_ltB BK435 (pkb BK435))); have NB440_435 := mk0 (nb_gt hg (blk_ltB BK435 (pkb BK435))); replace BK435 := bB BK435 hb; clear hb hbox hg; refine hK.out _ _ ⟨(blk_cell BK434.out 0).trans rfl, (blk_cell BK434.out 1).trans rfl, (blk_cell BK434.out 2).trans rfl, (blk_cell BK434.out 3).trans rfl⟩ (fun hHeld => ?_); clear hK K
  refine norm_ (a' := ?_) ?_ ?_
  rotate_left
  ·show Act.put _ (some 7) _ = _
   simp only [Act.put, List.setIfInBounds_toArray, List.set_cons_zero, List.set_cons_succ, i64_w, i32_w]
   rfl
  refine one_ (i := 8) (N := some 35) (bA 12 1535) rfl rfl (one_of HT_.out (by kernel_rfl)) (by decide) (fun K hK => ?_)
  refine Kd.R_make_step (Kd.int .i64) _ 3 (by rfl) (N := 35) rfl 22 _ _ rfl ji11 rfl rfl Try.underlying22 (.int .i64 0) 8 info3 rfl (by decide) (by omega) 0 (ok := fun _ => True) (okp := fun _ => True) rfl (fun _ hk => hk) trivial (of_decide_eq_true (by first | (with_reducible assumption) | assumption)) (Nat.le_trans (Nat.mul_le_mul_right _ (of_decide_eq_true (by first | (with_reducible assumption) | assumption) : ji11.toNat ≤ 35184372088832)) (by omega)) (Below.refl _ _) (Nat.le_refl _) ?_
  intro v438 w22 ho23 hb hg_ hnew_; clear hg_ hnew_
  (first | rw [← Ny437.out] at ho23 | (simp only [Int.reduceToNat] at ho23; rw [← Ny437.out] at ho23))
  have HO439 := mk0 (Kd.R_lower ho23 (below_size z16_2)); replace BK434 := bB BK434 hb; replace BK435 := bB BK435 hb; replace BK440 := bB BK440 hb; replace HB := bS z16_2 hb; clear hb ho23; obtain ⟨Ao24, co24, eo24⟩ := Kd.R_slice HO439.out
  (first | subst eo24 | (injection eo24 with f1_ f2_ f3_; have f4_ := f1_.symm; have f5_ := f3_.symm; clear f1_ f2_ f3_; subst f4_; subst f5_))
  refine hK.out _ _ ⟨(blk_cell BK434.out 0).trans rfl, (blk_cell BK434.out 1).trans rfl, (blk_cell BK434.out 2).trans rfl, (blk_cell BK434.out 3).trans rfl⟩ (fun hHeld => ?_); clear hK K
  refine norm_ (a' := ?_) ?_ ?_
  rotate_left
  ·show Act.put _ (some 35) _ = _
   simp only [Act.put, List.setIfInBounds_toArray, List.set_cons_zero, List.set_cons_succ, i64_w, i32_w]
   rfl
  refine pzx (i := 9) (N := 36) y16_13 HT_ ?_
  exact norm_ (by simp only [putAll, Act.put, List.setIfInBounds_toArray, List.set_cons_zero, List.set_cons_succ]) (hCont (.slice Ao24 y437.length co24, gb440) _ ⟨hHeld, (pkR HO439), (pkb BK434), (pkb BK435), (pkb BK440), GW440.out, GE440.out, NB434_440.out, NB440_434.out, NB435_440.out, NB440_435.out, z16_2⟩)
 rintro ⟨v438, gb440⟩ w25 ⟨hS_, h0_, h1_, h2_, h3_, h4_, h5_, h6_, h7_, h8_, h9_, h10_⟩
 have n0_ : Aside0 (Kd.R (Kd.int .i64) 3 w25 w.heap.size (fun _ => True) v438 y437) := ⟨h0_⟩
 have n1_ : Aside0 (w25.heap[gb434]? = some (.cells #[.int .i64 a0_0, .int .i64 a0_1, .int .i64 a0_2, .int .i64 a0_3] 63 (0, 0))) := ⟨h1_⟩
 have n2_ : Aside0 (w25.heap[gb435]? = some (.cells #[.int .i64 0, .int .i64 0, .int .i64 0, .int .i64 0, .slice none 0 0] 65 (0, 0))) := ⟨h2_⟩
 have n3_ : Aside0 (w25.heap[gb440]? = some (.cells #[.int .i64 0, .int .i64 0, .int .i64 0, .int .i64 0, .slice none 0 0] 65 (0, 0))) := ⟨h3_⟩
 have n4_ : Aside0 (w.heap.size ≤ gb440) := ⟨h4_⟩
 have n5_ : Aside0 (w.heap.size ≤ gb440) := ⟨h5_⟩
 have n6_ : Aside0 (gb434 ≠ gb440) := ⟨h6_⟩
 have n7_ : Aside0 (gb440 ≠ gb434) := ⟨h7_⟩
 have n8_ : Aside0 (gb435 ≠ gb440) := ⟨h8_⟩
 have n9_ : Aside0 (gb440 ≠ gb435) := ⟨h9_⟩
 have n10_ : Aside0 (Below w.heap.size w w25) := ⟨h10_⟩
 clear BK434 BK435 HB h0_ h1_ h2_ h3_ h4_ h5_ h6_ h7_ h8_ h9_ h10_; have HO439 := n0_; have BK434 := n1_; have BK435 := n2_; have BK440 := n3_; have GW440 := n4_; have GE440 := n5_; have NB434_440 := n6_; have NB440_434 := n7_; have NB435_440 := n8_; have NB440_435 := n9_; have HB := n10_; clear n0_ n1_ n2_ n3_ n4_ n5_ n6_ n7_ n8_ n9_ n10_
 have hHeld : w25.cell? ⟨gb434, 0, none⟩ = some (.int .i64 a0_0) ∧ w25.cell? ⟨gb434, 1, none⟩ = some (.int .i64 a0_1) ∧ w25.cell? ⟨gb434, 2, none⟩ = some (.int .i64 a0_2) ∧ w25.cell? ⟨gb434, 3, none⟩ = some (.int .i64 a0_3) := hS_
 obtain ⟨Ao26, co26, eo26⟩ := Kd.R_slice HO439.out
 (first | subst eo26 | (injection eo26 with f1_ f2_ f3_; have f4_ := f1_.symm; have f5_ := f3_.symm; clear f1_ f2_ f3_; subst f4_; subst f5_))
 refine norm_ (a' := ?_) ?_ ?_
 rotate_left
 ·simp only [putAll, Act.put, List.setIfInBounds_toArray, List.set_cons_zero, List.set_cons_succ]
  rfl
 refine one_ (i := 11) (N := none) (bA 12 4095) rfl rfl (one_of HT_.out (by kernel_rfl)) (by decide) (fun K hK => ?_)
 have hs27 : w25.cell? ⟨gb440, 0, none⟩ = some (.int .i64 0) := (blk_cell BK440.out 0).trans rfl
 have hfs27 := blk_frozen BK440.out 0; have hns27_0 := NB434_440.out; have hns27_1 := NB435_440.out; have hms27_0 := NB440_434.out; have hms27_1 := NB440_435.out
 have hs28 : w25.cell? ⟨gb440, 1, none⟩ = some (.int .i64 0) := (blk_cell BK440.out 1).trans rfl
 have hfs28 := blk_frozen BK440.out 1; have hns28_0 := NB434_440.out; have hns28_1 := NB435_440.out; have hms28_0 := NB440_434.out; have hms28_1 := NB440_435.out
 have hs29 : w25.cell? ⟨gb440, 2, none⟩ = some (.int .i64 0) := (blk_cell BK440.out 2).trans rfl
 have hfs29 := blk_frozen BK440.out 2; have hns29_0 := NB434_440.out; have hns29_1 := NB435_440.out; have hms29_0 := NB440_434.out; have hms29_1 := NB440_435.out
 have hs30 : w25.cell? ⟨gb440, 3, none⟩ = some (.int .i64 0) := (blk_cell BK440.out 3).trans rfl
 have hfs30 := blk_frozen BK440.out 3; have hns30_0 := NB434_440.out; have hns30_1 := NB435_440.out; have hms30_0 := NB440_434.out; have hms30_1 := NB440_435.out
 have hs31 : w25.cell? ⟨gb440, 4, none⟩ = some (.slice none 0 0) := (blk_cell BK440.out 4).trans rfl
 have hfs31 := blk_frozen BK440.out 4; have hns31_0 := NB434_440.out; have hns31_1 := NB435_440.out; have hms31_0 := NB440_434.out; have hms31_1 := NB440_435.out
 refine skip_ (w1 := ?_) ?hwx ?hN ?_ ?_; (case hwx => rfl); (case hN => rfl)
 rotate_left
 ·go_simp
  rfl
 refine hK.out _ _ ⟨((cell_far (p := ⟨gb440, _, none⟩) NB434_440.out _).trans (((cell_far (p := ⟨gb440, _, none⟩) NB434_440.out _).trans (((cell_far (p := ⟨gb440, _, none⟩) NB434_440.out _).trans (((cell_far (p := ⟨gb440, _, none⟩) NB434_440.out _).trans (((cell_far (p := ⟨gb440, _, none⟩) NB434_440.out _).trans (hHeld.1)))))))))), ((cell_far (p := ⟨gb440, _, none⟩) NB434_440.out _).trans (((cell_far (p := ⟨gb440, _, none⟩) NB434_440.out _).trans (((cell_far (p := ⟨gb440, _, none⟩) NB434_440.out _).trans (((cell_far (p := ⟨gb440, _, none⟩) NB434_440.out _).trans (((cell_far (p := ⟨gb440, _, none⟩) NB434_440.out _).trans (hHeld.2.1)))))))))), ((cell_far (p := ⟨gb440, _, none⟩) NB434_440.out _).trans (((cell_far (p := ⟨gb440, _, none⟩) NB434_440.out _).trans (((cell_far (p := ⟨gb440, _, none⟩) NB434_440.out _).trans (((cell_far (p := ⟨gb440, _, none⟩) NB434_440.out _).trans (((cell_far (p := ⟨gb440, _, none⟩) NB434_440.out _).trans (hHeld.2.2.1)))))))))), ((cell_far (p := ⟨gb440, _, none⟩) NB434_440.out _).trans (((cell_far (p := ⟨gb440, _, none⟩) NB434_440.out _).trans (((cell_far (p := ⟨gb440, _, none⟩) NB434_440.out _).trans (((cell_far (p := ⟨gb440, _, none⟩) NB434_440.out _).trans (((cell_far (p := ⟨gb440, _, none⟩) NB434_440.out _).trans (hHeld.2.2.2))))))))))⟩ (fun hHeld => ?_); clear hK K
 refine done_ (done_of HT_.out (by kernel_rfl)) ?_
 try go_wp2
 go_loopg [39] k (fun kq v39 w' => ∃ (x39_1 : Int) (x436000_1 : Int) (x436001_1 : Int) (x436002_1 : Int) (x436003_1 : Int) (x441004_1 : List Int) (u441004 : Value), v39 = .int .i64 x39_1 ∧ Aside0 (impl_MaskBy.l0 kq l1 (wrap64 (a0_2 - a0_0)) l1 (l1.length : Int) x39_1 a0_0 a0_1 a0_2 a0_3 a0_0 a0_1 a0_2 a0_3 x441004_1 = some (r1, r2, r3, r4, r5, r6)) ∧ Aside0 (kq ≤ k) ∧ Aside0 (Kd.R (Kd.int .i64) 3 w' w.heap.size (fun _ => True) u441004 x441004_1) ∧ Aside0 (w'.heap[gb434]? = some (.cells #[.int .i64 a0_0, .int .i64 a0_1, .int .i64 a0_2, .int .i64 a0_3] 63 (0, 0))) ∧ Aside0 (w'.heap[gb435]? = some (.cells #[.int .i64 x436000_1, .int .i64 x436001_1, .int .i64 x436002_1, .int .i64 x436003_1, (.slice none 0 0)] 65 (0, 0))) ∧ Aside0 (w'.heap[gb440]? = some (.cells #[.int .i64 a0_0, .int .i64 a0_1, .int .i64 a0_2, .int .i64 a0_3, u441004] 65 (0, 0))) ∧ Aside0 (Below w.heap.size w w'))
 case atStart => exact ⟨(0), (0), (0), (0), (0), (y437), (.slice Ao26 y437.length co26), rs0, H', ⟨Nat.le_refl _⟩, ⟨(by (with_reducible repeat (first | apply Kd.R_alloc | apply Kd.R_drewN | apply Kd.R_drew)); exact Kd.R_mono (R_f5 (Kd.R_types HO439.out BK440.out (by decide)) (fun _ hk => hk.2)) (fun _ hk => trivial))⟩, ⟨(by (with_reducible repeat (first | refine blk_drewN ?_ _ | refine blk_drew ?_ | refine blk_alloc ?_ _ | refine blk_far ?_ NB434_440.out _)); exact BK434.out)⟩, ⟨(by (with_reducible repeat (first | refine blk_drewN ?_ _ | refine blk_drew ?_ | refine blk_alloc ?_ _ | refine blk_far ?_ NB435_440.out _)); exact BK435.out)⟩, ⟨(by (with_reducible repeat (first | refine blk_drewN ?_ _ | refine blk_drew ?_ | refine blk_alloc ?_ _)); refine blk_put (cs := #[.int .i64 a0_0, .int .i64 a0_1, .int .i64 a0_2, .int .i64 a0_3, .slice none 0 0]) ?_ 4 _ rfl; (with_reducible repeat (first | refine blk_drewN ?_ _ | refine blk_drew ?_ | refine blk_alloc ?_ _)); refine blk_put (cs := #[.int .i64 a0_0, .int .i64 a0_1, .int .i64 a0_2, .int .i64 0, .slice none 0 0]) ?_ 3 _ rfl; (with_reducible repeat (first | refine blk_drewN ?_ _ | refine blk_drew ?_ | refine blk_alloc ?_ _)); refine blk_put (cs := #[.int .i64 a0_0, .int .i64 a0_1, .int .i64 0, .int .i64 0, .slice none 0 0]) ?_ 2 _ rfl; (with_reducible repeat (first | refine blk_drewN ?_ _ | refine blk_drew ?_ | refine blk_alloc ?_ _)); refine blk_put (cs := #[.int .i64 a0_0, .int .i64 0, .int .i64 0, .int .i64 0, .slice none 0 0]) ?_ 1 _ rfl; (with_reducible repeat (first | refine blk_drewN ?_ _ | refine blk_drew ?_ | refine blk_alloc ?_ _)); refine blk_put (cs := #[.int .i64 0, .int .i64 0, .int .i64 0, .int .i64 0, .slice none 0 0]) ?_ 0 _ rfl; (with_reducible repeat (first | refine blk_drewN ?_ _ | refine blk_drew ?_ | refine blk_alloc ?_ _)); exact BK440.out)⟩, ⟨z16_2⟩⟩
 case round =>
  clear H'
  try clear c1
  try clear c3b0
  try clear c3b1
  try clear c3b2
  try clear c10
  try clear c12b0
  try clear c12b1
  try clear c13b0
  try clear c13b1
  obtain ⟨x39_1, x436000_1, x436001_1, x436002_1, x436003_1, x441004_1, u441004, rfl, HA, HK1, HO_441004, BK434, BK435, BK440, HB⟩ := hrel
  cases gk with
  | zero => exact absurd HA.out (by simp [impl_MaskBy.l0])
  | succ k1 =>
   have H := HA.out; clear HA; simp only [impl_MaskBy.l0] at H
   by_cases c32 : x39_1 < (l1.length : Int)
   rotate_left
   ·rw [if_neg c32] at H; have c32b0 := decide_eq_false c32; clear c32; obtain ⟨t446, A102, H⟩ := bnd H
    try dsimp only at H
    obtain ⟨t449, A103, H⟩ := bnd H
    try dsimp only at H
    by_cases c104 : t449 = true
    rotate_left
    ·replace c104 := Bool.eq_false_iff.mpr c104; subst c104; rw [if_neg (show ¬ (false = true) by decide)] at H
     simp only [Option.some.injEq, Prod.mk.injEq] at H; obtain ⟨rfl, rfl, rfl, rfl, rfl, rfl⟩ := H
     have hnb114 := NB440_434.out; have hnc114 := NB434_440.out; have hnb115 := NB440_435.out; have hnc115 := NB435_440.out; obtain ⟨_, _, _, _, _, _, _, _, _, _⟩ := be_5 BK440.out; obtain ⟨Ao117, co117, eo117⟩ := Kd.R_slice HO_441004.out; subst eo117
     go_wp2_with (first | ((with_reducible refine gate_callee (f := 44) rfl ?_); refine gl_ (some 92) Try.func44 #[.agg #[.int .i64 a0_0, .int .i64 a0_1, .int .i64 a0_2, .int .i64 a0_3, .slice Ao117 x441004_1.length co117]] rfl q_0 ?_; (with_reducible refine (impl_RunsOf.calls k1 a0_0 a0_1 a0_2 a0_3 _ _ x441004_1 t446 _ ?side1 ?side2 A102.out).mono ?_); (case side1 => exact z16_17); (case side2 => exact (Kd.R_reads' HO_441004.out).2.1); rintro e w118 ⟨v447, rfl, ho0, hb⟩; refine ⟨_, rfl, ?_⟩; replace HO_441004 := bR HO_441004 hb; have HO448 := mk0 (Kd.R_lower ho0 (below_size z16_2)); replace BK434 := bB BK434 hb; replace BK435 := bB BK435 hb; replace BK440 := bB BK440 hb; replace HB := bS z16_2 hb; clear hb ho0; obtain ⟨Ao119, co119, eo119⟩ := Kd.R_slice HO448.out; subst eo119) | ((with_reducible refine gate_callee (f := 111) rfl ?_); refine gl_ (some 94) Try.func111 #[.slice Ao119 t446.length co119, .slice A1 l1.length c1] rfl q_0 ?_; (with_reducible refine (impl_Run.calls k1 _ _ t446 _ _ l1 false _ ?side1 ?side2 ?side3 ?side4 A103.out).mono ?_); (case side1 => exact z16_18); (case side2 => exact (Kd.R_reads' HO448.out).2.1); (case side3 => exact z16_19); (case side4 => exact HC1.out); rintro e w' ⟨rfl, ⟨nd, rfl⟩⟩; refine ⟨_, rfl, ?_⟩; (try (rw [drewN_self w118]; generalize hq_ : World.drewN w118 _ = w118; have n0_ : Aside0 (Kd.R k95 95 w118 w.heap.size (fun _ => True) (.slice Ao119 t446.length co119) t446) := ⟨(by rw [← hq_]; exact (pkR HO448))⟩; have n1_ : Aside0 (Kd.R (Kd.int .i64) 3 w118 w.heap.size (fun _ => True) (.slice Ao117 x441004_1.length co117) x441004_1) := ⟨(by rw [← hq_]; exact (pkR HO_441004))⟩; have n2_ : Aside0 (w118.heap[gb434]? = some (.cells #[.int .i64 a0_0, .int .i64 a0_1, .int .i64 a0_2, .int .i64 a0_3] 63 (0, 0))) := ⟨(by rw [← hq_]; exact (pkb BK434))⟩; have n3_ : Aside0 (w118.heap[gb435]? = some (.cells #[.int .i64 x436000_1, .int .i64 x436001_1, .int .i64 x436002_1, .int .i64 x436003_1, .slice none 0 0] 65 (0, 0))) := ⟨(by rw [← hq_]; exact (pkb BK435))⟩; have n4_ : Aside0 (w118.heap[gb440]? = some (.cells #[.int .i64 a0_0, .int .i64 a0_1, .int .i64 a0_2, .int .i64 a0_3, .slice Ao117 x441004_1.length co117] 65 (0, 0))) := ⟨(by rw [← hq_]; exact (pkb BK440))⟩; have n5_ : Aside0 (Below w.heap.size w w118) := ⟨(by rw [← hq_]; exact z16_2)⟩; clear HO448 HO_441004 BK434 BK435 BK440 HB hq_; have HO448 := n0_; have HO_441004 := n1_; have BK434 := n2_; have BK435 := n3_; have BK440 := n4_; have HB := n5_; clear n0_ n1_ n2_ n3_ n4_ n5_)); (try have hcy121_0 : w118.cell? ⟨gb435, 0, none⟩ = some (.int .i64 x436000_1) := (blk_cell BK435.out 0).trans rfl); (try have hcy121_1 : w118.cell? ⟨gb435, 1, none⟩ = some (.int .i64 x436001_1) := (blk_cell BK435.out 1).trans rfl); (try have hcy121_2 : w118.cell? ⟨gb435, 2, none⟩ = some (.int .i64 x436002_1) := (blk_cell BK435.out 2).trans rfl); (try have hcy121_3 : w118.cell? ⟨gb435, 3, none⟩ = some (.int .i64 x436003_1) := (blk_cell BK435.out 3).trans rfl); (try have hcy121_4 : w118.cell? ⟨gb435, 4, none⟩ = some (.slice none 0 0) := (blk_cell BK435.out 4).trans rfl); have hnb120 := NB435_434.out; have hnc120 := NB434_435.out; obtain ⟨_, _, _, _, _, _, _, _, _, _⟩ := be_5 BK435.out))
     refine bodyPost_ret (results_ct rfl _ _ gb435 65 #[.int .i64 0, .int .i64 0, .int .i64 0, .int .i64 0, .slice none 0 0] (0, 0) _ rfl z16_12 Try.underlying65 rfl (by kernel_rfl)) rfl ?_
     exact ⟨_, z16_15, q_70, z16_2⟩
    subst c104; rw [if_pos rfl] at H; simp only [Option.some.injEq, Prod.mk.injEq] at H; obtain ⟨rfl, rfl, rfl, rfl, rfl, rfl⟩ := H; have hnb105 := NB440_434.out; have hnc105 := NB434_440.out; have hnb106 := NB440_435.out; have hnc106 := NB435_440.out; obtain ⟨_, _, _, _, _, _, _, _, _, _⟩ := be_5 BK440.out; obtain ⟨Ao108, co108, eo108⟩ := Kd.R_slice HO_441004.out; subst eo108
    go_wp2_with (first | ((with_reducible refine gate_callee (f := 44) rfl ?_); refine gl_ (some 92) Try.func44 #[.agg #[.int .i64 a0_0, .int .i64 a0_1, .int .i64 a0_2, .int .i64 a0_3, .slice Ao108 x441004_1.length co108]] rfl q_0 ?_; (with_reducible refine (impl_RunsOf.calls k1 a0_0 a0_1 a0_2 a0_3 _ _ x441004_1 t446 _ ?side1 ?side2 A102.out).mono ?_); (case side1 => exact z16_17); (case side2 => exact (Kd.R_reads' HO_441004.out).2.1); rintro e w109 ⟨v447, rfl, ho0, hb⟩; refine ⟨_, rfl, ?_⟩; replace HO_441004 := bR HO_441004 hb; have HO448 := mk0 (Kd.R_lower ho0 (below_size z16_2)); replace BK434 := bB BK434 hb; replace BK435 := bB BK435 hb; replace BK440 := bB BK440 hb; replace HB := bS z16_2 hb; clear hb ho0; obtain ⟨Ao110, co110, eo110⟩ := Kd.R_slice HO448.out; subst eo110) | ((with_reducible refine gate_callee (f := 111) rfl ?_); refine gl_ (some 94) Try.func111 #[.slice Ao110 t446.length co110, .slice A1 l1.length c1] rfl q_0 ?_; (with_reducible refine (impl_Run.calls k1 _ _ t446 _ _ l1 true _ ?side1 ?side2 ?side3 ?side4 A103.out).mono ?_); (case side1 => exact z16_18); (case side2 => exact (Kd.R_reads' HO448.out).2.1); (case side3 => exact z16_19); (case side4 => exact HC1.out); rintro e w' ⟨rfl, ⟨nd, rfl⟩⟩; refine ⟨_, rfl, ?_⟩; (try (rw [drewN_self w109]; generalize hq_ : World.drewN w109 _ = w109; have n0_ : Aside0 (Kd.R k95 95 w109 w.heap.size (fun _ => True) (.slice Ao110 t446.length co110) t446) := ⟨(by rw [← hq_]; exact (pkR HO448))⟩; have n1_ : Aside0 (Kd.R (Kd.int .i64) 3 w109 w.heap.size (fun _ => True) (.slice Ao108 x441004_1.length co108) x441004_1) := ⟨(by rw [← hq_]; exact (pkR HO_441004))⟩; have n2_ : Aside0 (w109.heap[gb434]? = some (.cells #[.int .i64 a0_0, .int .i64 a0_1, .int .i64 a0_2, .int .i64 a0_3] 63 (0, 0))) := ⟨(by rw [← hq_]; exact (pkb BK434))⟩; have n3_ : Aside0 (w109.heap[gb435]? = some (.cells #[.int .i64 x436000_1, .int .i64 x436001_1, .int .i64 x436002_1, .int .i64 x436003_1, .slice none 0 0] 65 (0, 0))) := ⟨(by rw [← hq_]; exact (pkb BK435))⟩; have n4_ : Aside0 (w109.heap[gb440]? = some (.cells #[.int .i64 a0_0, .int .i64 a0_1, .int .i64 a0_2, .int .i64 a0_3, .slice Ao108 x441004_1.length co108] 65 (0, 0))) := ⟨(by rw [← hq_]; exact (pkb BK440))⟩; have n5_ : Aside0 (Below w.heap.size w w109) := ⟨(by rw [← hq_]; exact z16_2)⟩; clear HO448 HO_441004 BK434 BK435 BK440 HB hq_; have HO448 := n0_; have HO_441004 := n1_; have BK434 := n2_; have BK435 := n3_; have BK440 := n4_; have HB := n5_; clear n0_ n1_ n2_ n3_ n4_ n5_)); (try have hcy111_0 : w109.cell? ⟨gb440, 0, none⟩ = some (.int .i64 a0_0) := (blk_cell BK440.out 0).trans rfl); (try have hcy111_1 : w109.cell? ⟨gb440, 1, none⟩ = some (.int .i64 a0_1) := (blk_cell BK440.out 1).trans rfl); (try have hcy111_2 : w109.cell? ⟨gb440, 2, none⟩ = some (.int .i64 a0_2) := (blk_cell BK440.out 2).trans rfl); (try have hcy111_3 : w109.cell? ⟨gb440, 3, none⟩ = some (.int .i64 a0_3) := (blk_cell BK440.out 3).trans rfl); (try have hcy111_4 : w109.cell? ⟨gb440, 4, none⟩ = some (.slice Ao108 x441004_1.length co108) := (blk_cell BK440.out 4).trans rfl); (try have hcy113_0 : w109.cell? ⟨gb435, 0, none⟩ = some (.int .i64 x436000_1) := (blk_cell BK435.out 0).trans rfl); (try have hcy113_1 : w109.cell? ⟨gb435, 1, none⟩ = some (.int .i64 x436001_1) := (blk_cell BK435.out 1).trans rfl); (try have hcy113_2 : w109.cell? ⟨gb435, 2, none⟩ = some (.int .i64 x436002_1) := (blk_cell BK435.out 2).trans rfl); (try have hcy113_3 : w109.cell? ⟨gb435, 3, none⟩ = some (.int .i64 x436003_1) := (blk_cell BK435.out 3).trans rfl); (try have hcy113_4 : w109.cell? ⟨gb435, 4, none⟩ = some (.slice none 0 0) := (blk_cell BK435.out 4).trans rfl); obtain ⟨_, _, _, _, _, _, _, _, _, _⟩ := be_5 BK440.out; have hnb112 := NB435_434.out; have hnc112 := NB434_435.out; obtain ⟨_, _, _, _, _, _, _, _, _, _⟩ := be_5 BK435.out))
    refine bodyPost_ret (results_ct rfl _ _ gb435 65 #[.int .i64 a0_0, .int .i64 a0_1, .int .i64 a0_2, .int .i64 a0_3, .slice Ao108 x441004_1.length co108] (0, 0) _ rfl z16_12 Try.underlying65 rfl (by kernel_rfl)) rfl ?_
    exact ⟨_, z16_15, (by (with_reducible repeat (first | apply Kd.R_alloc | apply Kd.R_drewN | apply Kd.R_drew)); exact Kd.R_mono (R_f5 (Kd.R_types HO_441004.out BK435.out (by decide)) (fun _ hk => hk.2)) (fun _ hk => trivial)), z16_2⟩
   rw [if_pos c32] at H; have c32b0 := decide_eq_true c32; clear c32
   by_cases c33 : 0 ≤ x39_1
   rotate_left
   ·rw [if_neg c33] at H
    exact absurd H (by simp)
   rw [if_pos c33] at H; have c33b0 := decide_eq_true c33; clear c33
   by_cases c34 : x39_1 < (l1.length : Int)
   rotate_left
   ·rw [if_neg c34] at H
    exact absurd H (by simp)
   rw [if_pos c34] at H; have c34b0 := decide_eq_true c34; clear c34; have HC35 := mk0 H; clear H
   have p441 : 0 ≤ (x39_1 : Int) := of_decide_eq_true (by first | (with_reducible assumption) | assumption)
   have q441 : x39_1 < (l1.length : Int) := of_decide_eq_true (by first | (with_reducible assumption) | assumption)
   obtain ⟨ad441, e441, hx441_0, hx441_1, hx441_2, hx441_3⟩ := at_T95 HR1.out x39_1 p441 q441
   cases e441
   replace hx441_0 := cell_go HB hx441_0; replace hx441_1 := cell_go HB hx441_1; replace hx441_2 := cell_go HB hx441_2; replace hx441_3 := cell_go HB hx441_3; replace p441 := eq_true p441; replace q441 := eq_true q441
   go_upto_region 10 with (first | ((with_reducible refine gate_dst (N := 9) rfl ?_); refine boxz (cs := #[.int .i64 0, .int .i64 0, .int .i64 0, .int .i64 0]) (t := 95) rfl ?_; intro gb442 hg w36 hbox hb; have GW442 := mk0 (ge_go (a := w.heap.size) hg (below_size z16_2)); have GE442 := GW442; have NB434_442 := mk0 (nb_lt hg (blk_ltB BK434 (pkb BK434))); have NB442_434 := mk0 (nb_gt hg (blk_ltB BK434 (pkb BK434))); have NB435_442 := mk0 (nb_lt hg (blk_ltB BK435 (pkb BK435))); have NB442_435 := mk0 (nb_gt hg (blk_ltB BK435 (pkb BK435))); have NB440_442 := mk0 (nb_lt hg (blk_ltB BK440 (pkb BK440))); have NB442_440 := mk0 (nb_gt hg (blk_ltB BK440 (pkb BK440))); replace HO_441004 := bR HO_441004 hb; replace BK434 := bB BK434 hb; replace BK435 := bB BK435 hb; replace BK440 := bB BK440 hb; replace HB := bS z16_2 hb; have BK442 := mk0 (hbox); clear hb hbox hg; have hnb37 := NB442_434.out; have hnc37 := NB434_442.out; have hnb38 := NB442_435.out; have hnc38 := NB435_442.out; have hnb39 := NB442_440.out; have hnc39 := NB440_442.out; obtain ⟨_, _, _, _, _, _, _, _⟩ := be_4 BK442.out))
   (try simp only [Act.put, List.setIfInBounds_toArray, List.set_cons_zero, List.set_cons_succ])
   go_cut [63] (fun v63 wc => ∃ (kq : Nat) (x63_34 : Bool), v63 = .bool x63_34 ∧ Aside0 (impl_MaskBy.j1 kq l1 (wrap64 (a0_2 - a0_0)) l1 (l1.length : Int) x39_1 x63_34 a0_0 a0_1 a0_2 a0_3 a0_0 a0_1 a0_2 a0_3 x441004_1 ((rd_T95 l1 x39_1).f0) ((rd_T95 l1 x39_1).f1) ((rd_T95 l1 x39_1).f2) ((rd_T95 l1 x39_1).f3) = some (r1, r2, r3, r4, r5, r6)) ∧ Aside0 (kq ≤ k1) ∧ Aside0 (Kd.R (Kd.int .i64) 3 wc w.heap.size (fun _ => True) u441004 x441004_1) ∧ Aside0 (wc.heap[gb434]? = some (.cells #[.int .i64 a0_0, .int .i64 a0_1, .int .i64 a0_2, .int .i64 a0_3] 63 (0, 0))) ∧ Aside0 (wc.heap[gb435]? = some (.cells #[.int .i64 x436000_1, .int .i64 x436001_1, .int .i64 x436002_1, .int .i64 x436003_1, (.slice none 0 0)] 65 (0, 0))) ∧ Aside0 (wc.heap[gb440]? = some (.cells #[.int .i64 a0_0, .int .i64 a0_1, .int .i64 a0_2, .int .i64 a0_3, u441004] 65 (0, 0))) ∧ Aside0 (wc.heap[gb442]? = some (.cells #[.int .i64 ((rd_T95 l1 x39_1).f0), .int .i64 ((rd_T95 l1 x39_1).f1), .int .i64 ((rd_T95 l1 x39_1).f2), .int .i64 ((rd_T95 l1 x39_1).f3)] 95 (0, 0))) ∧ Aside0 (Below w.heap.size w wc))
   case first =>
    have H := HC35.out; clear HC35; obtain ⟨t443, A41, H⟩ := bnd H
    try dsimp only at H
    by_cases c42 : t443 = true
    rotate_left
    ·replace c42 := Bool.eq_false_iff.mpr c42; subst c42; rw [if_neg (show ¬ (false = true) by decide)] at H
     have H' := mk0 H
     clear H; have hnb65 := NB434_435.out; have hnc65 := NB435_434.out; have hnb66 := NB434_440.out; have hnc66 := NB440_434.out; have hnb67 := NB434_442.out; have hnc67 := NB442_434.out; obtain ⟨_, _, _, _, _, _, _, _⟩ := be_4 BK434.out; have hnb69 := NB442_435.out; have hnc69 := NB435_442.out; have hnb70 := NB442_440.out; have hnc70 := NB440_442.out; obtain ⟨_, _, _, _, _, _, _, _⟩ := be_4 BK442.out
     go_wp2_with (first | ((with_reducible refine gate_callee (f := 110) rfl ?_); refine gl_ (some 49) Try.func110 #[.agg #[.int .i64 a0_0, .int .i64 a0_1, .int .i64 a0_2, .int .i64 a0_3], .agg #[.int .i64 ((rd_T95 l1 x39_1).f1), .int .i64 ((rd_T95 l1 x39_1).f0)]] rfl q_0 ?_; (with_reducible refine (impl_InBox.calls a0_0 a0_1 a0_2 a0_3 ((rd_T95 l1 x39_1).f1) ((rd_T95 l1 x39_1).f0) false _ A41.out).mono ?_); rintro e w72 ⟨rfl, hb⟩; refine ⟨_, rfl, ?_⟩; replace HO_441004 := mk0 (Kd.R_below z16_11 hb); replace BK434 := mk0 (blk_belowB BK434 z16_6 hb); replace BK435 := mk0 (blk_belowB BK435 z16_7 hb); replace BK440 := mk0 (blk_belowB BK440 z16_8 hb); replace BK442 := mk0 (blk_below (g := gb442) (o := .cells #[.int .i64 ((rd_T95 l1 x39_1).f0), .int .i64 ((rd_T95 l1 x39_1).f1), .int .i64 ((rd_T95 l1 x39_1).f2), .int .i64 ((rd_T95 l1 x39_1).f3)] 95 (0, 0)) z16_13 hb); replace HB := bS z16_3 hb; clear hb; (try clear hk)))
     go_meet
     case rel => exact ⟨_, (true), rs0, H', ⟨(by have := HK1.out; first | omega | exact Nat.le_refl _)⟩, ⟨pkR HO_441004⟩, ⟨pkb BK434⟩, ⟨pkb BK435⟩, ⟨pkb BK440⟩, ⟨pkb BK442⟩, ⟨z16_3⟩⟩
    subst c42; rw [if_pos rfl] at H
    by_cases c43 : ((rd_T95 l1 x39_1).f2) > a0_2
    ·rw [if_pos c43] at H; have c43b0 := decide_eq_true c43; clear c43
     (first | rw [c43b0] | (simp only [i64_w, i32_w]; rw [c43b0]) | skip)
     have H' := mk0 H
     clear H; have hnb44 := NB434_435.out; have hnc44 := NB435_434.out; have hnb45 := NB434_440.out; have hnc45 := NB440_434.out; have hnb46 := NB434_442.out; have hnc46 := NB442_434.out; obtain ⟨_, _, _, _, _, _, _, _⟩ := be_4 BK434.out; have hnb48 := NB442_435.out; have hnc48 := NB435_442.out; have hnb49 := NB442_440.out; have hnc49 := NB440_442.out; obtain ⟨_, _, _, _, _, _, _, _⟩ := be_4 BK442.out
     go_wp2_with (first | ((with_reducible refine gate_callee (f := 110) rfl ?_); refine gl_ (some 49) Try.func110 #[.agg #[.int .i64 a0_0, .int .i64 a0_1, .int .i64 a0_2, .int .i64 a0_3], .agg #[.int .i64 ((rd_T95 l1 x39_1).f1), .int .i64 ((rd_T95 l1 x39_1).f0)]] rfl q_0 ?_; (with_reducible refine (impl_InBox.calls a0_0 a0_1 a0_2 a0_3 ((rd_T95 l1 x39_1).f1) ((rd_T95 l1 x39_1).f0) true _ A41.out).mono ?_); rintro e w51 ⟨rfl, hb⟩; refine ⟨_, rfl, ?_⟩; replace HO_441004 := mk0 (Kd.R_below z16_11 hb); replace BK434 := mk0 (blk_belowB BK434 z16_6 hb); replace BK435 := mk0 (blk_belowB BK435 z16_7 hb); replace BK440 := mk0 (blk_belowB BK440 z16_8 hb); replace BK442 := mk0 (blk_below (g := gb442) (o := .cells #[.int .i64 ((rd_T95 l1 x39_1).f0), .int .i64 ((rd_T95 l1 x39_1).f1), .int .i64 ((rd_T95 l1 x39_1).f2), .int .i64 ((rd_T95 l1 x39_1).f3)] 95 (0, 0)) z16_13 hb); replace HB := bS z16_3 hb; clear hb; (try clear hk); obtain ⟨_, _, _, _, _, _, _, _⟩ := be_4 BK442.out; obtain ⟨_, _, _, _, _, _, _, _⟩ := be_4 BK434.out))
     go_meet
     case rel => exact ⟨_, (true), rs0, H', ⟨(by have := HK1.out; first | omega | exact Nat.le_refl _)⟩, ⟨pkR HO_441004⟩, ⟨pkb BK434⟩, ⟨pkb BK435⟩, ⟨pkb BK440⟩, ⟨pkb BK442⟩, ⟨z16_3⟩⟩
    rw [if_neg c43] at H; have c43b0 := decide_eq_false c43; clear c43
    (first | rw [c43b0] | (simp only [i64_w, i32_w]; rw [c43b0]) | skip)
    obtain ⟨t444, A54, H⟩ := bnd H
    try dsimp only at H
    have H' := mk0 H
    clear H; have hnb55 := NB434_435.out; have hnc55 := NB435_434.out; have hnb56 := NB434_440.out; have hnc56 := NB440_434.out; have hnb57 := NB434_442.out; have hnc57 := NB442_434.out; obtain ⟨_, _, _, _, _, _, _, _⟩ := be_4 BK434.out; have hnb59 := NB442_435.out; have hnc59 := NB435_442.out; have hnb60 := NB442_440.out; have hnc60 := NB440_442.out; obtain ⟨_, _, _, _, _, _, _, _⟩ := be_4 BK442.out
    go_wp2_with (first | ((with_reducible refine gate_callee (f := 110) rfl ?_); refine gl_ (some 49) Try.func110 #[.agg #[.int .i64 a0_0, .int .i64 a0_1, .int .i64 a0_2, .int .i64 a0_3], .agg #[.int .i64 ((rd_T95 l1 x39_1).f1), .int .i64 ((rd_T95 l1 x39_1).f0)]] rfl q_0 ?_; (with_reducible refine (impl_InBox.calls a0_0 a0_1 a0_2 a0_3 ((rd_T95 l1 x39_1).f1) ((rd_T95 l1 x39_1).f0) true _ A41.out).mono ?_); rintro e w62 ⟨rfl, hb⟩; refine ⟨_, rfl, ?_⟩; replace HO_441004 := mk0 (Kd.R_below z16_11 hb); replace BK434 := mk0 (blk_belowB BK434 z16_6 hb); replace BK435 := mk0 (blk_belowB BK435 z16_7 hb); replace BK440 := mk0 (blk_belowB BK440 z16_8 hb); replace BK442 := mk0 (blk_below (g := gb442) (o := .cells #[.int .i64 ((rd_T95 l1 x39_1).f0), .int .i64 ((rd_T95 l1 x39_1).f1), .int .i64 ((rd_T95 l1 x39_1).f2), .int .i64 ((rd_T95 l1 x39_1).f3)] 95 (0, 0)) z16_13 hb); replace HB := bS z16_3 hb; clear hb; (try clear hk); obtain ⟨_, _, _, _, _, _, _, _⟩ := be_4 BK442.out; obtain ⟨_, _, _, _, _, _, _, _⟩ := be_4 BK434.out) | (go_at_call 72; (with_reducible refine (impl_inRange.calls ((rd_T95 l1 x39_1).f3) 1 15 t444 _ A54.out).mono ?_); rintro e w' ⟨rfl, ⟨nd, rfl⟩⟩))
    go_meet
    case rel => exact ⟨_, (!t444), rs0, H', ⟨(by have := HK1.out; first | omega | exact Nat.le_refl _)⟩, ⟨pkR HO_441004⟩, ⟨pkb BK434⟩, ⟨pkb BK435⟩, ⟨pkb BK440⟩, ⟨pkb BK442⟩, ⟨z16_3⟩⟩
   case rest =>
    clear HC35; try clear c1
    (try clear c32b0); (try clear c33b0); (try clear c34b0); (try clear hx441_0); (try clear hx441_1); (try clear hx441_2); (try clear hx441_3); (try clear p441); (try clear q441); obtain ⟨kq, x63_34, rfl, HA, HJ34, HO_441004, BK434, BK435, BK440, BK442, HB⟩ := hcut
    cases kq with
    | zero => exact absurd HA.out (by simp [impl_MaskBy.j1])
    | succ kj34 =>
     have H := HA.out; clear HA; simp only [impl_MaskBy.j1] at H
     by_cases c73 : x63_34 = true
     ·subst c73; rw [if_pos rfl] at H; simp only [Option.some.injEq, Prod.mk.injEq] at H; obtain ⟨rfl, rfl, rfl, rfl, rfl, rfl⟩ := H; have hnb74 := NB435_434.out; have hnc74 := NB434_435.out; have hnb75 := NB435_440.out; have hnc75 := NB440_435.out; have hnb76 := NB435_442.out; have hnc76 := NB442_435.out; obtain ⟨_, _, _, _, _, _, _, _, _, _⟩ := be_5 BK435.out
      go_wp2
      refine bodyPost_ret (results_ct rfl _ _ gb435 65 #[.int .i64 0, .int .i64 0, .int .i64 0, .int .i64 0, .slice none 0 0] (0, 0) _ rfl z16_12 Try.underlying65 rfl (by kernel_rfl)) rfl ?_
      exact ⟨_, z16_15, q_70, z16_3⟩
     replace c73 := Bool.eq_false_iff.mpr c73; subst c73; rw [if_neg (show ¬ (false = true) by decide)] at H
     have H' := mk0 H
     clear H; have hnb78 := NB442_434.out; have hnc78 := NB434_442.out; have hnb79 := NB442_435.out; have hnc79 := NB435_442.out; have hnb80 := NB442_440.out; have hnc80 := NB440_442.out; obtain ⟨_, _, _, _, _, _, _, _⟩ := be_4 BK442.out
     go_wp2
     go_loopg [10] kj34 (fun kq v10 w' => ∃ (x10_3 : Int) (x441004_3 : List Int) (u441004 : Value), v10 = .int .i64 x10_3 ∧ Aside0 (impl_MaskBy.l1 kq l1 (wrap64 (a0_2 - a0_0)) x10_3 l1 (l1.length : Int) x39_1 a0_0 a0_1 a0_2 a0_3 a0_0 a0_1 a0_2 a0_3 x441004_3 ((rd_T95 l1 x39_1).f0) ((rd_T95 l1 x39_1).f1) ((rd_T95 l1 x39_1).f2) ((rd_T95 l1 x39_1).f3) = some (r1, r2, r3, r4, r5, r6)) ∧ Aside0 (kq ≤ kj34) ∧ Aside0 (Kd.R (Kd.int .i64) 3 w' w.heap.size (fun _ => True) u441004 x441004_3) ∧ Aside0 (w'.heap[gb434]? = some (.cells #[.int .i64 a0_0, .int .i64 a0_1, .int .i64 a0_2, .int .i64 a0_3] 63 (0, 0))) ∧ Aside0 (w'.heap[gb435]? = some (.cells #[.int .i64 x436000_1, .int .i64 x436001_1, .int .i64 x436002_1, .int .i64 x436003_1, (.slice none 0 0)] 65 (0, 0))) ∧ Aside0 (w'.heap[gb440]? = some (.cells #[.int .i64 a0_0, .int .i64 a0_1, .int .i64 a0_2, .int .i64 a0_3, u441004] 65 (0, 0))) ∧ Aside0 (w'.heap[gb442]? = some (.cells #[.int .i64 ((rd_T95 l1 x39_1).f0), .int .i64 ((rd_T95 l1 x39_1).f1), .int .i64 ((rd_T95 l1 x39_1).f2), .int .i64 ((rd_T95 l1 x39_1).f3)] 95 (0, 0))) ∧ Aside0 (Below w.heap.size w w'))
     case atStart => exact ⟨(((rd_T95 l1 x39_1).f1)), (x441004_1), (u441004), rs0, H', ⟨Nat.le_refl _⟩, ⟨pkR HO_441004⟩, ⟨pkb BK434⟩, ⟨pkb BK435⟩, ⟨pkb BK440⟩, ⟨pkb BK442⟩, ⟨z16_3⟩⟩
     case round =>
      clear H'; (try clear c73); obtain ⟨x10_3, x441004_3, u441004, rfl, HA, HK3, HO_441004, BK434, BK435, BK440, BK442, HB⟩ := hrel
      cases gk with
      | zero => exact absurd HA.out (by simp [impl_MaskBy.l1])
      | succ k3 =>
       have H := HA.out; clear HA; simp only [impl_MaskBy.l1] at H
       by_cases c82 : x10_3 < ((rd_T95 l1 x39_1).f2)
       rotate_left
       ·rw [if_neg c82] at H; have c82b0 := decide_eq_false c82; clear c82
        have H' := mk0 H
        clear H; have hnb98 := NB442_434.out; have hnc98 := NB434_442.out; have hnb99 := NB442_435.out; have hnc99 := NB435_442.out; have hnb100 := NB442_440.out; have hnc100 := NB440_442.out; obtain ⟨_, _, _, _, _, _, _, _⟩ := be_4 BK442.out
        go_wp2
        go_roundg k3
        case measure => have := HK1.out; have := HJ34.out; have := HK3.out; omega
        case rel => exact ⟨(wrap64 (x39_1 + 1)), (x436000_1), (x436001_1), (x436002_1), (x436003_1), (x441004_3), (u441004), rs0, H', ⟨(by have := HK1.out; have := HJ34.out; have := HK3.out; omega)⟩, ⟨pkR HO_441004⟩, ⟨pkb BK434⟩, ⟨pkb BK435⟩, ⟨pkb BK440⟩, ⟨z16_3⟩⟩
       rw [if_pos c82] at H; have c82b0 := decide_eq_true c82; clear c82
       obtain ⟨ji83, hji83⟩ : ∃ j_ : Int, (wrap64 ((wrap64 ((wrap64 ((wrap64 (((rd_T95 l1 x39_1).f0) - a0_1)) * (wrap64 (a0_2 - a0_0)))) + x10_3)) - a0_0)) = j_ := ⟨_, rfl⟩
       replace H : (if 0 ≤ (ji83) then (if (ji83) < (x441004_3.length : Int) then (impl_MaskBy.l1 k3 l1 (wrap64 (a0_2 - a0_0)) (wrap64 (x10_3 + 1)) l1 (l1.length : Int) x39_1 a0_0 a0_1 a0_2 a0_3 a0_0 a0_1 a0_2 a0_3 (x441004_3.set ((ji83) : Int).toNat ((rd_T95 l1 x39_1).f3)) ((rd_T95 l1 x39_1).f0) ((rd_T95 l1 x39_1).f1) ((rd_T95 l1 x39_1).f2) ((rd_T95 l1 x39_1).f3)) else (none)) else (none)) = some (r1, r2, r3, r4, r5, r6) := by first | (rw [hji83] at H; exact H) | (simp only [hji83] at H ⊢; exact H)
       have hji83w : (IntKind.i64.wrap ((wrap64 ((wrap64 ((wrap64 (((rd_T95 l1 x39_1).f0) - a0_1)) * (wrap64 (a0_2 - a0_0)))) + x10_3)) - a0_0)) = ji83 := (i64_w _).trans hji83
       by_cases c84 : 0 ≤ (ji83)
       rotate_left
       ·rw [if_neg c84] at H
        exact absurd H (by simp)
       rw [if_pos c84] at H; have c84b0 := decide_eq_true c84; clear c84
       by_cases c85 : (ji83) < (x441004_3.length : Int)
       rotate_left
       ·rw [if_neg c85] at H
        exact absurd H (by simp)
       rw [if_pos c85] at H; have c85b0 := decide_eq_true c85; clear c85
       obtain ⟨y445, hy_⟩ : ∃ y_ : List Int, y_ = (x441004_3.set ((ji83) : Int).toNat ((rd_T95 l1 x39_1).f3)) := ⟨_, rfl⟩
       replace H : (impl_MaskBy.l1 k3 l1 (wrap64 (a0_2 - a0_0)) (wrap64 (x10_3 + 1)) l1 (l1.length : Int) x39_1 a0_0 a0_1 a0_2 a0_3 a0_0 a0_1 a0_2 a0_3 y445 ((rd_T95 l1 x39_1).f0) ((rd_T95 l1 x39_1).f1) ((rd_T95 l1 x39_1).f2) ((rd_T95 l1 x39_1).f3)) = some (r1, r2, r3, r4, r5, r6) := q_69
       have Ny445 := mk0 hy_; clear hy_
       have H' := mk0 H
       clear H; have hnb87 := NB442_434.out; have hnc87 := NB434_442.out; have hnb88 := NB442_435.out; have hnc88 := NB435_442.out; have hnb89 := NB442_440.out; have hnc89 := NB440_442.out; obtain ⟨_, _, _, _, _, _, _, _⟩ := be_4 BK442.out; have hnb91 := NB440_434.out; have hnc91 := NB434_440.out; have hnb92 := NB440_435.out; have hnc92 := NB435_440.out; obtain ⟨_, _, _, _, _, _, _, _, _, _⟩ := be_5 BK440.out; have hnb94 := NB434_435.out; have hnc94 := NB435_434.out; obtain ⟨_, _, _, _, _, _, _, _⟩ := be_4 BK434.out
       have p86 : 0 ≤ ((ji83) : Int) := of_decide_eq_true (by first | (with_reducible assumption) | assumption)
       have q86 : ((ji83) : Int) < ((x441004_3.length : Int) : Int) := of_decide_eq_true (by first | (with_reducible assumption) | assumption)
       obtain ⟨go86, co86, eo86, gb86, gl86, cl86, HG86⟩ := Kd.R_form HO_441004.out (by omega)
       (first | cases eo86 | (injection eo86 with ea_ en_ ec_; (first | subst ea_ | (injection ea_ with ea_; subst ea_)); subst ec_; clear en_))
       have GB86 := mk0 gb86; have GG86 := mk0 HG86; clear gb86 gl86 HG86; obtain ⟨hx86_0, hf86_0⟩ := Kd.R_celln 0 HO_441004.out ((ji83) : Int) p86 q86; replace p86 := eq_true p86; replace q86 := eq_true q86; have HP96 := Kd.R_putg HO_441004.out ((ji83) : Int) ((rd_T95 l1 x39_1).f3)
       go_wp2_with (first | ((with_reducible refine gate_store (t := 3) (p := 89) rfl ?_); refine store_event (t := 3) (p := 89) (v := ?vo_w97) (w1 := (wr.setCell ⟨go86, ((ji83) : Int).toNat, none⟩ (.int .i64 ((rd_T95 l1 x39_1).f3)))) ?hg ?ho ?hn ?hr ?_; (case ho => rfl); (case hg => rfl); (case hn => rfl); (case hr => first | (go_simp; done) | (go_simp; rfl) | (obtain ⟨Aq_, cq_, eq_⟩ := Kd.R_slice HO_441004.out; subst eq_; first | (go_simp; done) | (go_simp; rfl))); intro w97 hw; have hg : wr.grownBy w97 (some go86) := (by rw [hw]; exact HP96.2); have hp_ : Kd.R (Kd.int .i64) 3 w97 w.heap.size (fun _ => True) (.slice (some ⟨go86, 0, none⟩) x441004_3.length co86) y445 := (by rw [hw, Ny445.out]; exact HP96.1); clear HP96; replace BK434 := mk0 (blk_grown (g := gb434) (o := .cells #[.int .i64 a0_0, .int .i64 a0_1, .int .i64 a0_2, .int .i64 a0_3] 63 (0, 0)) (pkb BK434) hg (Kd.R_ne HO_441004.out BK434.out (by decide))); replace BK435 := mk0 (blk_grown (g := gb435) (o := .cells #[.int .i64 x436000_1, .int .i64 x436001_1, .int .i64 x436002_1, .int .i64 x436003_1, .slice none 0 0] 65 (0, 0)) (pkb BK435) hg (Kd.R_ne HO_441004.out BK435.out (by decide))); replace BK440 := mk0 (blk_grown (g := gb440) (o := .cells #[.int .i64 a0_0, .int .i64 a0_1, .int .i64 a0_2, .int .i64 a0_3, .slice (some ⟨go86, 0, none⟩) x441004_3.length co86] 65 (0, 0)) (pkb BK440) hg (Kd.R_ne HO_441004.out BK440.out (by decide))); replace BK442 := mk0 (blk_grown (g := gb442) (o := .cells #[.int .i64 ((rd_T95 l1 x39_1).f0), .int .i64 ((rd_T95 l1 x39_1).f1), .int .i64 ((rd_T95 l1 x39_1).f2), .int .i64 ((rd_T95 l1 x39_1).f3)] 95 (0, 0)) (pkb BK442) hg (Kd.R_ne HO_441004.out BK442.out (by decide))); replace HO_441004 := mk0 (hp_); replace HB := mk0 ((by rw [hw]; exact below_set (HB.out) GB86.out : Below w.heap.size w w97)); clear hg hw hp_))
       go_roundg k3
       case measure => have := HK1.out; have := HJ34.out; have := HK3.out; omega
       case rel => exact ⟨(wrap64 (x10_3 + 1)), (y445), (.slice (some ⟨go86, 0, none⟩) x441004_3.length co86), rs0, H', ⟨(by have := HK1.out; have := HJ34.out; have := HK3.out; omega)⟩, ⟨pkR HO_441004⟩, ⟨pkb BK434⟩, ⟨pkb BK435⟩, ⟨pkb BK440⟩, ⟨pkb BK442⟩, ⟨z16_3⟩⟩

end Go.Proofs.Ytghbenapnhcllaa.MFnMasks
